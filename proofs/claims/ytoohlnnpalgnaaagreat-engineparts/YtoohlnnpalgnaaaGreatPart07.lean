/- T24 T25 G1 G2 SortL KinL K1 K2 F6 F7 F8 F9 G3 G4 K3 K4 KGoL SplitL S1 SortQ HullG RawL NewsL BegL TurnL PairN DetL -/
import Derived.Test.YtoohlnnpalgnaaaGreatPart06
import Derived.Test.YtoohlnnpalgnaaaGreatPart00
import Derived.Test.YtoohlnnpalgnaaaGreatPart05
import Derived.Test.YtoohlnnpalgnaaaGreatPart04
set_option linter.all false
namespace Orq
open Orr Go
theorem Qgo:∀{k:Nat} {a b:Uo} {l:Up},sC k a b=some l->∀p∈l,p.length≠0
 | 0,_,_,_,h=>by cases h
 |
  k+1,a,b,l,h=>by
  simp only[sC]at h
  split at h
  ·injection h with h;subst h;exact λp hp=>by cases hp
  ·rename_i h0;obtain⟨r,_,h⟩:=Qd.1 h;obtain⟨l',h1,h⟩:=Qd.1 h;injection h with h;subst h;intro p hp;rcases Ql.1 hp with rfl|hp
   ·exact h0
   ·exact Qgo h1 p hp
theorem Okp.pb{n s:Nat}{p:Uo}(h:Okp n s p)(hs:s<=16777216):Pb p:=⟨h.t,by have:=h.l;have:=h.z.1;omega,U5 h.b hs⟩
theorem Qbz{p:Uo}{q:Uo}{l:Up}(hp:Pb p)(h:Ea p=some (q::l))(hq:q.length≠0):∀r∈q::l,Fe r/\r.length≠0:=by
 have h1:=(Orr.chain_ok hp h).2;unfold Ea at h;obtain⟨a,_,h⟩:=Qd.1 h
 split at h
 ·cases h
 ·obtain⟨d,_,h⟩:=Qd.1 h;obtain⟨l',h3,h⟩:=Qd.1 h;injection h with h;injection h with e1 e2;subst e1;subst e2;intro r hr;refine⟨(h1 r hr).t,?_⟩;rcases Ql.1 hr with rfl|hr
  ·exact hq
  ·exact Qgo h3 r hr
inductive RI (q:List Int) (L:List (List Rat)):Rat->List Tm->Rat->Prop
 |nil {lo hi:Rat} (h:lo<=hi) (hv:vv L lo=vv L hi):RI q L lo [] hi
 |cons {lo hi:Rat} {t:Tm} {l:List Tm} (h:lo<=t.lo) (hv:vv L lo=vv L t.lo) (ht:Vt (cz q) L t.lo t.hi) (hp:t.p=q) (hl:RI q L t.hi l hi):RI q L lo (t::l) hi
theorem RI.app{q:Uo}{L:Us}{lo m hi:Rat}{l l':List Tm}(h:RI q L lo l m)(h':RI q L m l' hi):RI q L lo (l++l') hi:=by
 induction h with
 |
  nil h hv =>
  cases h' with
  |nil h2 hv2=>exact .nil (by grind) (by omega)
  |cons h2 hv2 ht hp hl=>exact .cons (by grind) (by omega) ht hp hl
 |cons h hv ht hp _ ih=>exact .cons h hv ht hp (ih h')
theorem Qgr{D M k:Nat}{m:Rat}(h:Gr D M k m)(hM:0<M)(hs:Fc (D:Int)+Fc (M:Int)+k<=16777216):chq m=some m:=by
 have:=qZ h hM hs;unfold chq;rw[if_pos ⟨this.1,this.2⟩]
theorem NQ{q:Uo}{c:Up}(hS:GO (cz q) (c.map cz))(tq:Fe q)(nq:q.length<=9)(hc1:q.length<2->c=[q]){D M F:Nat}(hM:0<M):∀(k j:Nat) (lo hi:Rat),lo<hi->Gr D M j lo->Gr D M j hi->Fc (D:Int)+Fc (M:Int)+(j+k)<=16777216->(hi-lo)*((2^(T0 q q+1):Nat):Rat)<=((2^k:Nat):Rat) ->
 ∃l,Im q c (F+k+1) lo hi ((vv (c.map cz) lo:Int)-(vv (c.map cz) hi:Int))=some l/\RI q (c.map cz) lo l hi/\∀t∈l,∃k',k'≤j+k/\Gr D M k' t.lo/\Gr D M k' t.hi:=by
 intro k
 induction k with
 |
  zero =>
  intro j lo hi hl g1 g2 hs hK;have hle:=Ay hS hl;have h2:vv (c.map cz) lo<vv (c.map cz) hi+2:=by
   rcases Zc (vv (c.map cz) lo) (vv (c.map cz) hi+2)with h|h
   ·exact h
   ·exfalso;have lq:2<=q.length:=by
     rcases Zc q.length 2 with e|e
     ·have hvv:∀x,vv (c.map cz) x=vv (c.map cz) 0:=λx=>by
       rcases hS with⟨c0,hc0,hcc,hl'⟩|⟨g',l',k',hk,hg,hsc,hl'⟩
       ·rw[hl'];simp only[vv,tc,hcc]
       ·rw[hc1 e]at hl';cases hl'
      rw[hvv lo,hvv hi]at h;omega
     ·exact e
    have:=Qq3 hS tq nq lq hl h;rw[Ve]at hK;have h7:((1:Nat):Rat)=1:=rfl;rw[h7]at hK;grind
  simp only[Im];by_cases e0:vv (c.map cz) lo=vv (c.map cz) hi
  ·rw[if_pos (by omega)];exact⟨[],rfl,.nil (Qt hl) e0,λt ht=>by cases ht⟩
  ·rw[if_neg (by omega),if_pos (by omega)];refine⟨[⟨q,lo,hi⟩],rfl,.cons Qq rfl ⟨hS,hl,by show vv _ lo=vv _ hi+1;omega⟩ rfl (.nil Qq rfl),λt ht=>?_⟩;rw[Qk.1 ht];exact⟨j,by omega,g1,g2⟩
 |
  succ k ih =>
  intro j lo hi hl g1 g2 hs hK;have hle:=Ay hS hl;show ∃l,(if (vv (c.map cz) lo:Int)-(vv (c.map cz) hi:Int)=0 then some []else if (vv (c.map cz) lo:Int)-(vv (c.map cz) hi:Int)=1 then some [⟨q,lo,hi⟩]else(chq (mid lo hi)).bind λm=>(Im q c (F+k+1) lo m (Tq c lo m)).bind λl=>(Im q c (F+k+1) m hi ((vv (c.map cz) lo:Int)-(vv (c.map cz) hi:Int)-Tq c lo m)).bind λr=>some (l++r))=some l/\_;by_cases e0:vv (c.map cz) lo=vv (c.map cz) hi
  ·rw[if_pos (by omega)];exact⟨[],rfl,.nil (Qt hl) e0,λt ht=>by cases ht⟩
  by_cases e1:vv (c.map cz) lo=vv (c.map cz) hi+1
  ·rw[if_neg (by omega),if_pos (by omega)];refine⟨[⟨q,lo,hi⟩],rfl,.cons Qq rfl ⟨hS,hl,e1⟩ rfl (.nil Qq rfl),λt ht=>?_⟩;rw[Qk.1 ht];exact⟨j,by omega,g1,g2⟩
  ·rw[if_neg (by omega),if_neg (by omega)];obtain⟨m,hm⟩:=nmE ((lo+hi) / 2);have h2:(lo+hi) / 2*2=lo+hi:=Hf (by decide);rw[<-hm]at h2;have gm:Gr D M (j+1) m:=by rw[hm];exact Qh6 g1 g2
   have l1:lo<m:=by grind
   have l2:m<hi:=by grind
   rw[bZ,<-hm,Qgr gm hM (by omega)];show ∃l,((Im q c (F+k+1) lo m (Tq c lo m)).bind λl=>(Im q c (F+k+1) m hi ((vv (c.map cz) lo:Int)-(vv (c.map cz) hi:Int)-Tq c lo m)).bind λr=>some (l++r))=some l/\_;rw[QX (Qt l1),show(vv (c.map cz) lo:Int)-(vv (c.map cz) hi:Int)-((vv (c.map cz) lo:Int)-(vv (c.map cz) m:Int))=(vv (c.map cz) m:Int)-(vv (c.map cz) hi:Int) by omega];rw[rT k]at hK;have hp:∀x y:Rat,(y-x)*2=hi-lo->(y-x)*((2^(T0 q q+1):Nat):Rat)<=((2^k:Nat):Rat):=λx y h=>by
    have:(y-x)*((2^(T0 q q+1):Nat):Rat)*2=(hi-lo)*((2^(T0 q q+1):Nat):Rat):=by rw[<-h];grind
    grind
   obtain⟨la,a1,a2,a3⟩:=ih (j+1) lo m l1 (qX g1) gm (by omega) (hp lo m (by grind));obtain⟨lb,b1,b2,b3⟩:=ih (j+1) m hi l2 gm (qX g2) (by omega) (hp m hi (by grind));rw[a1];show ∃l,((Im q c (F+k+1) m hi ((vv (c.map cz) m:Int)-(vv (c.map cz) hi:Int))).bind λr=>some (la++r))=some l/\_;rw[b1];refine⟨la++lb,rfl,a2.app b2,λt ht=>?_⟩;rcases Qp.1 ht with ht|ht
   ·obtain⟨k',h1,h2,h3⟩:=a3 t ht;exact⟨k',by omega,h2,h3⟩
   ·obtain⟨k',h1,h2,h3⟩:=b3 t ht;exact⟨k',by omega,h2,h3⟩
theorem Qva{D M k:Nat}{q:Rat}(h:Gr D M k q):Gr D M k (-q):=by
 obtain⟨u,hu⟩:=h.u;exact⟨⟨-u,by rw[Vn,<-hu];grind⟩,by rw[Er];exact h.b,h.d⟩
theorem fR{m s:Nat}(h:m<2^s):Fc ((m+1:Nat):Int)<=s+1:=by
 rw[S0,Xi,Zr];omega
theorem Qcq{z:Int}{s:Nat}(h:Fc z<=s):Fc ((z.natAbs+1:Nat):Int)<=s+1:=fR (S0.1 h)
theorem Qqs{x:Rat}{m s g N:Nat}(hx:x<=2*((m+1:Nat):Rat))(hm:m+1<=2^s)(hN:s+1+g<=N):x*((2^g:Nat):Rat)<=((2^N:Nat):Rat):=by
 have h3:=Zm.2 hm;have e:=rT s;have h4:(0:Rat)<=((2^s:Nat):Rat):=Xj;have h1:x<=((2^(s+1):Nat):Rat):=by rw[e];grind
 have h5:(0:Rat)<=((2^g:Nat):Rat):=Xj;refine Zl (Zf h1 h5) ?_;have h6:2^(s+1)*2^g<=2^N:=by
  rw[<-Xg];exact Zs (by decide) hN
 have:=Zm.2 h6;rw[Rat.natCast_mul]at this;exact this
theorem Qmm{s:Nat}{l:Uo}(h:Bd s l):most l<2^s:=by
 have key:∀(l:Uo) (m:Nat),m<2^s->Bd s l->l.foldl (λm z=>if m<z.natAbs then z.natAbs else m) m<2^s:=by
  intro l
  induction l with
  |nil=>exact λm h _=>h
  |
   cons y l ih =>
   intro m hm hb;simp only[Z5];refine ih _ ?_ λz hz=>hb z (Qg _ hz)
   have:=hb y (Qy ..);rw[S0]at this
   split <;> assumption
 exact key l 0 (Z2 (by decide)) h
theorem Que{p q:Uo}(h:IL p=some q):q=p:=by
 unfold IL at h
 split at h
 ·injection h with h;exact h.symm
 ·cases h
theorem Qdh{s N:Nat}{p:Uo}(hNe:N=63*s+5160)(hs9:s≤1180)(h:Okp 9 s p):∃q c l,Po p=some q/\Ea p=some c/\SI p=some l/\GO (cz q) (c.map cz)/\RI q (c.map cz) (-Gz q) l (Gz q)/\(∀t∈l,Va t)/\(∀x y,x<y->Gz q≤x\/y≤-Gz q->vv (c.map cz) x=vv (c.map cz) y)/\q.length≤p.length/\∀t∈l,t.p=q/\t.lo<t.hi/\Bd (s+69) q/\∃D M k,Gr D M k t.lo/\Gr D M k t.hi/\0<M/\Fc (D:Int)≤s+69/\Fc (M:Int)≤s+70/\k≤N:=by
 obtain⟨pp,hpl,hpb⟩:=h.pr;obtain⟨g,q',hq',sq⟩:=VX h;obtain⟨q,l,q1,q2,hS,hl0⟩:=chain_ok h;rw[hq']at q1;injection q1 with q1;subst q1;have e1:∀t,U8 (Fh p) t=U8 q' t*U8 g t:=λt=>by rw[sq.e];grind
 obtain⟨p1,p2⟩:=Ti pp.t pp.n e1;have hch:sC 66 q' (Fh (Gy q'))=some l:=by
  have h2:=q2;unfold Ea at h2;rw[hq']at h2;simp only[Ja]at h2
  split at h2
  ·cases h2
  ·cases hd:IL (Gy q')with
   |none=>rw[hd]at h2;cases h2
   |
    some d =>
    rw[hd]at h2;simp only[Ja]at h2;obtain rfl:d=Gy q':=Que hd;cases hc:sC 66 q' (Fh (Gy q'))with
    |none=>rw[hc]at h2;cases h2
    |some l'=>rw[hc]at h2;simp at h2;rw[h2]
 have hll:=Mv sq.pq.t sq.pg.t pp.t e1 p1 p2;have hl9:=h.l;have bq:Bd (s+69) q':=XV hpb (by omega) pp.t sq.pq.t sq.pg.t pp.n e1;have hall:=Qbz (h.pb (by omega)) q2 sq.pq.n;have hld:Fp q'≠0:=by have:=sq.pq.l;omega
 have hb1:=HV hld;obtain⟨D,hD⟩:=nmE ((Fp q').natAbs);obtain⟨m,hm⟩:=nmE (most (q'.take (q'.length-1)));have hm2:m<2^(s+69):=by rw[hm];exact Qmm (s:=s+69) λz hz=>bq z (Qn hz)
 have hD0:0<D:=by omega
 have hDs:Fc (D:Int)<=s+69:=by
  have:=Ni bq;rw[S0]at this ⊢;rw[Xi,hD];exact this
 have hbe:=BZ hld;rw[<-hD,<-hm]at hbe;have hDq:=nat_pos hD0;have hbm:Gz q'<=((m+1:Nat):Rat):=by
  have hD1:(1:Rat)<=(D:Rat):=by
   have:((1:Nat):Rat)<=(D:Rat):=Zm.2 hD0;exact this
  have hm0:(0:Rat)<=(m:Rat):=Xj;have h3:=Cn (a:=(m:Rat)) (c:=1) hm0 Qq (by decide) hD1;rcases Gg (Gz q') ((m+1:Nat):Rat)with h'|h'
  ·exact h'
  ·exfalso;have:=Vz h' hDq
   push_cast at this;grind
 have gb:Gr D (m+1) 0 (Gz q'):=by
  refine⟨⟨(D+m:Nat),?_⟩,?_,hD0⟩
  ·rw[Ve,Yx,hbe];rw[show((((D+m:Nat):Int)):Rat)=((D+m:Nat):Rat) from rfl];push_cast;rfl
  ·have:Fi (Gz q')=Gz q':=by unfold Fi;rw[if_neg (by grind)]
   rw[this];exact hbm
 have hMs:Fc ((m+1:Nat):Int)<=s+69+1:=fR (s:=s+69) hm2;have hK:(Gz q' - -Gz q')*((2^(T0 q' q'+1):Nat):Rat)<=((2^N:Nat):Rat):=by
  have hps:=O1 bq;have hg:T0 q' q'<=(2*s+164)*31:=by
   unfold T0;exact Zd (by omega) (by omega)
  exact Qqs (s:=s+69) (g:=T0 q' q'+1) (N:=N) (by grind) hm2 (by omega)
 have hN:Fc (D:Int)+Fc ((m+1:Nat):Int)+(0+N)<=16777216:=by omega
 obtain⟨F,hFe⟩:=nmE (99999-N);obtain⟨ls,r1,r2,r3⟩:=NQ (F:=F) hS sq.pq.t (by omega) (λh=>by rw[hl0 h]) (W7 m) N 0 (-Gz q') (Gz q') (by grind) (Qva gb) gb hN hK;rw[show F+N+1=100000 by omega]at r1;have hchq:chq (Gz q')=some (Gz q'):=Qgr gb (W7 m) (by omega);have key:∀t∈ls,Va t/\t.p=q'/\t.lo<t.hi/\Bd (s+69) q'/\∃D M k,Gr D M k t.lo/\Gr D M k t.hi/\0<M/\Fc (D:Int)≤s+69/\Fc (M:Int)≤s+70/\k≤N:=λt ht=>by
  obtain⟨k',k1,k2,k3⟩:=r3 t ht;have hmem:∀{lo hi:Rat} {ls:List Tm},RI q' ((q'::l).map cz) lo ls hi->t∈ls->Vt (cz q') ((q'::l).map cz) t.lo t.hi/\t.p=q':=λh=>by
   induction h with
   |nil=>intro ht;cases ht
   |
    cons h hv ht' hp hl ih =>
    intro ht;rcases Ql.1 ht with rfl|ht
    ·exact⟨ht',hp⟩
    ·exact ih ht
  obtain⟨v1,v2⟩:=hmem r2 ht;have lq2:2<=q'.length:=by
   rcases Zc q'.length 2 with e|e
   ·exfalso;have hvv:∀x,vv ((q'::l).map cz) x=0:=λx=>by
     rw[hl0 e,sq.pq.one e];have hv1:∀x:Rat,ev (cz [1]) x=1:=λx=>by rw[U9,Nz]
     simp only[Zz,X7,vv,tc,hv1];have:Ff 1=1:=by decide
     rw[this];decide
    have:=v1.v;rw[hvv,hvv]at this;omega
   ·exact e
  exact⟨⟨.inr ⟨_,by rw[v2];exact v1⟩,by rw[v2];exact sq.pq.t,by rw[v2];omega,by rw[v2];exact lq2,by rw[v2];exact U5 bq (by omega),λ_=>by rw[v2];exact U5 bq (by omega),λ_=>by rw[v2];exact⟨l,_,g,hch,sq,v1⟩,D,m+1,k',k2,k3,W7 m,Qc (show _<=1000000 by omega) (Qve t)⟩,v2,v1.l,bq,D,m+1,k',k2,k3,W7 m,hDs,Qc hMs (Qm (s+70)),by rw[Zy]at k1;exact k1⟩
 refine⟨q',q'::l,ls,hq',q2,?_,hS,r2,λt ht=>(key t ht).1,λx y hxy hb=>dR hS sq.pq.t sq.pq.n hxy hb (by grind),by omega,λt ht=>(key t ht).2⟩
 ·unfold SI;rw[q2,hq'];show(chq (Gz q')).bind _=_;rw[hchq];simp only[Ja];rw[Qdg hS hall];exact r1
theorem Qkf{s:Nat}{p:Uo}(hs9:s≤1180)(h:Okp 9 s p):∃q c l,Po p=some q/\Ea p=some c/\SI p=some l/\GO (cz q) (c.map cz)/\RI q (c.map cz) (-Gz q) l (Gz q)/\(∀t∈l,Va t)/\(∀x y,x<y->Gz q≤x\/y≤-Gz q->vv (c.map cz) x=vv (c.map cz) y)/\q.length≤p.length/\∀t∈l,t.p=q/\t.lo<t.hi/\Bd (s+69) q/\∃D M k,Gr D M k t.lo/\Gr D M k t.hi/\0<M/\Fc (D:Int)≤s+69/\Fc (M:Int)≤s+70/\k≤63*s+5160:=Qdh rfl hs9 h
theorem Qke{p:Uo}(h:Okp 9 1180 p):∃q c l,Po p=some q/\Ea p=some c/\SI p=some l/\GO (cz q) (c.map cz)/\RI q (c.map cz) (-Gz q) l (Gz q)/\(∀t∈l,Va t)/\(∀x y,x<y->Gz q≤x\/y≤-Gz q->vv (c.map cz) x=vv (c.map cz) y):=by
 obtain⟨q,c,l,h1,h2,h3,h4,h5,h6,h7,_⟩:=Qkf (Qm _) h;exact⟨q,c,l,h1,h2,h3,h4,h5,h6,h7⟩
theorem Eg{q:Uo}{L:Us}(hS:GO (cz q) L){c:Rat->Int}(hc:Cut c){lo:Rat}(hH:∀z,c z=-1->z<=lo->vv L z=vv L lo){y0:Rat}(hy:c y0=-1)(hv:∀z,lo<z->z<=y0->vv L z=vv L lo):∃s,s≠0/\∀z,c z=-1->z<=y0->Ff (ev (cz q) z)=s:=by
 have hall:∀z,c z=-1->z<=y0->vv L z=vv L lo:=λz h1 h2=>by
  rcases Gg z lo with e|e
  ·exact hH z h1 e
  ·exact hv z e h2
 have hne:∀z,c z=-1->z<=y0->Ff (ev (cz q) z)≠0:=λz h1 h2=>by
  obtain⟨w,w1,w2⟩:=hc.dn z h1;have:=kZ hS w1 (by rw[hall w w2 (by grind),hall z h1 h2]);rw[this.s];exact this.n
 refine⟨Ff (ev (cz q) y0),hne y0 hy Qq,λz h1 h2=>?_⟩;rcases Classical.em (z=y0)with e|e
 ·rw[e]
 ·have:=kZ hS (x:=z) (y:=y0) (by grind) (by rw[hall z h1 h2,hall y0 hy Qq]);rw[this.s,Al (hne z h1 h2)]
structure Fst(o:List Int)(a t:Tm):Prop where
 lt:Nv a t
 s:∃s,s≠0/\(∀z,Fo a z=-1->Fo t z=1->Ff (ev (cz o) z)=s)/\RS (cz o) (Fo t) (-s)
def Non(o:Uo)(a:Tm):Prop:=∃s,s≠0/\∀z,Fo a z=-1->Ff (ev (cz o) z)=s
theorem Qcy{q:Uo}{L:Us}(hS:GO (cz q) L){a:Tm}(ha:Va a){lo hi:Rat}{l:List Tm}(hR:RI q L lo l hi):(∀t∈l,Va t)->(∀z,hi<z->vv L z=vv L hi)->(∀z,Fo a z=-1->z≤lo->vv L z=vv L lo)->∃r,VE a l=some r/\match r with
 |none=>Non q a
 |some t=>t∈l/\Fst q a t:=by
 have ca:=ha.cut
 induction hR with
 |
  @nil lo hi h hv =>
  intro _ hhi hH;refine⟨none,rfl,?_⟩;obtain⟨y1,hy1⟩:=ca.hi;have hall:∀z,lo<z->vv L z=vv L lo:=λz hz=>by
   rcases Gg z hi with e|e
   ·have h1:=Ay hS hz;have h2:vv L hi<=vv L z:=by
     rcases Classical.em (z=hi)with e'|e'
     ·rw[e'];exact Qm _
     ·exact Ay hS (by grind)
    omega
   ·rw[hhi z e,hv]
  obtain⟨s,s0,hs⟩:=Eg hS ca hH hy1 λz h1 _=>hall z h1
  refine⟨s,s0,λz hz=>?_⟩;rcases Gg z y1 with e|e
  ·exact hs z hz e
  ·obtain⟨s',s0',hs'⟩:=Eg hS ca hH hz λz h1 _=>hall z h1
   rw[hs' z hz Qq,<-hs' y1 hy1 (Qt e),hs y1 hy1 Qq]
 |
  @cons lo hi t l h hv ht hp hl ih =>
  intro hV hhi hH;have hvt:=hV t (Qy ..);have ct:=hvt.cut;have ht':=ht;rw[<-hp]at ht';have ect:∀z,Fo t z=cq (cz t.p) t.lo t.hi z:=Cg ht.l;obtain⟨c,c1,c2⟩:=UG hvt ha;show ∃r,((UF t a).bind λc=>if 0<c then some (some t)else VE a l)=some r/\_;rw[c1];show ∃r,(if 0<c then some (some t)else VE a l)=some r/\_;have hlo1:Fo t t.lo=1:=by rw[ect];exact Ae Qq
  have hlow:∀z,lo<z->Fo t z=1->vv L z=vv L lo:=λz h1 h2=>by
   rcases Gg z t.lo with e|e
   ·have a1:=Ay hS h1;have a2:vv L t.lo<=vv L z:=by
     rcases Classical.em (z=t.lo)with e'|e'
     ·rw[e'];exact Qm _
     ·exact Ay hS (by grind)
    omega
   ·rw[ect]at h2;have hz:z<=t.hi:=by
     rcases Gg z t.hi with e'|e'
     ·exact e'
     ·rw[UR ht.l e']at h2;omega
    rw[ht'.eq_lo e hz h2,hv]
  by_cases hc:0<c
  ·rw[if_pos hc];refine⟨some t,rfl,Qy ..,?_⟩;have hlt:Nv a t:=by
    rcases c2 with⟨e,_⟩|⟨e,_⟩|⟨_,h⟩
    ·omega
    ·omega
    ·exact h
   refine⟨hlt,?_⟩;obtain⟨m,m1,m2⟩:=hlt;obtain⟨s,s0,hs⟩:=Eg hS ca hH m1 λz h1 h2=>hlow z h1 (by
    rcases Classical.em (z=m)with e|e
    ·rw[e];exact m2
    ·exact ct.mono' (q:=z) (r:=m) (by grind) (by omega))
   have hall:∀z,Fo a z=-1->Fo t z=1->Ff (ev (cz q) z)=s:=λz h1 h2=>by
    rcases Gg z m with e|e
    ·exact hs z h1 e
    ·obtain⟨s',s0',hs'⟩:=Eg hS ca hH h1 λw w1 w2=>hlow w w1 (by
      rcases Classical.em (w=z)with e|e
      ·rw[e];exact h2
      ·exact ct.mono' (q:=w) (r:=z) (by grind) (by omega))
     rw[hs' z h1 Qq,<-hs' m m1 (Qt e),hs m m1 Qq]
   refine⟨s,s0,hall,?_⟩;obtain⟨w,w1,w2,w3⟩:=CZ ct m2 hlo1;have hwa:Fo a w=-1:=ca.mono m w w2 (by omega);have hsw:=hall w hwa w1;have hwh:w<t.hi:=by
    rw[ect]at w1;rcases Gg t.hi w with e|e
    ·have:=ht'.hi1;rcases Classical.em (t.hi=w)with e'|e'
     ·rw[<-e']at w1;exact absurd w1 this
     ·rw[UR ht.l (by grind)]at w1;omega
    ·exact e
   have hww:vv L w=vv L t.lo:=ht'.eq_lo w3 (Qt hwh) (by rw[<-ect];exact w1);have hvv:=ht.v;have hone:=kQ hS hwh (by omega);have hlw:Pq (cz q) w=s:=by rw[Al (by rw[hsw];exact s0),hsw]
   rw[hlw]at hone;have hd:∀z,w<z->z<=t.hi->Fo t z=-1->Ff (ev (cz q) z)=-s:=λz z1 z2 z3=>by
    rw[ect]at z3;have e1:=ht'.eq_hi (by grind) z2 (by omega);have e2:=kQ hS z1 (by omega);rw[hlw]at e2;have hz0:Ff (ev (cz q) z)≠0:=by
     rw[Ir (by grind) z2,hp]at z3;intro h0;rw[if_pos h0]at z3;omega
    rw[Al hz0]at e2;exact e2.2
   rcases ct.val t.hi with e|e|e
   ·rw[ect]at e;exact absurd e ht'.hi1
   ·obtain⟨d,dp,hd'⟩:=Qyj (p:=cz q) (x:=t.hi) (by rw[hone.2];omega);refine⟨t.hi+d,ct.mono t.hi _ (by grind) (by omega),λz h1 h2=>?_⟩;have hz:t.hi<z:=by
     rcases Gg z t.hi with e'|e'
     ·rcases Classical.em (z=t.hi)with e''|e''
      ·rw[e'']at h1;omega
      ·have:=ct.mono z t.hi (by grind) (by omega);omega
     ·exact e'
    rw[hd' z hz (by grind),hone.2]
   ·exact⟨t.hi,e,λz h1 h2=>hd z (ct.lt w1 h1) h2 h1⟩
  ·rw[if_neg hc];have hle:¬Nv a t:=λh=>by
    rcases c2 with⟨e,h'⟩|⟨e,h'⟩|⟨e,_⟩
    ·exact Iw ct ca h' h
    ·obtain⟨z,z1,z2⟩:=h;have:=h' z;omega
    ·omega
   obtain⟨r,r1,r2⟩:=ih (λx hx=>hV x (Qg _ hx)) hhi λz z1 z2=>by
    have hz:Fo t z≠1:=λh=>hle ⟨z,z1,h⟩
    have hzl:t.lo<z:=by
     rcases Gg z t.lo with e|e
     ·refine absurd ?_ hz;rw[ect];exact Ae e
     ·exact e
    exact ht'.eq_hi hzl z2 (by rw[<-ect];exact hz)
   refine⟨r,r1,?_⟩;cases r with
   |none=>exact r2
   |some x=>exact⟨Qg _ r2.1,r2.2⟩
theorem Qso{c:Rat->Int}(hc:Cut c):∀(n:Nat) (f:Ur),HD f n->∃s,s≠0/\RS f c s
 |
  n,f,h=>by
  rcases JD hc f with hv|⟨s,hs,hn⟩
  ·cases n with
   |
    zero =>
    exfalso;obtain⟨q,hq,_⟩:=gU hc (hv (Fi (f.getD 0 0)) (Cw h.1));cases f with
    |nil=>exact h.1 (by simp)
    |
     cons a l =>
     have:=Lb (p:=l) λk=>by have:=h.2 (k+1) (by omega);rwa[Q4]at this
     simp only[ev,this,Zt]at hq;grind
   |
    succ n =>
    have hd:HD (Bn f) n:=by
     have key:∀(f:Ur) (k:Nat),(Bn f).getD k 0=((k+1:Nat):Rat)*f.getD (k+1) 0:=by
      intro f
      induction f with
      |nil=>intro k;simp only[Bn,Kt];grind
      |
       cons a f ih =>
       intro k;simp only[Bn];rw[Ro,Q4];cases k with
       |zero=>rw[Zt];push_cast;grind
       |succ k=>rw[Q4,ih];push_cast;grind
     refine⟨λh0=>?_,λk hk=>by rw[key,h.2 (k+1) (by omega)];grind⟩;rw[key]at h0;rcases Y4.1 h0 with h1|h1
     ·have:=nat_pos (show 0<n+1 by omega);grind
     ·exact h.1 h1
    obtain⟨s,hs,h1⟩:=Qso hc n (Bn f) hd;exact⟨s,hs,vU hc hv h1 hs⟩
  ·exact⟨s,hs,zU hc hn⟩
theorem Qkh{c:Rat->Int}(hc:Cut c){f p q:Ur}{s s':Int}(hf:∀t,ev f t=ev p t*ev q t)(h:RS p c s)(h':RS q c s'):RS f c (s*s'):=by
 obtain⟨y,h1,h2⟩:=h;obtain⟨y',h3,h4⟩:=h';refine⟨if y<=y' then y else y',by split <;> assumption,λz z1 z2=>?_⟩;rw[hf,Sx,h2 z z1 (by clear h2 h4;grind),h4 z z1 (by clear h2 h4;grind)]
theorem Qki{c:Rat->Int}(hc:Cut c){f o S:Ur}{k:Rat}(hk:k≠0)(hf:∀t,ev f t=k*(ev o t*(ev S t*ev S t)))(hnz:¬∀t,ev f t=0){s:Int}(h:RS o c s):RS f c (Ff k*s):=by
 obtain⟨n,_,hn⟩:∃n,n<S.length/\HD S n:=by
  rcases DG S with h1|h1
  ·exact absurd (λt=>by rw[hf,h1];grind) hnz
  ·exact h1
 obtain⟨s',hs',h'⟩:=Qso hc n S hn;have h1:=Qkh hc (f:=G8 S S) (λt=>Fg t _ _) h' h';have h2:=Qkh hc (f:=G8 o (G8 S S)) (λt=>Fg t _ _) h h1;have hsq:s'*s'=1:=by
  obtain⟨y,y1,y2⟩:=h';have:=y2 y y1 Qq;rcases Fz (ev S y)with⟨e,_⟩|⟨e,_⟩|⟨e,_⟩
  ·rw[<-this,e];rfl
  ·omega
  ·rw[<-this,e];rfl
 rw[hsq,Ud]at h2;obtain⟨y,y1,y2⟩:=h2;exact⟨y,y1,λz z1 z2=>by
  have:=y2 z z1 z2;rw[Fg,Fg]at this;rw[hf,Sx,this]⟩
structure Cp(p:List Int):Prop where
 t:Fe p
 l:p.length<=9
 b:Bd 1110 p
theorem Cp.dp{p:Uo}(h:Cp p):Dp p:=⟨h.t,h.l,U5 h.b (by omega)⟩
theorem Cp.ok{p:Uo}(h:Cp p)(h0:p.length≠0):Okp 9 1180 p:=h.dp.ok h0
def Leq(a:Tm)(c:Rat->Int):Prop:=∀q,c q=-1->Fo a q=-1
def M3(p:Uo)(a:Tm):Option Tm->Prop
 |none=>p=[]\/∃s,s≠0/\∀c,Cut c->Leq a c->RS (cz p) c s
 |some t=>p≠[]/\Va t/\Nv a t/\∃s,s≠0/\(∀c,Cut c->Leq a c->(∃m,c m=-1/\Fo t m=1)->RS (cz p) c s)/\RS (cz p) (Fo t) (-s)
theorem RI.len{q:Uo}{L:Us}{lo hi:Rat}{l:List Tm}(h:RI q L lo l hi):l.length+vv L hi<=vv L lo:=by
 induction h with
 |nil h hv=>simp;omega
 |cons h hv ht hp hl ih=>have:=ht.v;simp only[Q5];omega
theorem Qlc(x:Rat):∀(L:Us) (s:Int),tc x s L<=L.length
 | [],_=>Qm _
 |
  f::l,s=>by
  have h1:=Qlc x l;simp only[tc,Q5]
  repeat' split
  all_goals (first|(have:=h1 s;omega)|(have:=h1 (Ff (ev f x));omega))
theorem Qwy(L:Us)(x:Rat):vv L x<=L.length:=Qlc x L 0
theorem JC{p:Uo}(h:Cp p):∃l,WN p=some l/\l.length≤67/\(∀t∈l,Va t)/\∀a,Va a->∃r,VE a l=some r/\M3 p a r/\∀t,r=some t->t∈l:=by
 unfold WN;by_cases h0:p.length=0
 ·have e:p=[]:=Qj h0;subst e;exact⟨[],rfl,by decide,(λt ht=>by cases ht),λa _=>⟨none,rfl,.inl rfl,λt ht=>by cases ht⟩⟩
 ·obtain⟨qp,o,q1,o1,hpt⟩:=Qje (n:=9) (s:=1110) (p:=p) ⟨⟨by decide,by decide⟩,h.t,h0,h.l,h.b⟩;obtain⟨g,sq⟩:=hpt.sq;obtain⟨S,hS⟩:=hpt.os;obtain⟨p1,p2,p3,p4,p5,p6,p7⟩:=Cu h.t h0;have hpl:=h.l;obtain⟨hh,th,eh⟩:=hpt.oh;have bo:Bd 1179 o:=XV (p5 1110 h.b) (by omega) p1 hpt.ot th (by omega) eh;obtain⟨lo1,lo2⟩:=Ti p1 (by omega) eh;have hlen:=Mv hpt.ot th p1 eh lo1 lo2;have oko:Okp 9 1180 o:=⟨iO,hpt.ot,by omega,by omega,U5 bo (by omega)⟩;obtain⟨q,c,l,r1,r2,r3,hSt,hRI,hVa,hout⟩:=Qke oko;obtain⟨g',q',s1,s2⟩:=VX oko;rw[r1]at s1;injection s1 with s1;subst s1;obtain⟨_,_,_,_,_,o6,o7⟩:=Cu hpt.ot (by omega);have hg1:g'=[1]:=by
   refine s2.pg.one ?_;obtain⟨E,hE⟩:=hpt.oq;have hE:∀t,U8 qp t=U8 o t*ev E t:=λt=>by have:=hE t;rwa[U9,U9]at this
   obtain⟨z,hz⟩:=s2.d;have hd1:∀t,U8 o t=U8 g' t*(Hp o*U8 q t):=λt=>by rw[o7,s2.e];grind
   have hdo:∀t,dv (cz o) t=U8 g' t*(Hp o*ev z t):=λt=>by
    have:=Qha (p:=cz o) (q:=D5 (Hp o) (cz (Fh o))) (λt=>by rw[U9,Gt,U9,o7]) t;rw[this,HE,hz];grind
   obtain⟨k,hk,hkk⟩:=sq.num (d:=cz g') ⟨G8 (D5 (Hp o) (cz q)) E,λt=>by rw[U9,U9,hE,hd1,Fg,Gt,U9];grind⟩ ⟨Sv (G8 (D5 (Hp o) z) E) (G8 (D5 (Hp o) (cz q)) (Bn E)),λt=>by
    have:=QS (f:=cz qp) (w:=cz o) (u:=E) (λt=>by rw[U9,U9,hE]) t;rw[Tr,this,hdo,U9,U9,hd1,G5,Fg,Fg,Gt,Gt,Tr,U9];grind⟩
   rcases Zc g'.length 2 with e|e
   ·exact e
   ·exfalso;have h1:=(SY s2.pg.t (by omega)).1;have h2:=Dy (p:=cz g') (q:=[k]) (λt=>by rw[hkk];simp only[ev];grind) (g'.length-1);rw[h2,Qi,Qu (by simp;omega)]at h1;exact h1 rfl
  have hpq:∀t,ev (cz p) t=((Hp p:Rat)*(Hp o:Rat))*(ev (cz q) t*(ev S t*ev S t)):=λt=>by
   rw[U9,U9,p7,hS,o7,s2.e,hg1,Nz];grind
  have hk0:(Hp p:Rat)*(Hp o:Rat)≠0:=λh=>(Y4.1 h).elim (XH p6) (XH o6)
  have hpz:¬∀t,ev (cz p) t=0:=λh'=>TO h.t (by omega) λt=>by rw[<-U9];exact h' t
  obtain⟨k,hk⟩:=nmE (Ff ((Hp p:Rat)*(Hp o:Rat)));have hkn:k≠0:=λh=>hk0 (Gs.1 (by rw[<-hk];exact h))
  have ho:o.length≠0:=by omega
  rw[o1];show ∃l,(if o.length=0 then some []else SI o)=some l/\l.length<=67/\_;rw[if_neg ho];have hb1:=HV (Ek s2.pq.t s2.pq.n);have hll:=hRI.len;have hlv:=Qwy (c.map cz) (-Gz q);have hcl:=(Orr.chain_ok (p:=o) ⟨hpt.ot,by omega,U5 bo (by omega)⟩ r2).1;rw[Zb]at hlv;refine⟨l,r3,by omega,hVa,λa ha=>?_⟩;obtain⟨r,n1,n2⟩:=Qcy hSt ha hRI hVa (λz hz=>(hout _ _ hz (.inl Qq)).symm) λz _ hz=>by
   rcases Classical.em (z=-Gz q)with e|e
   ·rw[e]
   ·exact hout z _ (by grind) (.inr Qq)
  refine⟨r,n1,?_,λt ht=>by subst ht;exact n2.1⟩;cases r with
  |
   none =>
   obtain⟨s,hs,hz⟩:=n2;refine .inr ⟨k*s,Jf hkn hs,λc hc hac=>?_⟩;obtain⟨y,hy⟩:=hc.hi;have h1:RS (cz q) c s:=⟨y,hy,λz z1 _=>hz z (hac z z1)⟩;rw[hk];exact Qki hc hk0 hpq hpz h1
  |
   some t =>
   obtain⟨hm,hlt,s,hs,hz,hrs⟩:=n2;refine⟨λe=>h0 (by rw[e];rfl),hVa t hm,hlt,k*s,Jf hkn hs,λc hc hac ⟨m,m1,m2⟩=>?_,?_⟩
   ·have h1:RS (cz q) c s:=⟨m,m1,λz z1 z2=>hz z (hac z z1) (by
     rcases Classical.em (z=m)with e|e
     ·rw[e];exact m2
     ·exact(hVa t hm).cut.mono' (q:=z) (r:=m) (by grind) (by omega))⟩
    rw[hk];exact Qki hc hk0 hpq hpz h1
   ·have:=Qki (hVa t hm).cut hk0 hpq hpz hrs;rw[<-hk]at this;rw[show -(k*s)=k*-s by rw[V7]];exact this
structure Sz(s n:Nat)(t:Tm):Prop where
 n:t.p.length<=n
 b:Bd (s+138) t.p
 g:∃D M k,Gr D M k t.lo/\Gr D M k t.hi/\0<M/\Fc (D:Int)<=s+138/\Fc (M:Int)<=s+139/\k<=63*s+9507
theorem Qi9{p:Uo}(h:Cp p){a:Tm}(ha:Va a):∃r,SB p a=some r/\M3 p a r:=by
 obtain⟨l,l1,_,_,l3⟩:=JC h;obtain⟨r,r1,r2,_⟩:=l3 a ha;refine⟨r,?_,r2⟩;unfold SB;rw[l1];exact r1
theorem RH:∀(l:List Tm) (b:Tm),(∀t∈b::l,Va t)->∃m,QD b l=some m/\m∈b::l/\∀t∈b::l,¬Nv t m
 |
  [],b,h=>⟨b,rfl,Qy ..,λt ht h'=>by
  rw[Qk.1 ht]at h';have hb:=(h b (Qy ..)).cut;exact Iw hb hb h' h'⟩
 |
  a::l,b,h=>by
  have ha:=h a (by simp);have hb:=h b (by simp);obtain⟨c,c1,c2⟩:=UG ha hb;obtain⟨m,m1,m2,m3⟩:=RH l (if c<0 then a else b) λt ht=>by
   rcases Ql.1 ht with rfl|ht
   ·split <;> assumption
   ·exact h t (by simp[ht])
  refine⟨m,by simp only[QD];rw[c1];exact m1,?_,λt ht=>?_⟩
  ·rcases Ql.1 m2 with e|e
   ·rw[e];split <;> simp
   ·simp[e]
  ·have hm:Va m:=by
    rcases Ql.1 m2 with e|e
    ·rw[e];split <;> assumption
    ·exact h m (by simp[e])
   have hfst:=m3 _ (Qy ..);have tr:∀x y:Tm,Va x->Va y->¬Nv x y->¬Nv y m->¬Nv x m:=λx y hx hy h1 h2 h3=>by
    rcases tri hy.cut hm.cut with h4|h4|h4
    ·exact h2 h4
    ·obtain⟨q,q1,q2⟩:=h3;exact h1 ⟨q,q1,by rw[h4];exact q2⟩
    ·obtain⟨q,q1,q2⟩:=h3;obtain⟨r,r1,r2⟩:=h4;have:=hm.cut.lt q2 r1;exact h1 ⟨q,q1,hy.cut.mono' this (by omega)⟩
   rcases Ql.1 ht with rfl|ht
   ·by_cases hc:c<0
    ·rw[if_pos hc]at hfst;refine tr _ a hb ha ?_ hfst;rcases c2 with⟨_,h'⟩|⟨e,_⟩|⟨e,_⟩
     ·exact λh''=>Iw ha.cut hb.cut h' h''
     ·omega
     ·omega
    ·rw[if_neg hc]at hfst;exact hfst
   ·rcases Ql.1 ht with rfl|ht
    ·by_cases hc:c<0
     ·rw[if_pos hc]at hfst;exact hfst
     ·rw[if_neg hc]at hfst;refine tr _ b ha hb ?_ hfst;rcases c2 with⟨e,_⟩|⟨_,h'⟩|⟨_,h'⟩
      ·omega
      ·rintro⟨q,q1,q2⟩
       have:=h' q;omega
      ·exact λh''=>Iw ha.cut hb.cut h'' h'
    ·exact m3 t (by simp[ht])
end Orq
namespace Orr
open Go Go.Proofs Tryz Orq
set_option maxRecDepth 10000
theorem Dp.pb{p:Uo}(h:Dp p):Pb p:=⟨h.t,by have:=h.l;omega,U5 h.b (by have:=h.l;omega)⟩
theorem Qx0{p:Uo}{a:Tm}(hp:Dp p)(ha:Va a):Ul 241 [pr p,.agg (ta a)] [.oi (Fq a p)]:=Qmq (Dp.pb hp) ha.tb (Qko hp ha).1
theorem Qxs{p:Uo}{a:Tm}(hp:Dp p)(ha:Va a):Ul 240 [pr p,.one (.sh (ta a))] [.oi (Fq a p)]:=Ui func240 rfl [.k (Qx0 hp ha)] rfl
theorem Qnn{p:Uo}{fid:Nat}{l1:Ut}{sgn:Uo->Int}(hp:Dp p)(h:∀p,Dp p->AT prog fid [pr p,.one (.sh l1)] [.oi (sgn p)]):Ul 239 [pr p,.one (.fn fid [] [.sh l1])] [.oi (Tw sgn p.length p)]:=by
 have hpb:=Dp.pb hp;refine Fv func239 rfl ?_;refine Uf [.k (Hr hpb.t hpb.ln hpb.bd)] rfl ?_;refine Uk (S:=Uo) 0 (λL1 s=>(0,.v (pr s))::L1) (λ_=>[]) (λs=>s.length) (λs=>Dp s/\Tw sgn s.length s=Tw sgn p.length p) p ⟨hp,rfl⟩ rfl rfl λr ⟨j1,j4⟩=>?_
 rw[<-j4];have jb:=Dp.pb j1;by_cases h0:r.length=0
 ·have e:=fK sgn h0;rw[e];exact Uh [.f (by simp;exact Qj h0)] rfl
 ·have hs:=h r j1;by_cases hz:sgn r=0
  ·have hlp:=Nk r;refine Uf [.t (by simp;omega),.k hs,.f (by simpa using hz),.k (I3 jb.ln jb.bd)] rfl ?_;exact rd (Gy r) (by omega) ⟨j1.der,by rw[<-fV sgn (by omega) hz]⟩ rfl
  ·rw[fY sgn (by omega) hz];exact Uh [.t (by simp;omega),.k hs,.t (by simpa using hz)] rfl
abbrev gmA(a:Tm)(p:Uo):Int:=Hl (Fq a) p
theorem TA{p:Uo}{a:Tm}(hp:Dp p)(ha:Va a):Ul 175 [pr p,.agg (ta a)] [.oi (gmA a p)] :=
 Ui func175 rfl [.k (Qnn (sgn:=Fq a) hp λ_ h=>Qxs h ha)] rfl
theorem wP{t:Tm}{a b:Pt}{ps:Up}(hps:∀p∈ps,Dp p)(ht:Va t)(hl:ps.length<1000):Ul 231 [.agg (ta t),.agg (Fb a),.agg (Fb b),.one (.row (Pe ps))] [.one (.bool (Ly (Fq t) a b ps))]:=by
 refine Fv func231 rfl ?_;have hpl:(Pe ps).length=ps.length:=by simp[Pe]
 refine Uf [] rfl ?_;refine Uk (S:=Nat) 3 (λL1 i=>(13,.v (.oi i))::L1) (λ_=>[.blk 105 (ta t),.blk 40 (Fb a),.blk 40 (Fb b)]) (λi=>ps.length-i) (λi=>i<=ps.length/\Ly (Fq t) a b (ps.drop i)=Ly (Fq t) a b ps) 0 ⟨Qh _,rfl⟩ rfl rfl λi ⟨hi,he⟩=>?_
 rw[<-he];by_cases hlt:i<ps.length
 ·obtain⟨p,hp⟩:=gxE (l:=ps) (i:=i) hlt;have hd:ps.drop i=p::ps.drop (i+1):=by
   rw[Zp hlt];rw[Qf hlt]at hp;injection hp with hp;rw[hp]
  have hpb:=hps p (Qa hp);rw[hd]at he ⊢;by_cases h0:0<p.length
  ·exact Uh [.t (by simp[hpl];omega),.x (Rq hp),.t (by simp;omega),.k (TA hpb ht)] rfl (by simp only[Ly];rw[if_pos h0]) trivial
  ·refine Ug [.t (by simp[hpl];omega),.x (Rq hp),.f (by simp;exact Qj (by omega))] rfl ?_;exact rd (i+1) (by omega) ⟨hlt,by simp only[Ly];rw[if_neg h0]⟩ rfl
 ·have hd:ps.drop i=[]:=Yw (by omega);rw[hd];exact Uh [.f (by simp[hpl];omega)] rfl
structure Sc(k:Crv):Prop where
 n:ZC k
 c:Cs 128 3 k
theorem Sc.cb{k:Crv}(h:Sc k):Cb k:=h.c.mono (by omega) (by omega)
theorem Nh{a b:Crv}(ha:Sc a)(hb:Sc b):Cp (Gn a b):=by
 refine⟨Fy _ _,?_,U5 (Dt (Ge hb.c.x ha.c.d) (Ge ha.c.x hb.c.d)) (by omega)⟩;have:=Nl (Fu b.x a.d) (Fu a.x b.d);have:=Fx b.x a.d;have:=Fx a.x b.d;have:=ha.c.lx;have:=hb.c.lx;unfold Gn;omega
theorem Ng{a b:Crv}(ha:Sc a)(hb:Sc b):Cp (Gm a b):=by
 refine⟨Fy _ _,?_,U5 (Dt (Ge hb.c.y ha.c.d) (Ge ha.c.y hb.c.d)) (by omega)⟩;have:=Nl (Fu b.y a.d) (Fu a.y b.d);have:=Fx b.y a.d;have:=Fx a.y b.d;have:=ha.c.ly;have:=hb.c.ly;unfold Gm;omega
theorem Qmr{a b:Pt}{t:Tm}(ha:Sc a.c)(hb:Sc b.c)(ht:Va t):Ul 174 [.agg (Fb a),.agg (Fb b),.agg (ta t)] [.one (.bool (Cd (Fq t) a b))] :=
 Ui func174 rfl [.k (UZ hb.n ha.n hb.cb ha.cb),.k (UJ hb.n ha.n hb.cb ha.cb),.k (wP (t:=t) (a:=a) (b:=b) (ps:=[Gm b.c a.c,Gn b.c a.c]) (λp hp=>by
  simp at hp;rcases hp with rfl|rfl
  ·exact(Ng hb ha).dp
  ·exact(Nh hb ha).dp) ht (show 2<1000 by decide))] rfl
theorem Qej{a b:Pt}{t:Tm}(ha:Sc a.c)(hb:Sc b.c)(ht:Va t):Ul 167 [.agg (Fb a),.agg (Fb b),.agg (ta t)] [.one (.bool (Tu (Fq t) a b))] :=
 Ui func167 rfl [.k (UJ ha.n hb.n ha.cb hb.cb),.k (UZ ha.n hb.n ha.cb hb.cb),.k (wP (t:=t) (a:=a) (b:=b) (ps:=[Gn a.c b.c,Gm a.c b.c]) (λp hp=>by
  simp at hp;rcases hp with rfl|rfl
  ·exact(Nh ha hb).dp
  ·exact(Ng ha hb).dp) ht (show 2<1000 by decide))] rfl
theorem Qsy(q:Rat){P:Prop}(h:(tq q).point=false):P:=by
 have e:(tq q).point=true:=Mx.2 Qq;rw[e]at h;cases h
theorem Qvg(q:Rat):lim (tq q)=3300000:=by unfold lim;rw[if_pos (Mx.2 Rat.le_refl)]
theorem AQ{q:Rat}(hq:Qs 1640000 q):Va (tq q):=by
 have hd:=q.den_nz;refine⟨.inl ⟨rfl,?_⟩,Qaq q,by show 2<=9;omega,by show 2<=2;omega,Qxl (hq.mono (by omega)),Qsy q,Qsy q,q.den,q.num.natAbs+1,0,?_,?_,by omega,?_⟩
 ·have e:(q.num:Rat)=q*(q.den:Rat):=by
   have:(q.num:Rat) / (((q.den:Int)):Rat)=q:=by rw[Ra,Z7]
   have h2:(q.num:Rat) / (q.den:Rat)*(q.den:Rat)=q.num:=Zj (by have:=Orq.nat_pos q.den_pos;grind);rw[show(q.num:Rat) / (q.den:Rat)=q from this]at h2;exact h2.symm
  show U8 [-q.num,(q.den:Int)] q=0;simp only[U8];rw[Vn,e,show(((q.den:Int)):Rat)=(q.den:Rat) from rfl];grind
 all_goals first|(have h1:Fc (q.den:Int)<=1640000:=hq.2;have h2:Fc ((q.num.natAbs+1:Nat):Int)<=1640001:=Qcq hq.1;rw[Qvg];omega)|skip
 all_goals
  refine⟨⟨q.num,?_⟩,?_,q.den_pos⟩
  ·rw[Ve,Yx];have:(q.num:Rat) / (((q.den:Int)):Rat)=q:=by rw[Ra,Z7]
   have h2:(q.num:Rat) / (q.den:Rat)*(q.den:Rat)=q.num:=Zj (by have:=Orq.nat_pos q.den_pos;grind);rw[show(q.num:Rat) / (q.den:Rat)=q from this]at h2;exact h2
  ·have h1:Fi q<=Fi (q.num:Rat):=by
    have e:(q.num:Rat)=q*(q.den:Rat):=by
     have:(q.num:Rat) / (((q.den:Int)):Rat)=q:=by rw[Ra,Z7]
     have h2:(q.num:Rat) / (q.den:Rat)*(q.den:Rat)=q.num:=Zj (by have:=Orq.nat_pos q.den_pos;grind);rw[show(q.num:Rat) / (q.den:Rat)=q from this]at h2;exact h2.symm
    rw[e,Il];have hd1:(1:Rat)<=(q.den:Rat):=by
     have:((1:Nat):Rat)<=(q.den:Rat):=Zm.2 q.den_pos;exact this
    have e2:Fi (q.den:Rat)=(q.den:Rat):=by unfold Fi;rw[if_neg (by grind)]
    rw[e2];have:=Cn (a:=Fi q) (c:=1) (Hw q) Qq (by decide) hd1;grind
   rw[S4]at h1;refine Zl h1 (Zm.2 (by omega))
theorem YU{p q:Uo}(hp:Cp p)(hq:Cp q):Cp (Lu p q):=by unfold Lu;split <;> assumption
theorem lW{a b:Pt}{t:Tm}(ha:Sc a.c)(hb:Sc b.c)(ht:Va t):Ul 255 [.oi 1,.agg (ta t),.one (.row [Fb a,Fb b])] [.agg (Lx (QO (Fq t) a b)),.oi 0]:=by
 have h1:=Nh ha hb;have h2:=Ng ha hb;refine Fv func255 rfl ?_;refine Uf [.k Qbr,.f rfl] rfl ?_;refine Uk (S:=Nat) 3 (λL1 i=>(22,.v (.oi i))::L1) (λi=>[.blk 105 (ta t),.blk 99 zCt,.blk 99 [.int .i64 1,.int .i64 (if 1<=i then a.id else 0),.int .i64 (if 2<=i then b.id else 0),.int .i64 0,.int .i64 0,.nils,.int .i64 0]]) (λi=>2-i) (λi=>i<=2) 0 (Qh _) rfl rfl λi hi=>?_
 rcases(show i=0\/i=1\/i=2 by omega)with rfl|rfl|rfl
 ·refine Uf [.t rfl,.x (i:=0) (xs:=Fb a) rfl,.i 0] rfl ?_ (by simp[U3]);exact rd 1 (by omega) (by omega) rfl
 ·refine Uf [.t rfl,.x (i:=1) (xs:=Fb b) rfl,.i 1] rfl ?_ (by simp[U3]);exact rd 2 (by omega) (by omega) rfl
 ·exact Uh [.f rfl,.t rfl,.x (i:=0) (xs:=Fb a) rfl,.x (i:=1) (xs:=Fb b) rfl,.k (UJ ha.n hb.n ha.cb hb.cb),.x (i:=0) (xs:=Fb a) rfl,.x (i:=1) (xs:=Fb b) rfl,.k (UZ ha.n hb.n ha.cb hb.cb),.k wR,.k (TA (YU h1 h2).dp ht)] rfl
end Orr
namespace Orr
variable{α:Type}
def Lz(lt:α->α->Bool)(out:List α)(x:α):Nat->Nat
 | 0=>0
 |
  k+1=>match out[k]? with
  |some y=>if lt x y=true then Lz lt out x k else k+1
  |none=>k+1
theorem yA(lt:α->α->Bool)(out:List α)(x:α):∀k,Lz lt out x k<=k
 | 0=>Qm _
 |
  k+1=>by
  simp only[Lz]
  split
  ·split
   ·exact Nat.le_succ_of_le (yA lt out x k)
   ·exact Qm _
  ·exact Qm _
theorem oH{lt:α->α->Bool}{out:List α}{x y:α}{k:Nat}(hx:out[k]? = some y)(h:lt x y=true):Lz lt out x (k+1)=Lz lt out x k:=by
 simp only[Lz,hx,h,if_true]
theorem rR{lt:α->α->Bool}{out:List α}{x y:α}{k:Nat}(hx:out[k]? = some y)(h:lt x y=false):Lz lt out x (k+1)=k+1:=by
 simp[Lz,hx,h]
def Lv(lt:α->α->Bool)(out:List α)(x:α):List α:=out.take (Lz lt out x out.length)++x::out.drop (Lz lt out x out.length)
theorem Qid(lt:α->α->Bool)(out:List α)(x:α):(Lv lt out x).length=out.length+1:=by
 have:=yA lt out x out.length;simp[Lv];omega
theorem FZ{lt:α->α->Bool}{out:List α}{x y:α}:y∈Lv lt out x↔y=x\/y∈out:=by
 have h:y∈out↔y∈out.take (Lz lt out x out.length)\/y∈out.drop (Lz lt out x out.length):=by
  rw[<-Qp,Zh]
 simp only[Lv,Qp,Ql,h];constructor
 ·rintro (h|h|h)
  ·exact .inr (.inl h)
  ·exact .inl h
  ·exact .inr (.inr h)
 ·rintro (h|h|h)
  ·exact .inr (.inl h)
  ·exact .inl h
  ·exact .inr (.inr h)
def Ed(lt:α->α->Bool)(l:List α):List α:=l.foldl (Lv lt) []
theorem dQ(lt:α->α->Bool)(l:List α)(x:α):Ed lt (l++[x])=Lv lt (Ed lt l) x:=by simp[Ed,Vr]
theorem dZ{lt:α->α->Bool}{l:List α}{i:Nat}{x:α}(h:l[i]? = some x):Ed lt (l.take (i+1))=Lv lt (Ed lt (l.take i)) x:=by
 rw[Z1,h];exact dQ _ _ _
theorem DV(lt:α->α->Bool):∀(l acc:List α),(l.foldl (Lv lt) acc).length=acc.length+l.length
 | [],acc=>by simp
 |c::l,acc=>by simp only[Z5];rw[DV lt l (Lv lt acc c),Qid];simp;omega
theorem zC(lt:α->α->Bool)(l:List α):(Ed lt l).length=l.length:=by unfold Ed;rw[DV];simp
theorem KD(lt:α->α->Bool):∀(l acc:List α) {y:α},y∈l.foldl (Lv lt) acc↔y∈l\/y∈acc
 | [],acc,y=>by simp
 |
  c::l,acc,y=>by
  simp only[Z5];rw[KD lt l,FZ,Ql];constructor
  ·rintro (h|h|h)
   ·exact .inl (.inr h)
   ·exact .inl (.inl h)
   ·exact .inr h
  ·rintro ((h|h)|h)
   ·exact .inr (.inl h)
   ·exact .inl h
   ·exact .inr (.inr h)
theorem Qdi{lt:α->α->Bool}{l:List α}{y:α}:y∈Ed lt l↔y∈l:=by
 unfold Ed;rw[KD];simp
end Orr
namespace Orr
open Go Orq
structure Wt where
 c:Ct
 known:Bool
 fails:Option Tm
def f0:Option Tm->LV|none=>.row []|some t=>pl t.p
def f1:Option Tm->LV|none=>.bool false|some t=>sg t.lo.num
def f2:Option Tm->LV|none=>.row []|some t=>mg t.lo.num
def f3:Option Tm->LV|none=>.bool false|some t=>sg (t.lo.den:Int)
def f4:Option Tm->LV|none=>.row []|some t=>mg (t.lo.den:Int)
def f5:Option Tm->LV|none=>.bool false|some t=>sg t.hi.num
def f6:Option Tm->LV|none=>.row []|some t=>mg t.hi.num
def f7:Option Tm->LV|none=>.bool false|some t=>sg (t.hi.den:Int)
def f8:Option Tm->LV|none=>.row []|some t=>mg (t.hi.den:Int)
abbrev fl(o:Option Tm):Ut:=[f0 o,f1 o,f2 o,f3 o,f4 o,f5 o,f6 o,f7 o,f8 o]
abbrev wl(w:Wt):Ut:=[.int .i64 w.c.kind,.int .i64 w.c.i0,.int .i64 w.c.i1,.int .i64 w.c.i2,.int .i64 w.c.i3,pl w.c.p,.int .i64 w.c.want,.bool w.known,.bool w.fails.isSome,f0 w.fails,f1 w.fails,f2 w.fails,f3 w.fails,f4 w.fails,f5 w.fails,f6 w.fails,f7 w.fails,f8 w.fails]
def C9(l:List Wt):Uu:=l.map λw=>wl w
theorem H5{l:List Wt}{i:Nat}{w:Wt}(h:l[i]? = some w):(C9 l)[i]? = some (wl w):=Gx h
theorem Sy(l:List Wt):(C9 l).length=l.length:=by simp[C9]
structure Cr where
 now:Tm
 l:List Wt
 ev:Int
abbrev Hn(c:Cr)(r0 r1:Uu):Ut:=.bool true::pl c.now.p::sg c.now.lo.num::mg c.now.lo.num::sg (c.now.lo.den:Int)::mg (c.now.lo.den:Int)::sg c.now.hi.num::mg c.now.hi.num::sg (c.now.hi.den:Int)::mg (c.now.hi.den:Int)::.row (C9 c.l)::.int .i64 c.ev::[.row r0,.row r1]
structure WtOk(w:Wt):Prop where
 p:Cp w.c.p
 f:∀t,w.fails=some t->Va t
structure CrOk(c:Cr):Prop where
 n:Va c.now
 l:∀w∈c.l,WtOk w
 k:c.l.length<=1000
def tG(a b:Ct):Bool:=decide ([a.kind,a.i0,a.i1,a.i2,a.i3]=[b.kind,b.i0,b.i1,b.i2,b.i3])
def fresh(x:Ct):Wt:=⟨x,false,none⟩
def Ck:List Wt->Ct->Tm->Option Wt
 | [],x,_=>some (fresh x)
 |
  w::l,x,at_=>if tG w.c x=true/\w.known=true/\w.c.p=x.p then
   match w.fails with
   |none=>some ⟨x,true,none⟩
   |some t=>(UF t at_).bind λc=>if 0<c then some ⟨x,true,some t⟩else Ck l x at_
  else Ck l x at_
def Tl(old:List Wt)(at_:Tm):List Ct->Option (List Wt)
 | []=>some []
 |x::l=>(Ck old x at_).bind λw=>(Tl old at_ l).bind λr=>some (w::r)
end Orr
namespace Orr
open Go Go.Proofs Tryz Orq
set_option maxRecDepth 10000
theorem QV{T:Nat}{c:Cr}{r0 r1:Uu}(hc:Va c.now):U6 prog 400 [.one (.ow 0 0)] [.blk T (Hn c r0 r1)] [.agg (ta c.now)] [.blk T (Hn c r0 r1)]:=by
 have cl:=S8 (b:=c.now) (l:=[]) hc.tb (λt ht=>by cases ht) (by decide) rfl;refine Fv func400 rfl ?_;exact Uj [] [0] [.f rfl,.k cl] rfl
theorem Qtm{T:Nat}{c:Cr}{r0 r1:Uu}{x:Ct}{at_:Tm}{w:Wt}(hc:CrOk c)(hx:Cp x.p)(ha:Va at_)(h:Ck c.l x at_=some w):U6 prog 289 [.one (.ow 0 0),.agg (Lx x),.agg (ta at_)] [.blk T (Hn c r0 r1)] [.agg (wl w)] [.blk T (Hn c r0 r1)]:=by
 have hk:=hc.k;have hw:=Sy c.l;refine Fv func289 rfl ?_;refine Uf [] rfl ?_;refine Uk (S:=Nat) 4 (λL1 i=>(14,.v (.oi i))::L1) (λ_=>[.blk T (Hn c r0 r1),.blk 99 (Lx x),.blk 105 (ta at_),.blk 352 [.int .i64 0,.int .i64 0,.int .i64 0,.int .i64 0,.int .i64 0,.nils,.int .i64 0,.bool false,.bool false,.nils,.bool false,.nils,.bool false,.nils,.bool false,.nils,.bool false,.nils]]) (λi=>c.l.length-i) (λi=>i<=c.l.length/\Ck (c.l.drop i) x at_=some w) 0 ⟨Qh _,h⟩ rfl rfl λi ⟨hi,hf⟩=>?_
 by_cases hlt:i<c.l.length
 ·obtain⟨v,hv⟩:=gxE (l:=c.l) (i:=i) hlt;have hdr:c.l.drop i=v::c.l.drop (i+1):=by
   rw[Zp hlt];congr 1;have:=Qf hlt;rw[hv]at this;injection this with this;exact this.symm
  have hvo:=hc.l v (Qa hv);rw[hdr]at hf;simp only[Ck]at hf;have hl:decide ((i:Int)<((C9 c.l).length:Int))=true:=by simp[hw];omega
  by_cases A:tG v.c x=true
  ·have A':(!decide ([v.c.kind,v.c.i0,v.c.i1,v.c.i2,v.c.i3]=[x.kind,x.i0,x.i1,x.i2,x.i3]))=false:=by
    unfold tG at A;rw[A];rfl
   by_cases B:v.known=true
   ·have B':(!v.known)=false:=by rw[B];rfl
    have cs:=MZ (p:=v.c.p) (q:=x.p) (Dp.pb hvo.p.dp).ln (Dp.pb hx.dp).ln (Dp.pb hvo.p.dp).bd (Dp.pb hx.dp).bd;rw[hvo.p.t,hx.t]at cs;by_cases C:v.c.p=x.p
    ·have C':(!decide (v.c.p=x.p))=false:=by simp[C]
     rw[if_pos ⟨A,B,C⟩]at hf;obtain⟨vc,vk,vf⟩:=v;cases vf with
     |
      none =>
      injection hf with hf;subst hf;exact Uj [] [0] [.t hl,.x (H5 hv),.g 24 false A',.g 29 false B',.k cs,.f C',.g 41 true rfl,.t rfl] rfl
     |
      some t =>
      obtain⟨r,r1',hf⟩:=Qd.1 hf;have cc:=KY (hvo.f t rfl).tb ha.tb r1';by_cases D:0<r
      ·rw[if_pos D]at hf;injection hf with hf;subst hf;exact Uj [] [0] [.t hl,.x (H5 hv),.g 24 false A',.g 29 false B',.k cs,.f C',.g 41 false rfl,.k cc,.t (by simpa using D)] rfl
      ·rw[if_neg D]at hf;refine Ug [.t hl,.x (H5 hv),.g 24 false A',.g 29 false B',.k cs,.f C',.g 41 false rfl,.k cc,.f (by simpa using D)] rfl ?_;exact rd (i+1) (by omega) ⟨hlt,hf⟩ rfl
    ·rw[if_neg λh=>C h.2.2]at hf;refine Ug [.t hl,.x (H5 hv),.g 24 false A',.g 29 false B',.k cs,.t (by simp[C])] rfl ?_;exact rd (i+1) (by omega) ⟨hlt,hf⟩ rfl
   ·rw[if_neg λh=>B h.2.1]at hf;refine Ug [.t hl,.x (H5 hv),.g 24 false A',.g 29 true (by simpa using B),.t rfl] rfl ?_;exact rd (i+1) (by omega) ⟨hlt,hf⟩ rfl
  ·rw[if_neg λh=>A h.1]at hf;refine Ug [.t hl,.x (H5 hv),.g 24 true (by rw[show decide ([v.c.kind,v.c.i0,v.c.i1,v.c.i2,v.c.i3]=[x.kind,x.i0,x.i1,x.i2,x.i3])=false from Wv.2 A];rfl),.g 29 true rfl,.t rfl] rfl ?_;exact rd (i+1) (by omega) ⟨hlt,hf⟩ rfl
 ·obtain rfl:i=c.l.length:=by omega
  rw[Yu]at hf;simp only[Ck]at hf;injection hf with hf;subst hf;exact Uj [] [0] [.f (by simp[hw])] rfl
theorem XM{old:List Wt}{at_:Tm}:∀{l:List Ct} {ws:List Wt},Tl old at_ l=some ws->ws.length=l.length/\∀(i:Nat) (x:Ct),l[i]? = some x->∃w,Ck old x at_=some w/\ws[i]? = some w
 | [],ws,h=>by injection h with h;subst h;exact⟨rfl,λi x hx=>by simp at hx⟩
 |
  y::l,ws,h=>by
  simp only[Tl]at h;obtain⟨w,hw,h⟩:=Qd.1 h;obtain⟨r,hr,h⟩:=Qd.1 h;injection h with h;subst h;obtain⟨a,b⟩:=XM hr;refine⟨by simp[a],λi x hx=>?_⟩;cases i with
  |zero=>injection hx with hx;subst hx;exact⟨w,hw,rfl⟩
  |succ i=>exact b i x (by simpa using hx)
theorem E9{l:List Wt}{i:Nat}{w:Wt}(h:l[i]? = some w):C9 (l.take (i+1))=C9 (l.take i)++[wl w]:=by
 rw[Z1,h];simp[C9]
theorem UX{T:Nat}{c:Cr}{r0 r1:Uu}{at_:Tm}{l:List Ct}{ws:List Wt}(hc:CrOk c)(ha:Va at_)(hl:∀x∈l,Cp x.p)(hn:l.length≤1000)(h:Tl c.l at_ (Fw l)=some ws):U6 prog 250 [.one (.ow 0 0),.agg (ta at_),.one (.bool true),.one (.row (Fl l))] [.blk T (Hn c r0 r1)] [] [.blk T (Hn ⟨at_,ws,c.ev⟩ r0 r1)]:=by
 have cs:=xM (l:=l) (λx hx=>Dp.pb (hl x hx).dp) (by omega);have cl:=S8 (b:=at_) (l:=[]) ha.tb (λt ht=>by cases ht) (by decide) rfl;obtain⟨h1,h2⟩:=XM h;have hs:(Fw l).length=l.length:=Ds l;refine Fv func250 rfl ?_;refine Uf [.o 8 352 18,.k cs] rfl ?_;refine Uk (S:=Nat) 3 (λL1 i=>(15,.v (.oi i))::(8,.v (.one (.orow 2 18 none)))::L1) (λi=>[.blk T (Hn c r0 r1),.blk 105 (ta at_),.row false 352 18 (C9 (ws.take i))]) (λi=>ws.length-i) (λi=>i<=ws.length) 0 (Qh _) rfl rfl λi hi=>?_
 by_cases hlt:i<ws.length
 ·obtain⟨x,hx⟩:=gxE (l:=(Fw l)) (i:=i) (by omega);obtain⟨w,hw,hw'⟩:=h2 i x hx;have hm:∀y∈[wl w],y.length=18:=λy hy=>by rw[Qk.1 hy];rfl
  have hlt':decide ((i:Int)<((Fl (Fw l)).length:Int))=true:=by simp[Fl];omega
  have ck:=Qtm (T:=T) (r0:=r0) (r1:=r1) hc (hl x (VZ (Qa hx))) ha hw;have hg:=E9 hw';obtain⟨wc,wk,wf⟩:=w;cases wf <;> (refine go tt [.t hlt',.x (KB hx),.t rfl,.c [0] ck,.s (sz:=18) hm] rfl (by simp[U3,Sy];omega) ?_;exact rd (i+1) (by omega) hlt (by rw[hg];rfl))
 ·obtain rfl:i=ws.length:=by omega
  rw[Q7];have hge:decide ((ws.length:Int)<((Fl (Fw l)).length:Int))=false:=by simp[Fl];omega
  exact Uj [] [0] [.f hge,.p 2,.k cl] rfl
abbrev mH(r0 r1:LV):Ut:=[.bool false,.nils,.bool false,.nils,.bool false,.nils,.bool false,.nils,.bool false,.nils,.nils,.int .i64 0,r0,r1]
theorem Qmz{T:Nat}{r0 r1:Uu}{at_:Tm}{l:List Ct}(ha:Va at_)(hl:∀x∈l,Cp x.p)(hn:l.length≤1000):U6 prog 250 [.one (.ow 0 0),.agg (ta at_),.one (.bool false),.one (.row (Fl l))] [.blk T (mH (.row r0) (.row r1))] [] [.blk T (Hn ⟨at_,(Fw l).map fresh,0⟩ r0 r1)]:=by
 have cs:=xM (l:=l) (λx hx=>Dp.pb (hl x hx).dp) (by omega);have cl:=S8 (b:=at_) (l:=[]) ha.tb (λt ht=>by cases ht) (by decide) rfl;have hs:(Fw l).length=l.length:=Ds l;refine Fv func250 rfl ?_;refine Uf [.o 8 352 18,.k cs] rfl ?_;refine Uk (S:=Nat) 3 (λL1 i=>(15,.v (.oi i))::(8,.v (.one (.orow 2 18 none)))::L1) (λi=>[.blk T (mH (.row r0) (.row r1)),.blk 105 (ta at_),.row false 352 18 (C9 (((Fw l).map fresh).take i))]) (λi=>l.length-i) (λi=>i<=l.length) 0 (Qh _) rfl rfl λi hi=>?_
 by_cases hlt:i<l.length
 ·obtain⟨x,hx⟩:=gxE (l:=(Fw l)) (i:=i) (by omega);have hm:∀y∈[wl (fresh x)],y.length=18:=λy hy=>by rw[Qk.1 hy];rfl
  have hlt':decide ((i:Int)<((Fl (Fw l)).length:Int))=true:=by simp[Fl];omega
  have hg:=E9 (l:=(Fw l).map fresh) (i:=i) (w:=fresh x) (by rw[Za,hx];rfl);refine go tt [.t hlt',.x (KB hx),.z 20,.f rfl,.s (sz:=18) hm] rfl (by simp[U3,Sy];omega) ?_;exact rd (i+1) (by omega) hlt (by rw[hg];rfl)
 ·obtain rfl:i=l.length:=by omega
  rw[Qo (by simp;omega)];have hge:decide ((l.length:Int)<((Fl (Fw l)).length:Int))=false:=by simp[Fl];omega
  exact Uj [] [0] [.f hge,.p 2,.k cl] rfl
theorem YQ{T:Nat}{r0 r1:Uu}{at_:Tm}{l:List Ct}(ha:Va at_)(hl:∀x∈l,Cp x.p)(hn:l.length≤1000):U6 prog 194 [.one (.ow 0 0),.agg (ta at_),.one (.row (Fl l))] [.blk T (mH (.row r0) (.row r1))] [] [.blk T (Hn ⟨at_,(Fw l).map fresh,0⟩ r0 r1)]:=by
 have cl:=Qmz (T:=T) (r0:=r0) (r1:=r1) ha hl hn;refine Fv func194 rfl ?_;exact Uj [] [0] [.g 12 false rfl,.c [0] cl] rfl
theorem eB{a b:Bool}(h:a=b):TV.one (LV.bool a)=.one (.bool b):=h ▸ rfl
theorem YZ{T:Nat}{c:Cr}{r0 r1:Uu}{at_:Tm}{l:List Ct}{ws:List Wt}{k:Int}(hc:CrOk c)(ha:Va at_)(hk:UF at_ c.now=some k)(h0:0≤k)(hl:∀x∈l,Cp x.p)(hn:l.length≤1000)(h:Tl c.l at_ (Fw l)=some ws):U6 prog 194 [.one (.ow 0 0),.agg (ta at_),.one (.row (Fl l))] [.blk T (Hn c r0 r1)] [] [.blk T (Hn ⟨at_,ws,c.ev⟩ r0 r1)]:=by
 have cl:=UX (T:=T) (r0:=r0) (r1:=r1) hc ha hl hn h;have cc:=KY ha.tb hc.n.tb hk;refine Fv func194 rfl ?_;exact Uj [] [0] [.g 12 true rfl,.k cc,.r 20 (eB (show decide (0<=k)=true by simpa using h0)),.c [0] cl] rfl
theorem MB:∀{k:Nat} {g:Uo} {l:Up},Pb g->RG k g=some l->l.length≤k/\∀p∈l,Pb p
 | 0,_,_,_,h=>by cases h
 |
  k+1,g,l,hg,h=>by
  simp only[RG]at h
  split at h
  ·injection h with h;subst h;exact⟨by simp,λp hp=>by cases hp⟩
  ·obtain⟨d,hd,h⟩:=Qd.1 h;obtain⟨rfl,hdp⟩:=LM hd;obtain⟨x,hx,h⟩:=Qd.1 h;obtain⟨q,hq,h⟩:=Qd.1 h;obtain⟨r,hr,h⟩:=Qd.1 h;injection h with h;subst h;obtain⟨i1,i2⟩:=MB (RO hg hdp hx) hr;refine⟨by simp;exact i1,λp hp=>?_⟩;rcases Ql.1 hp with rfl|hp
   ·exact bM hq
   ·exact i2 p hp
theorem Qf0{a:Uo}{l:Up}(ha:Pb a)(h:RG 66 (Fh a)=some l):Ul 413 [pr a] [.one (.row (Pe l))]:=by
 have hp:=Ta ha;refine Fv func413 rfl ?_;refine Uf [.o 3 33 1,.k (A9 ha)] rfl ?_;refine Uk (S:=Nat×Up×Uo) 1 (λL1 s=>(4,.v (pr s.2.2))::(3,.v (.one (.orow 0 1 none)))::L1) (λs=>[.row false 33 1 (Pe s.2.1)]) (λs=>s.1) (λs=>Pb s.2.2/\s.2.1.length+s.1<=66/\∃m,RG s.1 s.2.2=some m/\s.2.1++m=l) (66,[],Fh a) ⟨hp,Qm _,l,h,rfl⟩ rfl rfl λ⟨k,out,g⟩ ⟨j1,j2,m,j3,j4⟩=>?_
 dsimp only at j1 j2 j3 j4 ⊢;cases k with
 |zero=>cases j3
 |
  succ k =>
  simp only[RG]at j3
  split at j3
  ·rename_i h0;injection j3 with j3;subst j3;rw[Zv]at j4;subst j4;exact Uh [.k (P9 _),.f (by simp;omega)] rfl
  ·rename_i h0;obtain⟨d,hd,j3⟩:=Qd.1 j3;obtain⟨rfl,hdp⟩:=LM hd;obtain⟨x,hx,j3⟩:=Qd.1 j3;obtain⟨q,hq,j3⟩:=Qd.1 j3;obtain⟨r,hr,j3⟩:=Qd.1 j3;injection j3 with j3;subst j3;have hxp:=RO j1 hdp hx;refine go tt [.k (P9 _),.t (by simp;omega),.k (I3 j1.ln j1.bd),.k (eK j1 hdp hx),.k (Qgc j1 hxp hq),.s (sz:=1) (l:=[[pl q]]) (λc hc=>by rw[Qk.1 hc];rfl)] rfl (by simp[U3,E6];omega) ?_;exact rd (k,out++[q],x) (by dsimp only;omega) ⟨hxp,by simp;omega,r,hr,by rw[<-j4];simp⟩ (by rw[LA];rfl)
theorem CC:∀{l r:Up},AL l=some r->r.length=l.length/\∀i w,l[i]? = some w->(match l[i+1]? with|some v=>∃f,JW w v=some f/\r[i]? = some f|none=>r[i]? = some w)
 | [],r,h=>by injection h with h;subst h;exact⟨rfl,λi w hw=>by simp at hw⟩
 |
  [w],r,h=>by
  injection h with h;subst h;refine⟨rfl,λi x hx=>?_⟩;cases i with
  |zero=>simpa using hx
  |succ i=>simp at hx
 |
  w::v::l,r,h=>by
  simp only[AL]at h;obtain⟨f,hf,h⟩:=Qd.1 h;obtain⟨s,hs,h⟩:=Qd.1 h;injection h with h;subst h;obtain⟨i1,i2⟩:=CC hs;refine⟨by simp[i1],λi x hx=>?_⟩;cases i with
  |
   zero =>
   injection hx with hx;subst hx;exact⟨f,hf,rfl⟩
  |
   succ i =>
   have:=i2 i x (by simpa using hx);simpa using this
theorem jT:∀{l r:Up},(∀p∈l,Pb p)->AL l=some r->∀p∈r,Pb p
 | [],r,_,h=>by injection h with h;subst h;exact λp hp=>by cases hp
 | [w],r,hl,h=>by injection h with h;subst h;exact hl
 |
  w::v::l,r,hl,h=>by
  simp only[AL]at h;obtain⟨f,hf,h⟩:=Qd.1 h;obtain⟨s,hs,h⟩:=Qd.1 h;injection h with h;subst h;intro p hp;rcases Ql.1 hp with rfl|hp
  ·exact bM hf
  ·exact jT (λp hp=>hl p (Qg _ hp)) hs p hp
theorem Qbc{a:Uo}{l r:Up}(ha:Pb a)(h:RG 66 (Fh a)=some l)(hr:AL l=some r):Ul 408 [pr a] [.one (.row (Pe r))]:=by
 obtain⟨i1,i2⟩:=MB (Ta ha) h;obtain⟨j1,j2⟩:=CC hr;have hw:=E6 l;refine Fv func408 rfl ?_;refine go tt [.k (Qf0 ha h),.i (Pe l).length,.i (Pe l).length] rfl (by simp[U3,hw];omega) ?_;rw[hw,Ah λi=>[pl (r.getD i [])]];refine Uk (S:=Nat) 1 (λL1 k=>(14,.v (.oi k))::L1) (λk=>[.row false 33 1 (AG (λi=>[pl (r.getD i [])]) [.nils] l.length k)]) (λk=>l.length-k) (λk=>k<=l.length) 0 (Qh _) rfl rfl λk hk=>?_
 by_cases hlt:k<l.length
 ·obtain⟨w,hx⟩:=gxE (l:=l) (i:=k) hlt;have e:=QM (λi=>[pl (r.getD i [])]) [.nils] hlt;have hg:=j2 k w hx;by_cases h2:k+1<l.length
  ·obtain⟨v,hv⟩:=gxE (l:=l) (i:=k+1) h2;rw[hv]at hg;obtain⟨f,f1,f2⟩:=hg;have e2:r.getD k []=f:=by rw[Qi,f2];rfl
   rw[e2]at e;refine go tt [.t (by simp[hw];omega),.x (Rq hx),.i k,.t (by simp[hw];omega),.x (i:=k+1) (Rq hv),.k (Qgc (i2 w (Qa hx)) (i2 v (Qa hv)) f1),.i k] rfl (by simp[U3,Ii,hw];omega) ?_;rw[List.set_set,e];exact rd (k+1) (by omega) hlt rfl
  ·have hv:l[k+1]? = none:=Qu (by omega);rw[hv]at hg;have e2:r.getD k []=w:=by rw[Qi,hg];rfl
   rw[e2]at e;refine go tt [.t (by simp[hw];omega),.x (Rq hx),.i k,.f (by simp[hw];omega)] rfl (by simp[U3,Ii,hw];omega) ?_;rw[e];exact rd (k+1) (by omega) hlt rfl
 ·obtain rfl:k=l.length:=by omega
  have e:AG (λi=>[pl (r.getD i [])]) [.nils] l.length l.length=Pe r:=by
   rw[QP,<-j1];refine Xl λi=>?_
   simp only[Pe,Za];by_cases hi:i<r.length
   ·rw[X2 hi];simp[Qi,Qf hi]
   ·rw[Qu (by simpa using hi),Qu (by simpa using hi)];rfl
  rw[e];exact Uh [.f (by simp[hw])] rfl
theorem bI{p:Uo}(tp:Fe p):Fh (Fh p)=Fh p:=by
 by_cases h:p.length=0
 ·have e:Fh p=[]:=by unfold Fh;rw[if_pos h]
  rw[e];rfl
 ·obtain⟨h1,h2,h3,h4,_⟩:=Cu tp h;have hc:Pg (Fh p)=1:=by
   have h5:Pg (Fh p)∣1:=h3 _ λk=>by
    by_cases hk:k<(Fh p).length
    ·rw[Qi,Qf hk];exact E5 _ (Xv hk)
    ·rw[Qi,Qu (by omega)];exact Int.dvd_zero _
   have h6:0<=Pg (Fh p):=by unfold Pg;omega
   exact Int.eq_one_of_dvd_one h6 h5
  have hf:∀q:Uo,0<Fp q->Hp q=Pg q:=λq hq=>by unfold Hp;rw[if_neg (by omega)]
  have hf:=(hf _ h4).trans hc;have e0:∀q:Uo,q.length≠0->Fh q=Dc q (Hp q):=λq hq=>by unfold Fh;rw[if_neg hq]
  have e:=e0 (Fh p) (by omega);rw[hf]at e;rw[e];unfold Dc;have e2:(Fh p).map (· / (1:Int))=Fh p:=by
   conv=>rhs;rw[<-List.map_id (Fh p)]
   exact Xt λz _=>by simp
  rw[e2];exact h1
theorem Qam(i:Nat):(i:Int).tmod 2=((i % 2:Nat):Int):=rfl
theorem Qts{a:Uo}(ha:Pb a)(h:(Fh a).length=0):Ul 404 [pr a] [pr []] :=
 Ui func404 rfl [.k (A9 ha),.t (by simp[Qj h])] rfl
theorem YC:∀{l:Up} {i:Nat} {p o:Uo},Pb p->(∀f∈l,Pb f)->FS i p l=some o->Pb o
 | [],i,p,o,hp,_,h=>by simp only[FS]at h;injection h with h;subst h;exact hp
 |
  f::l,i,p,o,hp,hl,h=>by
  simp only[FS]at h
  split at h
  ·obtain⟨q,hq,h⟩:=Qd.1 h;obtain⟨rfl,hq'⟩:=QG (Hz _ _) hq;exact YC hq' (λf hf=>hl f (Qg _ hf)) h
  ·exact YC hp (λf hf=>hl f (Qg _ hf)) h
theorem Qjo:Pb [1]:=⟨rfl,by decide,λz hz=>by rw[Qk.1 hz];decide⟩
theorem Qxx{a o:Uo}(ha:Pb a)(h:bL a=some o):Ul 404 [pr a] [pr o]:=by
 unfold bL at h
 split at h
 ·rename_i h0;injection h with h;subst h;exact Qts ha h0
 rename_i h0;obtain⟨l,hl,h⟩:=Qd.1 h;obtain⟨fs,hf,h⟩:=Qd.1 h;have hpa:=Ta ha;have hl':RG 66 (Fh (Fh a))=some l:=by rw[bI ha.t];exact hl
 obtain⟨i1,i2⟩:=MB (Ta ha) hl;have i3:=jT i2 hf;obtain⟨j1,_⟩:=CC hf;have hw:=E6 fs;have co:=lG (p:=[1]) (by decide) (λz hz=>by rw[Qk.1 hz];decide);rw[show trim [1]=[1] from rfl]at co;refine Fv func404 rfl ?_;refine Uf [.k (A9 ha),.f (by simpa using h0),.k co,.k (Qbc hpa hl' hf)] rfl ?_ (by simp[U3]);refine Uk (S:=Nat×Uo) 0 (λL1 s=>(16,.v (.oi (s.1:Int)))::(3,.v (pr s.2))::L1) (λ_=>[]) (λs=>fs.length-s.1) (λs=>s.1<=fs.length/\Pb s.2/\FS s.1 s.2 (fs.drop s.1)=some o) (0,[1]) ⟨Qh _,Qjo,h⟩ rfl rfl λ⟨i,p⟩ ⟨k1,k2,k3⟩=>?_
 dsimp only at k1 k2 k3 ⊢;by_cases hlt:i<fs.length
 ·obtain⟨f,hx⟩:=gxE (l:=fs) (i:=i) hlt;have hdr:fs.drop i=f::fs.drop (i+1):=by
   rw[Zp hlt];congr 1;have:=Qf hlt;rw[hx]at this;injection this with this;exact this.symm
  rw[hdr]at k3;simp only[FS]at k3;have pf:=i3 f (Qa hx);by_cases h2:i % 2=0
  ·rw[if_pos h2]at k3;obtain⟨q,hq,k3⟩:=Qd.1 k3;obtain⟨rfl,hq'⟩:=QG (Hz _ _) hq;refine Ug [.t (by simp[hw];omega),.x (Rq hx),.t (by rw[Qam,h2];rfl),.k (KU k2.t pf.t (Z3 k2.l (by decide)) (Z3 pf.l (by decide)) k2.b pf.b (by decide))] rfl ?_;exact rd (i+1,Gl p f) (by dsimp only;omega) ⟨hlt,hq',k3⟩ rfl
  ·rw[if_neg h2]at k3;refine Ug [.t (by simp[hw];omega),.x (Rq hx),.f (by rw[Qam,show i % 2=1 by omega];rfl)] rfl ?_;exact rd (i+1,p) (by dsimp only;omega) ⟨hlt,k2,k3⟩ rfl
 ·obtain rfl:i=fs.length:=by omega
  rw[Yu]at k3;simp only[FS]at k3;injection k3 with k3;subst k3;exact Uh [.f (by simp[hw])] rfl
theorem QB(z:Int):Fc (z.natAbs:Int)=Fc z:=by unfold Fc;simp
theorem Qfs{x y:LV}{z:Int}(hi:Gd x y z)(hs:Fc z<=4294967295):Ul 409 [.agg [x,y]] [.agg (Hg (z.natAbs:Int))]:=by
 obtain⟨b,l,rfl,rfl,hl,rfl⟩:=hi;have e:(Fa false (val l))=((Fa b (val l)).natAbs:Int):=by rw[Rw];rfl
 rw[<-e];exact Ui func409 rfl [.k (KV hl (Qc (Py hs) (by decide))),.k (P5 _ _)] rfl
theorem Qny{n d:Int}(h0:d≠0)(hn:Fc n<=4294967295)(hd:Fc d<=4294967295):Ul 410 [.agg (Hg n),.agg (Hg d)] [.agg (rl (Rat.divInt n d)),.oi 0] :=
 Ui func410 rfl [.k (Mp (U4 d) hd),.k Di,.f (by simpa using h0),.k (Mp (U4 n) hn),.k (ZA h0 hn hd)] rfl
theorem Qcv(l:Uo)(z:Int):most (l++[z])=if most l<z.natAbs then z.natAbs else most l:=by unfold most;rw[List.foldl_append];rfl
theorem iP{s:Nat}:∀{l:Uo},Bd s l->Fc (most l:Int)<=s:=λ{l}=>by
 suffices h:∀(l:Uo) (m:Nat),Bd s l->Fc (m:Int)<=s->Fc ((l.foldl (λm z=>if m<z.natAbs then z.natAbs else m) m:Nat):Int)<=s from λhb=>h l 0 hb (by simp[Fc,sz])
 intro l
 induction l with
 |nil=>exact λm _ h=>h
 |
  cons z l ih =>
  intro m hb hm;refine ih _ (λy hy=>hb y (Qg _ hy)) ?_;show Fc ((if m<z.natAbs then z.natAbs else m:Nat):Int)<=s
  split
  ·rw[QB];exact hb z (Qy ..)
  ·exact hm
def ozi:Option Nat->Ut
 |none=>[.bool false,.nils]
 |some m=>Hg (m:Int)
def ozr:Option Nat->Ut
 |none=>[.bool false,.row []]
 |some m=>Hg (m:Int)
theorem Qmt{p:Uo}(hp:Pb p)(h0:p.length≠0):Ul 405 [pr p] [.agg (rl (Gz p)),.oi 0]:=by
 have hl:=hp.l;have hll:(p.take (p.length-1)).length=p.length-1:=by simp
 have hbt:Bd 16777216 (p.take (p.length-1)):=λz hz=>hp.b z (Qn hz)
 refine Fv func405 rfl ?_;refine Ug [.k (Hr hp.t hp.ln hp.bd),.f (by simpa using h0),.r 18 (eI (b:=((p.length-1:Nat):Int)) (by simp;omega)),.i (p.length-1)] rfl ?_;rw[<-Jw];refine Uk (S:=Nat×Option Nat) 2 (λL1 s=>(21,.v (.oi (s.1:Int)))::L1) (λs=>[.blk 42 [.bool false,.nils,.bool false,.nils],.blk 36 (ozi s.2)]) (λs=>p.length-1-s.1) (λs=>s.1<=p.length-1/\most ((p.take (p.length-1)).take s.1)=s.2.getD 0) (0,none) ⟨Qh _,rfl⟩ rfl rfl λ⟨i,o⟩ ⟨j1,j2⟩=>?_
 dsimp only at j1 j2 ⊢;by_cases hlt:i<p.length-1
 ·obtain⟨z,hz⟩:=gxE (l:=(p.take (p.length-1))) (i:=i) (by omega);have bz:Fc z<=16777216:=hbt z (Qa hz);have hst:most ((p.take (p.length-1)).take (i+1))=if o.getD 0<z.natAbs then z.natAbs else o.getD 0:=by
   rw[Z1,hz];show most (_++[z])=_;rw[Qcv,j2]
  have ca:=Qfs (U4 z) (Qc bz (by decide));have hl1:decide ((i:Int)<(((p.take (p.length-1)).map Hg).length:Int))=true:=by simp;omega
  have bm:Fc ((o.getD 0:Nat):Int)<=16777216:=by rw[<-j2];exact iP λy hy=>hbt y (Qn hy)
  have hcm:D9 (z.natAbs:Int) ((o.getD 0:Nat):Int)>0↔o.getD 0<z.natAbs:=by unfold D9;split <;> (try split) <;> omega
  have cc:Ul 142 [.agg (Hg (z.natAbs:Int)),.agg (ozr o)] [.oi (D9 (z.natAbs:Int) ((o.getD 0:Nat):Int))]:=by
   cases o with
   |none=>exact HU (U4 _) QN (by rw[QB];omega) (by decide)
   |some m=>exact HU (U4 _) (U4 _) (by rw[QB];omega) (Qc bm (by decide))
  by_cases hc:o.getD 0<z.natAbs
  ·rw[if_pos hc]at hst;have hd:decide (D9 (z.natAbs:Int) ((o.getD 0:Nat):Int)>0)=true:=by simpa using hcm.2 hc
   cases o <;> (refine Ug [.t hl1,.x (Gx (f:=Hg) hz),.k ca,.k cc,.t hd] rfl ?_;exact rd (i+1,some z.natAbs) (by dsimp only;omega) ⟨hlt,hst⟩ rfl)
  ·rw[if_neg hc]at hst;have hd:decide (D9 (z.natAbs:Int) ((o.getD 0:Nat):Int)>0)=false:=by
    have:=mt hcm.1 hc;simpa using this
   cases o with
   |none=>refine Ug [.t hl1,.x (Gx (f:=Hg) hz),.k ca,.k cc,.f hd] rfl ?_;exact rd (i+1,none) (by dsimp only;omega) ⟨hlt,hst⟩ rfl
   |some m=>refine Ug [.t hl1,.x (Gx (f:=Hg) hz),.k ca,.k cc,.f hd] rfl ?_;exact rd (i+1,some m) (by dsimp only;omega) ⟨hlt,hst⟩ rfl
 ·obtain rfl:i=p.length-1:=by omega
  rw[Qo (by omega)]at j2;have bl:Fc (Fp p)<=16777216:=hp.b _ (DL h0);have ln:((Fp p).natAbs:Int)≠0:=by have:=Ek hp.t h0;omega
  have cl:=Du hp.t hp.ln hp.bd;have ca:=Qfs (U4 (Fp p)) (Qc bl (by decide));have bm:Fc ((o.getD 0:Nat):Int)<=16777216:=by rw[<-j2];exact iP hbt
  have cd:Ul 300 [.agg (Hg ((Fp p).natAbs:Int)),.agg (ozr o)] [.agg (Hg (((Fp p).natAbs:Int)+(most (p.take (p.length-1)):Int)))]:=by
   rw[j2];cases o with
   |none=>exact KF (U4 _) QN (by rw[QB];omega) (by decide)
   |some m=>exact KF (U4 _) (U4 _) (by rw[QB];omega) (Qc bm (by decide))
  have cm:=Qny (n:=((Fp p).natAbs:Int)+(most (p.take (p.length-1)):Int)) ln (Qc (QC _ _) (by rw[QB,j2];omega)) (by rw[QB];omega);have hf:decide (((p.length-1:Nat):Int)<(((p.take (p.length-1)).map Hg).length:Int))=false:=by simp
  cases o <;> exact Uh [.f hf,.k cl,.k ca,.k cd,.k cm] rfl
theorem Qrt{z:Int}:Ul 387 [.agg (Hg z)] [.oi (Int.sign z)]:=by
 by_cases h0:z=0
 ·subst h0;exact Ui func387 rfl [.t (by simp[U7,Hd])] rfl
 ·have hl:(Gb z.natAbs).length≠0:=λh=>h0 (Qcs.1 h)
  have hl':decide (((lm (Gb z.natAbs)).length:Int)=0)=false:=by simpa[U7]using hl
  by_cases h1:z<0
  ·rw[Ya h1];exact Ui func387 rfl [.f hl',.t (by simpa using h1)] rfl
  ·rw[Yv (by omega)];exact Ui func387 rfl [.f hl',.f (by simpa using h1)] rfl
theorem Qeq{p:Uo}(hp:Pb p):Ul 415 [pr p] [.oi (ZT p),.oi (UC p)]:=by
 have hb:-1<=(Fp p).sign/\(Fp p).sign<=1:=by rcases Aw (Fp p)with h|h|h <;> omega
 by_cases h:p.length % 2=0
 ·have e:ZT p=-(Fp p).sign:=by unfold ZT;rw[if_pos h]
  rw[e];exact Ui func415 rfl [.k (Hr hp.t hp.ln hp.bd),.k (Du hp.t hp.ln hp.bd),.k Qrt,.t (by rw[Qam];simp[h])] rfl rfl (by simp[U3,Fp]at hb ⊢;omega)
 ·have e:ZT p=(Fp p).sign:=by unfold ZT;rw[if_neg h]
  rw[e];exact Ui func415 rfl [.k (Hr hp.t hp.ln hp.bd),.k (Du hp.t hp.ln hp.bd),.k Qrt,.f (by rw[Qam];simp;omega)] rfl rfl (by simp[U3])
theorem Qf2{p:Uo}(hp:Pb p):Ul 414 [pr p] [.oi (ZT p)]:=Ui func414 rfl [.k (Qeq hp)] rfl
theorem Qnw{p:Uo}(hp:Pb p):Ul 416 [pr p] [.oi (UC p)]:=Ui func416 rfl [.k (Qeq hp)] rfl
theorem Qgd{q:Rat}(hq:Qs 4294967295 q):Ul 206 [.agg (rl q)] [.agg (rl (-q))]:=by
 exact Ui func206 rfl [.k (BD hq),.k (BV (U4 _) hq.1)] rfl
theorem wB{l:Up}{fid:Nat}{sg:Uo->Int}(hl:l.length≤1000)(hs:∀p,-1≤sg p/\sg p≤1)(h:∀p∈l,AT prog fid [pr p] [.oi (sg p)]):Ul 340 [.one (.sh [.row (Pe l)]),.one (.fn fid [] [])] [.oi (C5 sg l:Nat)]:=by
 have hpl:=E6 l;refine Fv func340 rfl ?_;refine Uf [] rfl ?_;refine Uk (S:=Nat) 0 (λL1 i=>(15,.v (.oi i))::(5,.v (.oi ((VM sg l i).1:Int)))::(6,.v (.one (.int .i64 (VM sg l i).2)))::L1) (λ_=>[]) (λi=>l.length-i) (λi=>i<=l.length) 0 (Qh _) rfl rfl λi hi=>?_
 by_cases hlt:i<l.length
 ·obtain⟨p,hp⟩:=gxE (l:=l) (i:=i) hlt;have hst:VM sg l (i+1)=Pw sg (VM sg l i) p:=Si _ _ _ hp;obtain⟨b1,b2,b3⟩:=vC hs l i;have b4:=hs p;by_cases h0:sg p=0
  ·refine Ug [.t (by simp[hpl];omega),.x (Rq hp),.k (h p (Qa hp)),.t (by simpa using h0)] rfl ?_;exact rd (i+1) (by omega) hlt (by rw[hst,show Pw sg (VM sg l i) p=VM sg l i from by unfold Pw;rw[if_pos h0]];rfl)
  ·by_cases h1:(VM sg l i).2=-(sg p)
   ·refine Ug [.t (by simp[hpl];omega),.x (Rq hp),.k (h p (Qa hp)),.f (by simpa using h0),.t (by simpa using h1)] rfl ?_;exact rd (i+1) (by omega) hlt (by rw[hst,show Pw sg (VM sg l i) p=((VM sg l i).1+1,sg p) from by unfold Pw;rw[if_neg h0,if_pos h1]];rfl)
   ·refine Ug [.t (by simp[hpl];omega),.x (Rq hp),.k (h p (Qa hp)),.f (by simpa using h0),.f (by simpa using h1)] rfl ?_;exact rd (i+1) (by omega) hlt (by rw[hst,show Pw sg (VM sg l i) p=((VM sg l i).1,sg p) from by unfold Pw;rw[if_neg h0,if_neg h1]];rfl)
 ·obtain rfl:i=l.length:=by omega
  refine Uh [.f (by simp[hpl])] rfl ?_ trivial;unfold VM C5;rw[List.take_length]
theorem HA(p:Uo):(-1<=ZT p/\ZT p<=1)/\-1<=UC p/\UC p<=1:=by
 have hb:-1<=(Fp p).sign/\(Fp p).sign<=1:=by rcases Aw (Fp p)with h|h|h <;> omega
 unfold ZT UC
 split <;> omega
theorem Qmu{l:Up}(hl:l.length≤1000)(hp:∀p∈l,Pb p):Ul 407 [.one (.sh [.row (Pe l)])] [.oi (WR l)]:=by
 have c1:Ul 411 [.one (.sh [.row (Pe l)])] [.oi (C5 ZT l:Nat)] :=
  Ui func411 rfl [.k (wB hl (λp=>(HA p).1) λp h=>Qf2 (hp p h))] rfl
 have c2:Ul 412 [.one (.sh [.row (Pe l)])] [.oi (C5 UC l:Nat)] :=
  Ui func412 rfl [.k (wB hl (λp=>(HA p).2) λp h=>Qnw (hp p h))] rfl
 have b1:C5 ZT l<=l.length:=Lt (λp=>(HA p).1) l;have b2:C5 UC l<=l.length:=Lt (λp=>(HA p).2) l;exact Ui func407 rfl [.k c1,.k c2] rfl rfl (by simp[U3];omega)
theorem pG{l:Up}{lo hi:Rat}(hl:l.length<=1000):-1000<=Tq l lo hi/\Tq l lo hi<=1000:=by
 have b1:C6 l lo<=l.length:=Lt (λp=>Oz p lo) l;have b2:C6 l hi<=l.length:=Lt (λp=>Oz p hi) l;unfold Tq;split <;> omega
abbrev tal(l:List Tm):Uu:=l.map λt=>ta t
theorem NQ{p:Uo}{c:Up}(hp:Pb p):∀{k:Nat} {lo hi:Rat} {n:Int} {r:List Tm},Qb lo->Qb hi->Im p c k lo hi n=some r->∀t∈r,Tb t
 | 0,_,_,_,_,_,_,h=>by cases h
 |
  k+1,lo,hi,n,r,hl,hh,h=>by
  simp only[Im]at h
  split at h
  ·injection h with h;subst h;exact λt ht=>by cases ht
  ·split at h
   ·injection h with h;subst h;intro t ht;rw[Qk.1 ht];exact⟨hp,hl,hh⟩
   ·obtain⟨m,hm,h⟩:=Qd.1 h;obtain⟨rfl,qm⟩:=BI hm;obtain⟨x,hx,h⟩:=Qd.1 h;obtain⟨y,hy,h⟩:=Qd.1 h;injection h with h;subst h;intro t ht;rcases Qp.1 ht with ht|ht
    ·exact NQ hp hl qm hx t ht
    ·exact NQ hp qm hh hy t ht
theorem Qwq(l:List Tm):∀c∈tal l,c.length=9:=λc hc=>by obtain⟨t,_,rfl⟩:=Q9.1 hc;rfl
theorem mK{p:Uo}{c:Up}(hp:Pb p)(hcl:c.length≤1000)(hc:∀q∈c,Pb q):∀{k:Nat} {lo hi:Rat} {n:Int} {r:List Tm},Qb lo->Qb hi->k≤100000->-(1000*(100001-k:Nat))≤n/\n≤1000*(100001-k:Nat)->Im p c k lo hi n=some r->r.length≤1000000->U6 prog 406 [pr p,.one (.sh [.row (Pe c)]),.agg (rl lo),.agg (rl hi),.oi n] [] [.one (.orow 0 9 none)] [.row false 105 9 (tal r)]
 | 0,_,_,_,_,_,_,_,_,h,_=>by cases h
 |
  k+1,lo,hi,n,r,hl,hh,hk,hn,h,hr=>by
  simp only[Im]at h
  split at h
  ·rename_i h0;injection h with h;subst h;refine Fv func406 rfl ?_;exact Uj [] [2] [.t (by simpa using h0),.o 10 105 9] rfl
  ·rename_i h0
   split at h
   ·rename_i h1;injection h with h;subst h;refine Fv func406 rfl ?_;exact Uj [] [2] [.f (by simpa using h0),.t (by simpa using h1),.k (Hr hp.t hp.ln hp.bd),.k (Nx hl.s32),.k (Nx hh.s32),.lo] rfl
   ·rename_i h1;obtain⟨m,hm,h⟩:=Qd.1 h;obtain⟨rfl,qm⟩:=BI hm;obtain⟨x,hx,h⟩:=Qd.1 h;obtain⟨y,hy,h⟩:=Qd.1 h;injection h with h;subst h;have hb:=pG (l:=c) (lo:=lo) (hi:=mid lo hi) hcl;rw[Qx]at hr;have c1:=mK hp hcl hc hl qm (by omega) (by omega) hx (by omega);have c2:=mK hp hcl hc qm hh (by omega) (by omega) hy (by omega);rw[show tal (x++y)=tal x++tal y from Yj];refine Fv func406 rfl ?_;exact Uj [] [3] [.f (by simpa using h0),.f (by simpa using h1),.k (Qrs hl hh),.k (IG hcl hc hl qm),.c [3] c1,.c [4] c2,.s (Qwq y)] rfl (by simp[U3];omega)
theorem Qm8{p:Uo}{r:List Tm}(hp:Pb p)(h:SI p=some r)(hr:r.length<=1000000):Ul 403 [pr p] [.one (tas r),.oi 0]:=by
 unfold SI at h;obtain⟨c,h1,h⟩:=Qd.1 h;obtain⟨q,h2,h⟩:=Qd.1 h;obtain⟨b,h3,h⟩:=Qd.1 h;obtain⟨rfl,hb⟩:=BI h3;obtain⟨k1,k2⟩:=chain_ok hp h1;have hq:=RA hp h2;have q0:q.length≠0:=by
  unfold Ea at h1;obtain⟨a,a1,h1⟩:=Qd.1 h1;rw[h2]at a1;injection a1 with a1;subst a1
  split at h1
  ·cases h1
  ·assumption
 have qn:Qb (-Gz q):=⟨by rw[Rat.neg_num,Ho];exact hb.1,by rw[Rat.neg_den];exact hb.2⟩;have bb1:C5 ZT c<=c.length:=Lt (λp=>(HA p).1) c;have bb2:C5 UC c<=c.length:=Lt (λp=>(HA p).2) c;have hn:-(1000*(100001-100000:Nat):Int)<=WR c/\WR c<=1000*(100001-100000:Nat):=by unfold WR;omega
 have cr:=mK hq (by omega) k2 qn hb (Qm _) hn h hr;refine Fv func403 rfl ?_;exact Uj [1] [] [.k (Qfj hp h1),.f rfl,.k (BG hp h2),.k (Qmt hq q0),.k (Qgd hb.s32),.k (Qmu (by omega) k2),.c [1] cr] rfl
def U0(l:List Pt):Uu:=l.map Fb
theorem Ts{l:List Pt}{i:Nat}{c:Pt}(h:l[i]? = some c):(U0 l)[i]? = some (Fb c):=Gx h
theorem G7(l:List Pt):(U0 l).length=l.length:=by simp[U0]
theorem YA(l:List Pt):∀c∈U0 l,c.length=5:=λc hc=>by
 obtain⟨x,_,rfl⟩:=Q9.1 hc;rfl
abbrev zPt:Ut:=[.nils,.nils,.bool false,.nils,.int .i64 0]
theorem aC{lt:Pt->Pt->Bool}{O:List Pt}{z:Ut}{c:Pt}{k m:Nat}{l2:Uu}(hk:k<=O.length)(hp:Lz lt O c O.length=k)(hm:m=O.length-k)(h2:l2.take m=((U0 O++[z]).drop k).take m) :
 ((U0 O++[z]).take (k+1)++(l2.take m++(U0 O++[z]).drop (k+1+m))).set k (Fb c)=U0 (Lv lt O c):=by
 rw[h2,<-Ze,fG (U0 O) z (Fb c) (by rw[G7];omega) (by rw[G7];omega)];simp[Lv,hp,U0,Jw,Vi]
def Rr(t:Tm)(l:List Pt):List Pt:=Ed (Tu (Fq t)) l
theorem wF{l:List Pt}{t:Tm}(hl:∀p∈l,Sc p.c)(hn:l.length≤1000000)(ht:Va t):Ul 251 [.agg (ta t),.one (pts l)] [.one (pts (Rr t l))]:=by
 have hcl:=G7 l;show Ul 251 [.agg (ta t),.one (.row (U0 l))] [.one (.row (U0 (Rr t l)))];obtain⟨lt,hlt0⟩:=nmE (Tu (Fq t));unfold Rr;rw[<-hlt0];refine Fv func251 rfl ?_;refine Uf [.o 5 40 5] rfl ?_;refine Uk (S:=Nat) 2 (λL1 i=>(11,.v (.oi i))::(5,.v (.one (.orow 1 5 none)))::L1) (λi=>[.blk 105 (ta t),.row false 40 5 (U0 (Ed lt (l.take i)))]) (λi=>l.length-i) (λi=>i<=l.length) 0 (Qh _) rfl rfl λi hi=>?_
 by_cases hlt:i<l.length
 ·obtain⟨c,hc⟩:=gxE (l:=l) (i:=i) hlt;have hst:Ed lt (l.take (i+1))=Lv lt (Ed lt (l.take i)) c:=dZ hc;have hcp:=hl c (Qa hc);obtain⟨O,hO⟩:=nmE (Ed lt (l.take i));have hOl:O.length=i:=by rw[hO,zC,Qr];omega
  have hOm:∀x∈O,Sc x.c:=λx hx=>by rw[hO,Qdi]at hx;exact hl x (Qn hx)
  rw[<-hO]at hst ⊢;refine Uf [.t (by simp[hcl];omega),.x (Ts hc)] rfl ?_;refine Uk (S:=Nat) 3 (λL1 k=>(8,.v (.oi k))::L1) (λk=>[.blk 105 (ta t),.row false 40 5 (U0 O),.blk 40 (Fb c)]) id (λk=>k<=O.length/\Lz lt O c k=Lz lt O c O.length) (U0 O).length ⟨by rw[G7];exact Qm _,by rw[G7]⟩ rfl rfl λk ⟨hk,hp⟩=>?_
  have hz:∀y∈[zPt],y.length=5:=λy hy=>by rw[Qk.1 hy];rfl
  have h77:∀y∈U0 O++[zPt],y.length=5:=λy hy=>by
   rcases Qp.1 hy with hy|hy
   ·exact YA O y hy
   ·exact hz y hy
  cases k with
  |
   zero =>
   have hp:Lz lt O c O.length=0:=by rw[<-hp];rfl
   refine go tt [.g 19 false (by simp),.f rfl,.s (sz:=5) hz,.r 37 (eI (b:=((0+1:Nat):Int)) (by simp)),.i (0+1),.i (0),.s (sz:=5) (λy hy=>h77 y (Qn hy)),.i (O.length),.i (0)] rfl (by simp[U3,G7];omega) ?_;exact rd (i+1) (by omega) hlt (by rw[hst,<-aC (z:=zPt) (l2:=(U0 O++[zPt]).take ((U0 O++[zPt]).length-0)) (k:=0) (m:=O.length) (by omega) hp (by omega) (by congr 1;exact Qo (by simp))];rfl)
  |
   succ k =>
   obtain⟨x,hx⟩:=gxE (l:=O) (i:=k) (by omega);have cb:=Qej hcp (hOm x (Qa hx)) ht;rw[<-hlt0]at cb;by_cases hlc:lt c x=true
   ·refine go tt [.g 19 true (by simp),.r 23 (eI (b:=(k:Int)) (by simp)),.i k,.x (Ts hx),.k cb,.t hlc,.r 30 (eI (b:=(k:Int)) (by simp))] rfl (by simp[U3,G7];omega) ?_;exact rd k (by simp) ⟨by omega,by rw[<-hp,oH hx hlc]⟩ rfl
   ·have hlc:lt c x=false:=by simpa using hlc
    have hp:Lz lt O c O.length=k+1:=by rw[<-hp,rR hx hlc]
    refine go tt [.g 19 true (by simp),.r 23 (eI (b:=(k:Int)) (by simp)),.i k,.x (Ts hx),.k cb,.f hlc,.s (sz:=5) hz,.r 37 (eI (b:=((k+1+1:Nat):Int)) (by simp)),.i (k+1+1),.i (k+1),.s (sz:=5) (λy hy=>h77 y (Qz (Qn hy))),.i (O.length-(k+1)),.i (k+1)] rfl (by simp[U3,G7];omega) ?_;exact rd (i+1) (by omega) hlt (by rw[hst,<-aC (z:=zPt) (l2:=((U0 O++[zPt]).drop (k+1)).take ((U0 O++[zPt]).length-(k+1))) (k:=k+1) (m:=O.length-(k+1)) (by omega) hp (by omega) (by congr 1;exact Qo (by simp))];rfl)
 ·obtain rfl:i=l.length:=by omega
  rw[Q7];exact Uh [.f (by simp[hcl])] rfl
def S6(sg:Uo->Int):List Pt->List Ct
 |a::b::l=>QO sg a b::S6 sg (b::l)
 |_=>[]
theorem B5(sg:Uo->Int):∀l:List Pt,(S6 sg l).length=l.length-1
 | []=>rfl
 | [_]=>rfl
 |a::b::l=>by simp only[S6,Q5,B5 sg (b::l)];omega
theorem TK(sg:Uo->Int):∀{l:List Pt} {i:Nat} {a b:Pt},l[i]? = some a->l[i+1]? = some b->(S6 sg l).take (i+1)=(S6 sg l).take i++[QO sg a b]
 | [],i,a,b,h,_=>by simp at h
 | [x],i,a,b,_,h=>by cases i <;> simp at h
 |x::y::l,0,a,b,h1,h2=>by simp at h1 h2;subst h1;subst h2;simp[S6]
 |
  x::y::l,i+1,a,b,h1,h2=>by
  have ih:=TK sg (l:=y::l) (i:=i) (a:=a) (b:=b) (by simpa using h1) (by simpa using h2);simp only[S6,Vf]at ih ⊢;rw[ih];rfl
theorem BF{l:List Pt}{t:Tm}(hl:∀p∈l,Sc p.c)(hn:l.length≤1000000)(ht:Va t):Ul 253 [.agg (ta t),.one (pts l)] [.one (.row (Fl (S6 (Fq t) l)))]:=by
 have hcl:=G7 l;show Ul 253 [.agg (ta t),.one (.row (U0 l))] [.one (.row (Fl (S6 (Fq t) l)))];refine Fv func253 rfl ?_;refine Uf [.o 5 99 7] rfl ?_;refine Uk (S:=Nat) 2 (λL1 i=>(6,.v (.oi ((i+1:Nat):Int)))::(5,.v (.one (.orow 1 7 none)))::L1) (λi=>[.blk 105 (ta t),.row false 99 7 (Fl ((S6 (Fq t) l).take i))]) (λi=>l.length-i) (λi=>i<=l.length-1) 0 (Qh _) rfl rfl λi hi=>?_
 by_cases hlt:i+1<l.length
 ·obtain⟨a,ha⟩:=gxE (l:=l) (i:=i) (by omega);obtain⟨b,hb⟩:=gxE (l:=l) (i:=i+1) hlt;have hg:=TK (Fq t) ha hb;have hm:∀y∈[Lx (QO (Fq t) a b)],y.length=7:=λy hy=>by rw[Qk.1 hy];rfl
  refine go tt [.t (by simp[hcl];omega),.r 19 (eI (b:=(i:Int)) (by simp)),.x (Ts ha),.x (Ts hb),.k (lW (hl a (Qa ha)) (hl b (Qa hb)) ht),.s (sz:=7) hm,.r 14 (eI (b:=((i+1+1:Nat):Int)) (by simp))] rfl (by simp[U3,G7,Be,B5];omega) ?_;exact rd (i+1) (by omega) (by omega) (by rw[hg];simp[Fl];rfl)
 ·have e:(S6 (Fq t) l).take i=S6 (Fq t) l:=Qo (by rw[B5];omega);rw[e];exact Uh [.f (by simp[hcl];omega)] rfl
theorem Qna:Ul 281 [pr []] [.one .nilp,.oi 2]:=by
 have h:Po []=some []:=rfl;exact Ui func281 rfl [.k (BG RE h),.t rfl] rfl
theorem Qfh:Ul 403 [pr []] [.one (.row []),.oi 2] :=
 Ui func403 rfl [.k Qna,.t rfl] rfl
theorem Qvv{a o:Uo}(ha:Pb a)(h:bL a=some o):Pb o:=by
 unfold bL at h
 split at h
 ·injection h with h;subst h;exact RE
 ·obtain⟨l,hl,h⟩:=Qd.1 h;obtain⟨fs,hf,h⟩:=Qd.1 h;exact YC Qjo (jT (MB (Ta ha) hl).2 hf) h
theorem Qes{p:Uo}{l:List Tm}(hp:Pb p)(h:WN p=some l)(hl:l.length<=1000000):Ul 402 [pr p] [.one (tas l)]:=by
 unfold WN at h;obtain⟨q,hq,h⟩:=Qd.1 h;have qp:=Qvv hp hq;have co:=Qxx hp hq
 split at h
 ·rename_i h0;injection h with h;subst h;obtain rfl:=Qj h0;exact Ui func402 rfl [.k co,.k Qfh,.t rfl] rfl
 ·exact Ui func402 rfl [.k co,.k (Qm8 qp h hl),.f rfl] rfl
def ota:Option Tm->Ut
 |none=>zTr
 |some t=>ta t
theorem Qmx{p:Uo}{a:Tm}{l:List Tm}{r:Option Tm}(hp:Pb p)(ha:Tb a)(h:WN p=some l)(hl:l.length≤1000000)(ht:∀t∈l,Tb t)(hr:VE a l=some r):Ul 401 [pr p,.agg (ta a)] [.agg (ota r),.one (.bool r.isSome)]:=by
 have hll:(l.map λt=>ta t).length=l.length:=by simp
 refine Fv func401 rfl ?_;refine Uf [.k (Qes hp h hl)] rfl ?_;refine Uk (S:=Nat) 2 (λL1 i=>(11,.v (.oi i))::L1) (λ_=>[.blk 105 (ta a),.blk 105 zTm]) (λi=>l.length-i) (λi=>i<=l.length/\VE a (l.drop i)=some r) 0 ⟨Qh _,hr⟩ rfl rfl λi ⟨hi,hf⟩=>?_
 by_cases hlt:i<l.length
 ·obtain⟨t,hx⟩:=gxE (l:=l) (i:=i) hlt;have hdr:l.drop i=t::l.drop (i+1):=by
   rw[Zp hlt];congr 1;have:=Qf hlt;rw[hx]at this;injection this with this;exact this.symm
  rw[hdr]at hf;simp only[VE]at hf;obtain⟨c,c1,hf⟩:=Qd.1 hf;have cc:=KY (ht t (Qa hx)) ha c1;by_cases hc:0<c
  ·rw[if_pos hc]at hf;injection hf with hf;subst hf;exact Uh [.t (by simp;omega),.x (NH hx),.k cc,.t (by simpa using hc)] rfl
  ·rw[if_neg hc]at hf;refine Ug [.t (by simp;omega),.x (NH hx),.k cc,.f (by simpa using hc)] rfl ?_;exact rd (i+1) (by omega) ⟨hlt,hf⟩ rfl
 ·obtain rfl:i=l.length:=by omega
  rw[Yu]at hf;simp only[VE]at hf;injection hf with hf;subst hf;exact Uh [.f (by simp)] rfl
def Og(now:Tm):List Wt->Option (List Wt)
 | []=>some []
 |w::l=>(if w.known=true then some w else(SB w.c.p now).bind λr=>some ⟨w.c,true,r⟩).bind λw'=>(Og now l).bind λr=>some (w'::r)
theorem YM{now:Tm}:∀{l ws:List Wt},Og now l=some ws->ws.length=l.length/\∀(i:Nat) (w:Wt),l[i]? = some w->∃v,ws[i]? = some v/\(w.known=true/\v=w\/w.known=false/\∃r,SB w.c.p now=some r/\v=⟨w.c,true,r⟩)
 | [],ws,h=>by injection h with h;subst h;exact⟨rfl,λi x hx=>by simp at hx⟩
 |
  y::l,ws,h=>by
  simp only[Og]at h;obtain⟨v,hv,h⟩:=Qd.1 h;obtain⟨r,hr,h⟩:=Qd.1 h;injection h with h;subst h;obtain⟨a,b⟩:=YM hr;refine⟨by simp[a],λi x hx=>?_⟩;cases i with
  |
   zero =>
   injection hx with hx;subst hx;refine⟨v,rfl,?_⟩
   split at hv
   ·rename_i hk;injection hv with hv;exact .inl ⟨hk,hv.symm⟩
   ·rename_i hk;obtain⟨q,hq,hv⟩:=Qd.1 hv;injection hv with hv;exact .inr ⟨by simpa using hk,q,hq,hv.symm⟩
  |succ i=>exact b i x (by simpa using hx)
theorem wY{p:Uo}{a:Tm}{r:Option Tm}(hp:Cp p)(ha:Va a)(h:SB p a=some r):Ul 401 [pr p,.agg (ta a)] [.agg (ota r),.one (.bool r.isSome)]:=by
 obtain⟨l,l1,l2,l3,_⟩:=JC hp;unfold SB at h;rw[l1]at h;exact Qmx (Dp.pb hp.dp) ha.tb l1 (by omega) (λt ht=>(l3 t ht).tb) h
theorem Qm0{T:Nat}{c:Cr}{r0 r1:Uu}{ws:List Wt}(hc:CrOk c)(h:Og c.now c.l=some ws):U6 prog 395 [.one (.ow 0 0)] [.blk T (Hn c r0 r1)] [] [.blk T (Hn { c with l:=ws } r0 r1)]:=by
 have hk:=hc.k;have hw:=Sy c.l;obtain⟨h1,h2⟩:=YM h;refine Fv func395 rfl ?_;refine Uf [.o 2 352 18,.c [0] (QV hc.n)] rfl ?_;refine Uk (S:=Nat) 3 (λL1 i=>(13,.v (.oi i))::(2,.v (.one (.orow 1 18 none)))::L1) (λi=>[.blk T (Hn c r0 r1),.row false 352 18 (C9 (ws.take i)),.blk 105 (ta c.now)]) (λi=>c.l.length-i) (λi=>i<=c.l.length) 0 (Qh _) rfl rfl λi hi=>?_
 by_cases hlt:i<c.l.length
 ·obtain⟨w,hx⟩:=gxE (l:=c.l) (i:=i) hlt;obtain⟨v,hv,h3⟩:=h2 i w hx;have hm:∀y∈[wl v],y.length=18:=λy hy=>by rw[Qk.1 hy];rfl
  have hg:=E9 hv;have hl:decide ((i:Int)<((C9 c.l).length:Int))=true:=by simp[hw];omega
  rcases h3 with⟨k1,rfl⟩|⟨k1,r,k2,rfl⟩
  ·obtain⟨vc,vk,vf⟩:=v;cases vf <;> (refine go tt [.t hl,.x (H5 hx),.f (by rw[show vk=true from k1];rfl),.s (sz:=18) hm] rfl (by simp[U3,Sy];omega) ?_;exact rd (i+1) (by omega) hlt (by rw[hg];rfl))
  ·have cg:=wY (hc.l w (Qa hx)).p hc.n k2;obtain⟨wc,wk,wf⟩:=w;cases r <;> cases wf <;> (refine go tt [.t hl,.x (H5 hx),.t (by rw[show wk=false from k1];rfl),.k cg,.s (sz:=18) hm] rfl (by simp[U3,Sy];omega) ?_;exact rd (i+1) (by omega) hlt (by rw[hg];rfl))
 ·obtain rfl:i=c.l.length:=by omega
  rw[<-h1,Q7];exact Uj [1] [0] [.f (by simp[hw,h1])] rfl
def IX(ws:List Wt):Option (Option Tm):=match ws.filterMap (·.fails)with
 | []=>some none
 |b::l=>(QD b l).map some
theorem El{c:Cr}{ws:List Wt}(hc:CrOk c)(h:Og c.now c.l=some ws):CrOk { c with l:=ws }:=by
 obtain⟨h1,h2⟩:=YM h;refine⟨hc.n,λv hv=>?_,by show ws.length<=1000;rw[h1];exact hc.k⟩;obtain⟨i,hi⟩:=Xm hv;have hil:i<c.l.length:=by rw[<-h1];exact(Qe.1 hi).1
 obtain⟨v',h3,h4⟩:=h2 i _ (Qf hil);rw[hi]at h3;injection h3 with h3;subst h3;have hw:=hc.l _ (Xv hil);rcases h4 with⟨_,rfl⟩|⟨_,r,k2,rfl⟩
 ·exact hw
 ·obtain⟨r',r1,r2⟩:=Qi9 hw.p hc.n;rw[k2]at r1;injection r1 with r1;subst r1;refine⟨hw.p,λt ht=>?_⟩;have ht:r=some t:=ht;subst ht;exact r2.2.1
theorem MQ{T:Nat}{c:Cr}{r0 r1:Uu}{ws:List Wt}{r:Option Tm}(hc:CrOk c)(h:Og c.now c.l=some ws)(hr:IX ws=some r):U6 prog 392 [.one (.ow 0 0)] [.blk T (Hn c r0 r1)] [.agg (ota r),.one (.bool r.isSome)] [.blk T (Hn { c with l:=ws } r0 r1)]:=by
 have hcl:=Qm0 (T:=T) (r0:=r0) (r1:=r1) hc h;have hc':=El hc h;have hk:=hc'.k;have hw:=Sy ws;have hvb:∀t∈ws.filterMap (·.fails),Tb t:=λt ht=>by
  obtain⟨w,w1,w2⟩:=Ji.1 ht;exact((hc'.l w w1).f t w2).tb
 refine Fv func392 rfl ?_;refine Uf [.c [0] hcl,.o 4 105 9] rfl ?_;refine Uk (S:=Nat) 3 (λL1 i=>(14,.v (.oi i))::(4,.v (.one (.orow 2 9 none)))::L1) (λi=>[.blk T (Hn { c with l:=ws } r0 r1),.blk 105 zTm,.row false 105 9 (tal ((ws.take i).filterMap (·.fails)))]) (λi=>ws.length-i) (λi=>i<=ws.length) 0 (Qh _) rfl rfl λi hi=>?_
 by_cases hlt:i<ws.length
 ·obtain⟨w,hx⟩:=gxE (l:=ws) (i:=i) hlt;have hl:decide ((i:Int)<((C9 ws).length:Int))=true:=by simp[hw];omega
  have hfl:((ws.take i).filterMap (·.fails)).length<=i:=Qc (Vd _ _) (by rw[Qr];omega);have hg:(ws.take (i+1)).filterMap (·.fails)=(ws.take i).filterMap (·.fails)++(match w.fails with|none=>[]|some t=>[t]):=by
   rw[Z1,hx,List.filterMap_append];show _++List.filterMap (·.fails) [w]=_;cases hwf:w.fails <;> simp[hwf]
  obtain⟨wc,wk,wf⟩:=w;have hk:ws.length<=1000:=hk;cases wf with
  |
   none =>
   refine Ug [.t hl,.x (H5 hx),.f rfl] rfl ?_;exact rd (i+1) (by omega) hlt (by rw[hg];simp;rfl)
  |
   some t =>
   refine Ug [.t hl,.x (H5 hx),.t rfl,.s (l:=[ta t]) (sz:=9) (λc hc=>by rw[Qk.1 hc];rfl)] rfl ?_;exact rd (i+1) (by omega) hlt (by rw[hg];simp[tal];rfl)
 ·obtain rfl:i=ws.length:=by omega
  rw[Q7];have hf:decide ((ws.length:Int)<((C9 ws).length:Int))=false:=by simp[hw]
  have hln:(ws.filterMap (·.fails)).length<=1000:=Qc (Vd _ _) hk;unfold IX at hr;cases hfm:ws.filterMap (·.fails)with
  |
   nil =>
   rw[hfm]at hr;injection hr with hr;subst hr;exact Uj [] [0] [.f hf,.p 2,.k wV] rfl
  |
   cons b l =>
   rw[hfm]at hr hvb hln;obtain⟨m,m1,rfl⟩:=Yy.1 hr;have cl:=S8 (hvb b (Qy ..)) (λt ht=>hvb t (Qg _ ht)) (by simp at hln;omega) m1;exact Uj [] [0] [.f hf,.p 2,.k cl] rfl
theorem DD{at_:Tm}{x:Ct}:∀{l:List Wt} {w:Wt},Ck l x at_=some w->w=fresh x\/∃v∈l,v.known=true/\v.c.p=x.p/\w=⟨x,true,v.fails⟩/\∀t,v.fails=some t->∃c,UF t at_=some c/\0<c
 | [],w,h=>by simp only[Ck]at h;injection h with h;exact .inl h.symm
 |
  v::l,w,h=>by
  simp only[Ck]at h;have tl:Ck l x at_=some w->w=fresh x\/∃v'∈v::l,v'.known=true/\v'.c.p=x.p/\w=⟨x,true,v'.fails⟩/\∀t,v'.fails=some t->∃c,UF t at_=some c/\0<c:=λh=>by
   rcases DD h with h|⟨v',h1,h2⟩
   ·exact .inl h
   ·exact .inr ⟨v',Qg _ h1,h2⟩
  split at h
  ·rename_i hk;cases hf:v.fails with
   |
    none =>
    rw[hf]at h;injection h with h;exact .inr ⟨v,Qy ..,hk.2.1,hk.2.2,by rw[hf];exact h.symm,λt ht=>by rw[hf]at ht;cases ht⟩
   |
    some t =>
    rw[hf]at h;obtain⟨c,c1,h⟩:=Qd.1 h
    split at h
    ·rename_i h0;injection h with h;exact .inr ⟨v,Qy ..,hk.2.1,hk.2.2,by rw[hf];exact h.symm,λu hu=>by rw[hf]at hu;injection hu with hu;subst hu;exact⟨c,c1,h0⟩⟩
    ·exact tl h
  ·exact tl h
theorem lay_ok{c:Cr}{at_:Tm}{l:List Ct}{ws:List Wt}(ev:Int)(hc:CrOk c)(ha:Va at_)(hl:∀x∈l,Cp x.p)(hn:l.length≤1000)(h:Tl c.l at_ (Fw l)=some ws):CrOk ⟨at_,ws,ev⟩:=by
 obtain⟨h1,h2⟩:=XM h;refine⟨ha,λw hw=>?_,by show ws.length<=1000;rw[h1,Ds];exact hn⟩;obtain⟨i,hi⟩:=Xm hw;have hil:i<(Fw l).length:=by rw[<-h1];exact(Qe.1 hi).1
 obtain⟨v,h3,h4⟩:=h2 i _ (Qf hil);rw[hi]at h4;injection h4 with h4;subst h4;have hx:=hl _ (VZ (Xv hil));rcases DD h3 with e|⟨v,v1,_,v3,e,_⟩
 ·rw[e];exact⟨hx,λt ht=>by cases ht⟩
 ·rw[e];exact⟨hx,λt ht=>(hc.l v v1).f t ht⟩
def WE{β:Type}(Bc:Tm->List Ct)(Br:Tm->β)(t:Rat):Nat->Cr->β->Int->Option (Cr×β×Int)
 | 0,_,_,_=>none
 |
  k+1,c,r,n=>(Og c.now c.l).bind λws=>(IX ws).bind λo=>match o with
  |none=>some (⟨tq t,ws,c.ev⟩,r,n)
  |some a=>if 0<Fo a t then some (⟨tq t,ws,c.ev⟩,r,n)else(Tl ws a (Fw (Bc a))).bind λw2=>WE Bc Br t k ⟨a,w2,c.ev+1⟩ (Br a) (n+1)
theorem Qjd{ws:List Wt}{a:Tm}(h:IX ws=some (some a))(hv:∀t∈ws.filterMap (·.fails),Va t):a∈ws.filterMap (·.fails)/\∀t∈ws.filterMap (·.fails),¬Nv t a:=by
 unfold IX at h;cases hf:ws.filterMap (·.fails)with
 |nil=>rw[hf]at h;injection h with h;cases h
 |
  cons b l =>
  rw[hf]at h hv;obtain⟨m,m1,m2⟩:=Yy.1 h;injection m2 with m2;subst m2;obtain⟨m',n1,n2,n3⟩:=RH l b hv;rw[m1]at n1;injection n1 with n1;subst n1;exact⟨n2,n3⟩
theorem LF{c:Cr}{ws:List Wt}{a:Tm}(hc:CrOk c)(h:Og c.now c.l=some ws)(hr:IX ws=some (some a)):Va a:=by
 have hc':=El hc h;have hv:∀t∈ws.filterMap (·.fails),Va t:=λt ht=>by
  obtain⟨w,w1,w2⟩:=Ji.1 ht;exact(hc'.l w w1).f t w2
 exact hv a (Qjd hr hv).1
structure BuildOk(Bc:Tm->List Ct):Prop where
 p:∀a,Va a->∀x∈Bc a,Cp x.p
 n:∀a,Va a->(Bc a).length<=1000
theorem Qxv{T:Nat}{t:Rat}{Bc:Tm->List Ct}{Br:Tm->Uu}{r0:Uu}(ht:Qs 1640000 t)(hB:BuildOk Bc)
 (hb:∀a c r1,Va a->CrOk c->U6 prog 195 [.one (.ow 0 0),.agg (ta a)] [.blk T (Hn c r0 r1)] [.one (.row (Fl (Bc a)))] [.blk T (Hn c r0 (Br a))])
 {K:Nat} {c c':Cr} {r1 r1':Uu} {n:Int} (hc:CrOk c) (hev:0<=c.ev/\c.ev+K<=1000000000000000000) (h:Fo c.now t<=0) (hg:WE Bc Br t K c r1 0=some (c',r1',n)) :
 U6 prog 396 [.one (.ow 0 0),.agg (rl t),.one (.ofn 195 [.ow 0 0] [])] [.blk T (Hn c r0 r1)] [.oi n,.oi 0] [.blk T (Hn c' r0 r1')]:=by
 have qt:Qb t:=ht.mono (by decide);have c1:=Dh hc.n.tb qt;refine Fv func396 rfl ?_;refine Uf [.c [0] (QV hc.n),.k c1,.f (by simpa using h)] rfl ?_;refine Uk (S:=Nat×Cr×Uu×Int) 2 (λL1 s=>(8,.v (.oi s.2.2.2))::L1) (λs=>[.blk T (Hn s.2.1 r0 s.2.2.1),.blk 42 (rl t)]) (λs=>s.1) (λs=>CrOk s.2.1/\(0<=s.2.1.ev/\s.2.1.ev+s.1<=1000000000000000000)/\(0<=s.2.2.2/\s.2.2.2+s.1<=1000000000000000000)/\WE Bc Br t s.1 s.2.1 s.2.2.1 s.2.2.2=some (c',r1',n)) (K,c,r1,0) ⟨hc,hev,⟨Int.le_refl 0,by dsimp only;omega⟩,hg⟩ rfl rfl λ⟨k,x,r,m⟩ ⟨j1,j2,j3,j4⟩=>?_
 dsimp only at j1 j2 j3 j4 ⊢;cases k with
 |zero=>cases j4
 |
  succ k =>
  simp only[WE]at j4;obtain⟨ws,w1,j4⟩:=Qd.1 j4;obtain⟨o,o1,j4⟩:=Qd.1 j4;have cn:=MQ (T:=T) (r0:=r0) (r1:=r) j1 w1 o1;have ca:=VC (U4 t.num) (U4 (t.den:Int)) (Qc ht.1 (by decide)) (Qc ht.2 (by decide)) (by rw[Sw];exact ht.mono (by decide));rw[Sw]at ca;cases o with
  |
   none =>
   injection j4 with j4;injection j4 with e1 j4;injection j4 with e2 e3;subst e1;subst e2;subst e3;exact Uj [] [0] [.c [0] cn,.g 25 true rfl,.t rfl,.k ca] rfl
  |
   some a =>
   have ha:=LF j1 w1 o1;dsimp only at j4;have cc:=Dh ha.tb qt;by_cases h0:0<Fo a t
   ·rw[if_pos h0]at j4;injection j4 with j4;injection j4 with e1 j4;injection j4 with e2 e3;subst e1;subst e2;subst e3;exact Uj [] [0] [.c [0] cn,.g 25 false rfl,.k cc,.t (by simpa using h0),.k ca] rfl
   ·rw[if_neg h0]at j4;obtain⟨w2,l1,j4⟩:=Qd.1 j4;have j1':=El j1 w1;have cl:=S8 (b:=a) (l:=[]) ha.tb (λt ht=>by cases ht) (by decide) rfl;have cb:=hb a { x with l:=ws } r ha j1';have cy:=UX (T:=T) (r0:=r0) (r1:=Br a) j1' ha (hB.p a ha) (hB.n a ha) l1;have hf:decide (0<Fo a t)=false:=by simpa using h0
    refine Ug [.c [0] cn,.g 25 false rfl,.k cc,.f hf,.k cl,.c [0] cb,.c [0] cy] rfl ?_;exact rd (k,⟨a,w2,x.ev+1⟩,Br a,m+1) (by dsimp only;omega) ⟨lay_ok _ j1' ha (hB.p a ha) (hB.n a ha) l1,by dsimp only;omega,by dsimp only;omega,j4⟩ rfl
theorem YX{T:Nat}{c:Cr}{r0 r1:Uu}:U6 prog 391 [.one (.ow 0 0)] [.blk T (Hn c r0 r1)] [.oi c.ev] [.blk T (Hn c r0 r1)]:=by
 refine Fv func391 rfl ?_;exact Uj [] [0] [] rfl
end Orr
namespace Orq
open Orr Go
theorem Qyq{a b c:Tm}(hb:Cut (Fo b))(hc:Cut (Fo c))(h:Nv a b)(h':Nv b c):Nv a c:=by
 obtain⟨q,q1,q2⟩:=h;obtain⟨r,r1,r2⟩:=h';exact⟨q,q1,hc.mono' (hb.lt q2 r1) (by omega)⟩
theorem RP{a b:Tm}(ha:Cut (Fo a))(hb:Cut (Fo b))(h:¬Nv b a):Leq a (Fo b):=λq hq=>by
 rcases ha.val q with e|e|e
 ·exact absurd ⟨q,hq,e⟩ h
 ·obtain⟨r,r1,r2⟩:=hb.dn q hq;exact absurd ⟨r,r2,ha.mono' r1 (by omega)⟩ h
 ·exact e
theorem iY{a b c:Tm}(_:Cut (Fo a))(hb:Cut (Fo b))(hc:Cut (Fo c))(h:Nv a b)(h':¬Nv c b):Nv a c:=by
 obtain⟨q,q1,q2⟩:=h;refine⟨q,q1,?_⟩;have hl:=RP hb hc h';rcases hc.val q with e|e|e
 ·exact e
 ·obtain⟨r,r1,r2⟩:=hb.up q q2;have h1:=hc.mono q r r1 (by omega);have:=hl r h1;omega
 ·have:=hl q e;omega
theorem yY{a b:Tm}(ha:Cut (Fo a))(hb:Cut (Fo b))(h:Nv a b):¬Nv b a:=λh'=>Iw ha hb h h'
theorem Om{p:Uo}{a b:Tm}{o:Option Tm}(ha:Cut (Fo a))(hb:Cut (Fo b))(hab:¬Nv b a)(h:M3 p a o)(ho:∀t,o=some t->Nv b t):M3 p b o:=by
 have hl:=RP ha hb hab;cases o with
 |
  none =>
  rcases h with h|⟨s,s0,h⟩
  ·exact .inl h
  ·exact .inr ⟨s,s0,λc hc hbc=>h c hc λq hq=>hl q (hbc q hq)⟩
 |
  some t =>
  obtain⟨h1,h2,_,s,s0,h4,h5⟩:=h;exact⟨h1,h2,ho t rfl,s,s0,λc hc hbc hm=>h4 c hc (λq hq=>hl q (hbc q hq)) hm,h5⟩
theorem OI{p:Uo}{a b:Tm}{o:Option Tm}(hp:Dp p)(ha:Va a)(hb:Va b)(hab:¬Nv b a)(h:M3 p a o)(ho:∀t,o=some t->Nv b t):Hl (Fq b) p=Hl (Fq a) p:=by
 by_cases h0:p.length=0
 ·obtain rfl:=Qj h0;rfl
 obtain⟨ra,_⟩:=Ej ha hp h0;obtain⟨rb,_⟩:=Ej hb hp h0;have hl:=RP ha.cut hb.cut hab;cases o with
 |
  none =>
  rcases h with h|⟨s,s0,h⟩
  ·exact absurd (by rw[h];rfl) h0
  ·exact(GY rb (h _ hb.cut hl)).trans (GY ra (h _ ha.cut λ_ h=>h)).symm
 |
  some t =>
  obtain⟨h1,h2,h3,s,s0,h4,h5⟩:=h;exact(GY rb (h4 _ hb.cut hl (ho t rfl))).trans (GY ra (h4 _ ha.cut (λ_ h=>h) h3)).symm
theorem sY(t q:Rat):Fo (tq t) q=Hk t q:=Ib (t:=tq t) rfl q
theorem HT{a:Tm}{t:Rat}(ha:Cut (Fo a)):0<Fo a t↔Nv (tq t) a:=by
 constructor
 ·intro h;have h1:Fo a t=1:=by rcases ha.val t with e|e|e <;> omega
  obtain⟨r,r1,r2⟩:=ha.up t h1;exact⟨r,by rw[sY];rcases Cf t r with⟨e,e'⟩|⟨e,e'⟩|⟨e,e'⟩ <;> first|exact e|(exfalso;grind),r2⟩
 ·rintro⟨q,q1,q2⟩
  rw[sY]at q1;have:t<q:=by rcases Cf t q with⟨e,e'⟩|⟨e,e'⟩|⟨e,e'⟩ <;> first|exact e'|omega
  have:=ha.mono' this (by omega);omega
open Classical in
noncomputable def mu(T:List Tm)(a:Tm):Nat:=(T.filter λt=>decide (Nv a t)).length
theorem OG{α:Type}{p q:α->Bool}(h:∀x,p x=true->q x=true):∀l:List α,(l.filter p).length<=(l.filter q).length
 | []=>Qm _
 |
  x::l=>by
  have ih:=OG h l;by_cases hp:p x=true
  ·rw[X5 hp,X5 (h x hp)];simp;exact ih
  ·rw[Jz hp];by_cases hq:q x=true
   ·rw[X5 hq];simp;omega
   ·rw[Jz hq];exact ih
theorem OH{α:Type}{p q:α->Bool}(h:∀x,p x=true->q x=true){y:α}(hp:p y=false)(hq:q y=true):∀{l:List α},y∈l->(l.filter p).length<(l.filter q).length
 | [],hy=>by cases hy
 |
  x::l,hy=>by
  rcases Ql.1 hy with rfl|hy
  ·rw[Jz (by simp[hp]),X5 hq];have:=OG h l;simp;omega
  ·have ih:=OH h hp hq hy;by_cases hp:p x=true
   ·rw[X5 hp,X5 (h x hp)];simp;exact ih
   ·rw[Jz hp];by_cases hq:q x=true
    ·rw[X5 hq];simp;omega
    ·rw[Jz hq];exact ih
open Classical in
theorem Qsj{T:List Tm}{a b:Tm}(ha:Cut (Fo a))(hb:Cut (Fo b))(hT:∀t∈T,Cut (Fo t))(h:Nv a b)(hm:b∈T):mu T b<mu T a:=by
 have key:∀l:List Tm,(∀t∈l,Cut (Fo t))->l.filter (λt=>decide (Nv b t))=l.filter (λt=>decide (Cut (Fo t)/\Nv b t)):=λl hl=>List.filter_congr λx hx=>by simp[hl x hx]
 have key2:∀l:List Tm,(∀t∈l,Cut (Fo t))->l.filter (λt=>decide (Nv a t))=l.filter (λt=>decide (Cut (Fo t)/\Nv a t)):=λl hl=>List.filter_congr λx hx=>by simp[hl x hx]
 unfold mu;rw[key T hT,key2 T hT];refine OH (λx hx=>?_) (y:=b) ?_ ?_ hm
 ·have hx:=of_decide_eq_true hx;exact decide_eq_true ⟨hx.1,Qyq hb hx.1 h hx.2⟩
 ·exact decide_eq_false λhx=>Iw hb hb hx.2 hx.2
 ·exact decide_eq_true ⟨hb,h⟩
def IV(p:Uo):List Tm:=(WN p).getD []
structure KInv(c:Cr):Prop where
 ok:CrOk c
 k:∀w∈c.l,w.known=true->M3 w.c.p c.now w.fails/\∀t,w.fails=some t->t∈IV w.c.p
theorem LK{p:Uo}(h:Cp p){a:Tm}(ha:Va a):∃r,SB p a=some r/\M3 p a r/\∀t,r=some t->t∈IV p:=by
 obtain⟨l,l1,_,_,l3⟩:=JC h;obtain⟨r,r1,r2,r3⟩:=l3 a ha;refine⟨r,?_,r2,λt ht=>by unfold IV;rw[l1];exact r3 t ht⟩;unfold SB;rw[l1];exact r1
theorem Qwr{p:Uo}(h:Cp p):∀t∈IV p,Va t:=by
 obtain⟨l,l1,_,l2,_⟩:=JC h;unfold IV;rw[l1];exact l2
theorem iU{now:Tm}(hn:Va now):∀{l:List Wt},(∀w∈l,WtOk w)->(∀w∈l,w.known=true->M3 w.c.p now w.fails/\∀t,w.fails=some t->t∈IV w.c.p) ->
 ∃ws,Og now l=some ws/\ws.map (·.c)=l.map (·.c)/\∀w∈ws,w.known=true/\M3 w.c.p now w.fails/\∀t,w.fails=some t->t∈IV w.c.p
 | [],_,_=>⟨[],rfl,rfl,λw hw=>by cases hw⟩
 |
  w::l,h,h'=>by
  obtain⟨ws,w1,w2,w3⟩:=iU hn (λv hv=>h v (Qg _ hv)) (λv hv=>h' v (Qg _ hv));by_cases hk:w.known=true
  ·refine⟨w::ws,by simp only[Og,hk,if_true,w1];rfl,by simp[w2],λv hv=>?_⟩;rcases Ql.1 hv with rfl|hv
   ·exact⟨hk,h' v (by simp) hk⟩
   ·exact w3 v hv
  ·obtain⟨r,r1,r2,r3⟩:=LK (h w (by simp)).p hn;refine⟨⟨w.c,true,r⟩::ws,by simp only[Og];rw[if_neg hk,r1,w1];rfl,by simp[w2],λv hv=>?_⟩;rcases Ql.1 hv with rfl|hv
   ·exact⟨rfl,r2,r3⟩
   ·exact w3 v hv
theorem aI{at_:Tm}(ha:Va at_){x:Ct}:∀{l:List Wt},(∀w∈l,WtOk w)->∃w,Ck l x at_=some w/\w.c=x
 | [],_=>⟨fresh x,rfl,rfl⟩
 |
  v::l,h=>by
  obtain⟨w,w1,w2⟩:=aI ha (x:=x) λv hv=>h v (Qg _ hv)
  simp only[Ck]
  split
  ·cases hf:v.fails with
   |none=>exact⟨_,rfl,rfl⟩
   |
    some t =>
    obtain⟨c,c1,_⟩:=UG ((h v (by simp)).f t hf) ha;dsimp only;rw[c1];show ∃w,(if 0<c then some ⟨x,true,some t⟩else Ck l x at_)=some w/\w.c=x
    split
    ·exact⟨_,rfl,rfl⟩
    ·exact⟨w,w1,w2⟩
  ·exact⟨w,w1,w2⟩
theorem nM{at_:Tm}(ha:Va at_){ol:List Wt}(ho:∀w∈ol,WtOk w):∀l:List Ct,∃ws,Tl ol at_ l=some ws/\ws.map (·.c)=l
 | []=>⟨[],rfl,rfl⟩
 |
  x::l=>by
  obtain⟨w,w1,w2⟩:=aI ha (x:=x) ho;obtain⟨ws,s1,s2⟩:=nM ha ho l;exact⟨w::ws,by simp only[Tl,w1,s1];rfl,by simp[w2,s2]⟩
theorem Qcm{out:List Ct}{c x:Ct}:x∈KE out c↔x=c\/x∈out:=by
 have h:x∈out↔x∈out.take (JK out c out.length)\/x∈out.drop (JK out c out.length):=by
  rw[<-Qp,Zh]
 simp only[KE,Qp,Ql,h];constructor
 ·rintro (h|h|h)
  ·exact .inr (.inl h)
  ·exact .inl h
  ·exact .inr (.inr h)
 ·rintro (h|h|h)
  ·exact .inr (.inl h)
  ·exact .inl h
  ·exact .inr (.inr h)
theorem OP:∀(l acc:List Ct) {y:Ct},y∈l.foldl KE acc↔y∈l\/y∈acc
 | [],acc,y=>by simp
 |
  c::l,acc,y=>by
  simp only[Z5];rw[OP l,Qcm,Ql];constructor
  ·rintro (h|h|h)
   ·exact .inl (.inr h)
   ·exact .inl (.inl h)
   ·exact .inr h
  ·rintro ((h|h)|h)
   ·exact .inr (.inl h)
   ·exact .inl h
   ·exact .inr (.inr h)
theorem zB{l:List Ct}{x:Ct}:x∈Fw l↔x∈l:=by unfold Fw;rw[OP];simp
theorem Qvu{ws:List Wt}(hw:∀w∈ws,WtOk w):∃o,IX ws=some o/\match o with
 |none=>∀w∈ws,w.fails=none
 |some a=>Va a/\(∃w∈ws,w.fails=some a)/\∀w∈ws,∀t,w.fails=some t->¬Nv t a:=by
 have hv:∀t∈ws.filterMap (·.fails),Va t:=λt ht=>by
  obtain⟨w,w1,w2⟩:=Ji.1 ht;exact(hw w w1).f t w2
 unfold IX;cases hf:ws.filterMap (·.fails)with
 |
  nil =>
  refine⟨none,rfl,λw h=>?_⟩;cases e:w.fails with
  |none=>rfl
  |
   some t =>
   have:t∈ws.filterMap (·.fails):=Ji.2 ⟨w,h,e⟩;rw[hf]at this;cases this
 |
  cons b l =>
  rw[hf]at hv;obtain⟨m,m1,m2,m3⟩:=RH l b hv;refine⟨some m,by show(QD b l).map some=_;rw[m1];rfl,hv m m2,?_,λw h t e=>?_⟩
  ·rw[<-hf]at m2;exact Ji.1 m2
  ·exact m3 t (by rw[<-hf];exact Ji.2 ⟨w,h,e⟩)
theorem Quf{t a:Tm}(ht:Va t)(ha:Va a){c:Int}(h:UF t a=some c)(h0:0<c):Nv a t:=by
 obtain⟨c',c1,c2⟩:=UG ht ha;rw[h]at c1;injection c1 with c1;subst c1;rcases c2 with⟨e,_⟩|⟨e,_⟩|⟨_,e⟩
 ·omega
 ·omega
 ·exact e
theorem iZ{ol ws:List Wt}{now a:Tm}{l:List Ct}(hn:Va now)(ha:Va a)(hna:¬Nv a now)(ho:∀w∈ol,WtOk w)(hk:∀w∈ol,w.known=true->M3 w.c.p now w.fails/\∀t,w.fails=some t->t∈IV w.c.p)(h:Tl ol a l=some ws) :
 ∀w∈ws,w.known=true->M3 w.c.p a w.fails/\∀t,w.fails=some t->t∈IV w.c.p:=by
 obtain⟨h1,h2⟩:=XM h;intro w hw hkn;obtain⟨i,hi⟩:=Xm hw;have hil:i<l.length:=by rw[<-h1];exact(Qe.1 hi).1
 obtain⟨v,h3,h4⟩:=h2 i _ (Qf hil);rw[hi]at h4;injection h4 with h4;subst h4;rcases DD h3 with e|⟨v,v1,v2,v3,e,v5⟩
 ·rw[e]at hkn;cases hkn
 ·obtain⟨k1,k2⟩:=hk v v1 v2;rw[e];show M3 (l[i]).p a v.fails/\∀t,v.fails=some t->t∈IV (l[i]).p;rw[<-v3];refine⟨Om hn.cut ha.cut hna k1 λt ht=>?_,k2⟩;obtain⟨c,c1,c2⟩:=v5 t ht;exact Quf ((ho v v1).f t ht) ha c1 c2
structure Stab{β:Type}(Bc:Tm->List Ct)(Br:Tm->β):Prop where
 ok:BuildOk Bc
 fin:∃Ps:List (List Int),(∀p∈Ps,Cp p)/\∀a,Va a->∀x∈Bc a,x.p∈Ps
 st:∀a b,Va a->Va b->(∀x∈Bc a,Hl (Fq b) x.p=Hl (Fq a) x.p)->Bc b=Bc a/\Br b=Br a
structure KSt{β:Type}(Bc:Tm->List Ct)(Br:Tm->β)(c:Cr)(r1:β):Prop where
 inv:KInv c
 cs:c.l.map (·.c)=Fw (Bc c.now)
 r:r1=Br c.now
inductive Evs (Bc:Tm->List Ct) (t:Rat):Tm->List Tm->Prop
 |nil {a:Tm} (h:∀x∈Bc a,∃o,M3 x.p a o/\∀u,o=some u->Nv (tq t) u):Evs Bc t a []
 |cons {a e:Tm} {E:List Tm} (he:Va e) (h1:Nv a e) (h2:¬Nv (tq t) e) (h3:∀x∈Bc a,∃o,M3 x.p a o/\∀u,o=some u->¬Nv u e) (h4:∃x∈Bc a,M3 x.p a (some e)) (h5:Evs Bc t e E):Evs Bc t a (e::E)
theorem Qsa{β:Type}{Bc:Tm->List Ct}{Br:Tm->β}(S:Stab Bc Br){t:Rat}(ht:Qs 1640000 t){Ps:Up}(hP:∀p∈Ps,Cp p)(hPs:∀a,Va a->∀x∈Bc a,x.p∈Ps) :
 ∀(m:Nat) (c:Cr) (r1:β) (n:Int),mu (Ps.flatMap IV) c.now<=m->KSt Bc Br c r1->¬Nv (tq t) c.now ->
 ∃c' r' E,WE Bc Br t (m+1) c r1 n=some (c',r',n+(E.length:Nat))/\c'.now=tq t/\KSt Bc Br c' r'/\c'.ev=c.ev+(E.length:Nat)/\E.length<=m/\Evs Bc t c.now E:=by
 have hT:∀t∈Ps.flatMap IV,Cut (Fo t):=λu hu=>by
  obtain⟨p,p1,p2⟩:=Zo.1 hu;exact(Qwr (hP p p1) u p2).cut
 have hq:=AQ ht;intro m
 induction m with
 |zero=>?_
 |succ m ih=>?_
 all_goals
  intro c r1 n hm hS hnow;obtain⟨⟨ok,kk⟩,hcs,hr⟩:=hS;obtain⟨ws,w1,w2,w3⟩:=iU ok.n ok.l kk;have ok':=El ok w1;rw[hcs]at w2;have hc_w:∀x∈Bc c.now,∃w∈ws,w.c=x:=λx hx=>by
   have:x∈ws.map (·.c):=by rw[w2];exact zB.2 hx
   exact Q9.1 this
  have hw_c:∀w∈ws,w.c∈Bc c.now:=λw hw=>zB.1 (by rw[<-w2];exact Wi hw)
  obtain⟨o,o1,o2⟩:=Qvu ok'.l;have fin:(∀w∈ws,∀u,w.fails=some u->Nv (tq t) u)->KSt Bc Br ⟨tq t,ws,c.ev⟩ r1/\Evs Bc t c.now []:=λhall=>by
   have hg:∀x∈Bc c.now,Hl (Fq (tq t)) x.p=Hl (Fq c.now) x.p:=λx hx=>by
    obtain⟨w,hw,rfl⟩:=hc_w x hx;exact OI (S.ok.p _ ok.n _ hx).dp ok.n hq hnow (w3 w hw).2.1 (hall w hw)
   obtain⟨s1,s2⟩:=S.st _ _ ok.n hq hg;refine⟨⟨⟨⟨hq,ok'.l,ok'.k⟩,λw hw _=>⟨Om ok.n.cut hq.cut hnow (w3 w hw).2.1 (hall w hw),(w3 w hw).2.2⟩⟩,?_,?_⟩,.nil λx hx=>?_⟩
   ·show ws.map (·.c)=Fw (Bc (tq t));rw[w2,s1]
   ·show r1=Br (tq t);rw[s2,hr]
   ·obtain⟨w,hw,rfl⟩:=hc_w x hx;exact⟨_,(w3 w hw).2.1,hall w hw⟩
 ·cases o with
  |
   none =>
   obtain⟨f1,f2⟩:=fin λw hw u hu=>by rw[o2 w hw]at hu;cases hu
   exact⟨_,_,[],by simp only[WE];rw[w1];simp only[Ja];rw[o1];simp,rfl,f1,by simp,by simp,f2⟩
  |
   some a =>
   obtain⟨va,⟨w,hw,hwa⟩,hmin⟩:=o2;by_cases h0:0<Fo a t
   ·obtain⟨f1,f2⟩:=fin λv hv u hu=>by
     have hu':=(ok'.l v hv).f u hu;exact iY hq.cut va.cut hu'.cut ((HT va.cut).1 h0) (hmin v hv u hu)
    exact⟨_,_,[],by simp only[WE];rw[w1];simp only[Ja];rw[o1];simp[h0],rfl,f1,by simp,by simp,f2⟩
   ·exfalso;obtain⟨k1,k2,k3⟩:=w3 w hw;rw[hwa]at k2;have:a∈Ps.flatMap IV:=Zo.2 ⟨_,hPs _ ok.n _ (hw_c w hw),k3 a hwa⟩;have:=Qsj ok.n.cut va.cut hT k2.2.2.1 this;omega
 ·cases o with
  |
   none =>
   obtain⟨f1,f2⟩:=fin λw hw u hu=>by rw[o2 w hw]at hu;cases hu
   exact⟨_,_,[],by simp only[WE];rw[w1];simp only[Ja];rw[o1];simp,rfl,f1,by simp,by simp,f2⟩
  |
   some a =>
   obtain⟨va,⟨w,hw,hwa⟩,hmin⟩:=o2;by_cases h0:0<Fo a t
   ·obtain⟨f1,f2⟩:=fin λv hv u hu=>by
     have hu':=(ok'.l v hv).f u hu;exact iY hq.cut va.cut hu'.cut ((HT va.cut).1 h0) (hmin v hv u hu)
    exact⟨_,_,[],by simp only[WE];rw[w1];simp only[Ja];rw[o1];simp[h0],rfl,f1,by simp,by simp,f2⟩
   ·obtain⟨k1,k2,k3⟩:=w3 w hw;rw[hwa]at k2;have hna:=yY ok.n.cut va.cut k2.2.2.1;have hmem:a∈Ps.flatMap IV:=Zo.2 ⟨_,hPs _ ok.n _ (hw_c w hw),k3 a hwa⟩;have hlt:=Qsj ok.n.cut va.cut hT k2.2.2.1 hmem;obtain⟨w2',l1,l2⟩:=nM va ok'.l (Fw (Bc a));have hl:=iZ ok.n va hna ok'.l (λv hv _=>(w3 v hv).2) l1;have hS':KSt Bc Br ⟨a,w2',c.ev+1⟩ (Br a):=⟨⟨Orr.lay_ok _ ok' va (S.ok.p a va) (S.ok.n a va) l1,hl⟩,l2,rfl⟩;obtain⟨c',r',E,g1,g2,g3,g4,g5,g6⟩:=ih ⟨a,w2',c.ev+1⟩ (Br a) (n+1) (by show mu _ a<=m;omega) hS' (λh=>h0 ((HT va.cut).2 h));refine⟨c',r',a::E,?_,g2,g3,by rw[g4];simp;omega,by simp;omega,.cons va k2.2.2.1 (λh=>h0 ((HT va.cut).2 h)) (λx hx=>?_) ⟨w.c,hw_c w hw,k2⟩ g6⟩
    ·conv=>lhs;unfold WE
     rw[w1];simp only[Ja];rw[o1];simp only[Ja];rw[if_neg h0,l1];simp only[Ja];rw[g1];simp;omega
    ·obtain⟨v,hv,rfl⟩:=hc_w x hx;exact⟨_,(w3 v hv).2.1,hmin v hv⟩
end Orq
namespace Orq
open Orr Go
theorem Qle{a b:Tm}(ha:Cut (Fo a))(hb:Cut (Fo b))(h:¬Nv a b)(h':¬Nv b a):∀q,Fo a q=Fo b q:=by
 rcases tri ha hb with h1|h1|h1
 ·exact absurd h1 h
 ·exact h1
 ·exact absurd h1 h'
theorem Qal{a b b':Tm}(h:∀q,Fo b q=Fo b' q):Nv a b↔Nv a b':=by
 unfold Nv;simp only[h]
theorem sJ{a b b':Tm}(h:∀q,Fo b q=Fo b' q):Nv b a↔Nv b' a:=by
 unfold Nv;simp only[h]
theorem RD{p:Uo}{a:Tm}(ha:Va a){t t':Tm}(h:M3 p a (some t))(h':M3 p a (some t')):∀q,Fo t q=Fo t' q:=by
 obtain⟨_,v,l,s,s0,h4,h5⟩:=h;obtain⟨_,v',l',s',s0',h4',h5'⟩:=h';have es:s=s':=GY (h4 _ ha.cut (λ_ h=>h) l) (h4' _ ha.cut (λ_ h=>h) l');refine Qle v.cut v'.cut (λhlt=>?_) λhlt=>?_
 ·have:=GY (h4' _ v.cut (RP ha.cut v.cut (yY ha.cut v.cut l)) hlt) h5;omega
 ·have:=GY (h4 _ v'.cut (RP ha.cut v'.cut (yY ha.cut v'.cut l')) hlt) h5';omega
theorem Lk{p:Uo}{a:Tm}(ha:Va a){t:Tm}(h:M3 p a (some t))(h':M3 p a none):False:=by
 obtain⟨h1,v,l,s,s0,h4,h5⟩:=h;rcases h' with h'|⟨s',s0',h'⟩
 ·exact h1 h'
 ·have e1:=GY (h' _ ha.cut λ_ h=>h) (h4 _ ha.cut (λ_ h=>h) l);have e2:=GY (h' _ v.cut (RP ha.cut v.cut (yY ha.cut v.cut l))) h5;omega
structure Quiet{β:Type}(Bc:Tm->List Ct)(Br:Tm->β)(a b:Tm):Prop where
 va:Va a
 vb:Va b
 le:¬Nv b a
 n:∀x∈Bc a,∃o,M3 x.p a o/\∀u,o=some u->Nv b u
section
variable{β:Type}{Bc:Tm->List Ct}{Br:Tm->β}(S:Stab Bc Br)
include S
theorem Quiet.same{a b:Tm}(h:Quiet Bc Br a b):Bc b=Bc a/\Br b=Br a:=by
 refine S.st a b h.va h.vb λx hx=>?_
 obtain⟨o,o1,o2⟩:=h.n x hx;exact OI (S.ok.p _ h.va _ hx).dp h.va h.vb h.le o1 o2
theorem zE{a b:Tm}(ha:Va a)(hb:Va b)(h:∀q,Fo a q=Fo b q):Quiet Bc Br a b:=by
 refine⟨ha,hb,λh'=>Iw hb.cut hb.cut ((Qal h).1 h') ((Qal h).1 h'),λx hx=>?_⟩;obtain⟨r,_,r2,_⟩:=LK (S.ok.p _ ha _ hx) ha;refine⟨r,r2,λu hu=>?_⟩;subst hu;obtain⟨q,q1,q2⟩:=r2.2.2.1;exact⟨q,by rw[<-h];exact q1,q2⟩
theorem Qce{t:Rat}{a:Tm}{E:List Tm}(hE:Evs Bc t a E):∀{b:Tm} {E':List Tm},Quiet Bc Br a b->Evs Bc t b E'->E.length=E'.length:=by
 induction hE with
 |
  @nil a h =>
  intro b E' hq hE';have hs:=(Quiet.same S hq).1;cases hE' with
  |nil _=>rfl
  |
   cons he h1 h2 h3 h4 h5 =>
   exfalso;obtain⟨x,hx,hx2⟩:=h4;rw[hs]at hx;obtain⟨o,o1,o2⟩:=h x hx;obtain⟨o',o1',o2'⟩:=hq.n x hx;cases o with
   |
    none =>
    cases o' with
    |none=>exact Lk hq.vb hx2 (Om hq.va.cut hq.vb.cut hq.le o1' o2')
    |some u=>exact Lk hq.va o1' o1
   |
    some u =>
    cases o' with
    |none=>exact Lk hq.va o1 o1'
    |
     some u' =>
     have e1:=RD hq.va o1 o1';have e2:=RD hq.vb (Om hq.va.cut hq.vb.cut hq.le o1' o2') hx2;obtain⟨q,q1,q2⟩:=o2 u rfl;exact h2 ⟨q,q1,by rw[<-e2,<-e1];exact q2⟩
 |
  @cons a e E he h1 h2 h3 h4 h5 ih =>
  intro b E' hq hE';have hs:=(Quiet.same S hq).1;have nx:∀x∈Bc a,∀u,M3 x.p a (some u)->Nv b u/\M3 x.p b (some u):=λx hx u hu=>by
   obtain⟨o',o1',o2'⟩:=hq.n x hx;cases o' with
   |none=>exact(Lk hq.va hu o1').elim
   |
    some u' =>
    have e1:=RD hq.va o1' hu;have hb':=o2' u' rfl;have hb2:Nv b u:=by obtain⟨q,q1,q2⟩:=hb';exact⟨q,q1,by rw[<-e1];exact q2⟩
    exact⟨hb2,Om hq.va.cut hq.vb.cut hq.le hu λv hv=>by injection hv with hv;subst hv;exact hb2⟩
  obtain⟨x0,hx0,hn0⟩:=h4;obtain⟨hb0,hnb0⟩:=nx x0 hx0 e hn0;cases hE' with
  |
   nil h' =>
   exfalso;obtain⟨o,o1,o2⟩:=h' x0 (by rw[hs];exact hx0);cases o with
   |none=>exact Lk hq.vb hnb0 o1
   |
    some u =>
    have e1:=RD hq.vb o1 hnb0;obtain⟨q,q1,q2⟩:=o2 u rfl;exact h2 ⟨q,q1,by rw[<-e1];exact q2⟩
  |
   @cons _ e' E'' he' h1' h2' h3' h4' h5' =>
   obtain⟨x1,hx1,hn1⟩:=h4';rw[hs]at hx1;have a1:¬Nv e' e:=λhlt=>by
    obtain⟨o,o1,o2⟩:=h3 x1 hx1;cases o with
    |
     none =>
     obtain⟨o',o1',o2'⟩:=hq.n x1 hx1;cases o' with
     |none=>exact Lk hq.vb hn1 (Om hq.va.cut hq.vb.cut hq.le o1' o2')
     |some u=>exact Lk hq.va o1' o1
    |
     some u =>
     have e2:=RD hq.vb (nx x1 hx1 u o1).2 hn1;exact o2 u rfl ((sJ e2).2 hlt)
   have a2:¬Nv e e':=λhlt=>by
    obtain⟨o,o1,o2⟩:=h3' x0 (by rw[hs];exact hx0);cases o with
    |none=>exact Lk hq.vb hnb0 o1
    |
     some u =>
     have e2:=RD hq.vb o1 hnb0;exact o2 u rfl ((sJ e2).2 hlt)
   have:=ih (zE S he he' (Qle he.cut he'.cut a2 a1)) h5';simp[this]
theorem Qu0{t:Rat}{a:Tm}(ha:Va a){E E':List Tm}(h:Evs Bc t a E)(h':Evs Bc t a E'):E.length=E'.length:=Qce S h (zE S ha ha λ_=>rfl) h'
end
theorem Qq0{p:Uo}(h:Cp p):(IV p).length<=67:=by
 obtain⟨l,l1,l2,_⟩:=JC h;unfold IV;rw[l1];exact l2
theorem vM:∀{Ps:Up},(∀p∈Ps,Cp p)->(Ps.flatMap IV).length≤67*Ps.length
 | [],_=>Qh _
 |
  p::Ps,h=>by
  have h1:=Qq0 (h p (by simp));have h2:=vM (Ps:=Ps) λq hq=>h q (Qg _ hq)
  rw[J3,Qx,Q5];omega
theorem Qsi(T:List Tm)(a:Tm):mu T a<=T.length:=Y3 _ _
theorem Qeh{β:Type}{Bc:Tm->List Ct}{Br:Tm->β}(S:Stab Bc Br){a:Tm}(ha:Va a):KSt Bc Br ⟨a,(Fw (Bc a)).map fresh,0⟩ (Br a):=by
 refine⟨⟨⟨ha,λw hw=>?_,?_⟩,λw hw hk=>?_⟩,?_,rfl⟩
 ·obtain⟨x,hx,rfl⟩:=Q9.1 hw;exact⟨S.ok.p _ ha x (VZ hx),λt ht=>by cases ht⟩
 ·show((Fw (Bc a)).map fresh).length<=1000;rw[Zb,Ds];exact S.ok.n _ ha
 ·obtain⟨x,hx,rfl⟩:=Q9.1 hw;cases hk
 ·show((Fw (Bc a)).map fresh).map (·.c)=Fw (Bc a);rw[List.map_map];show(Fw (Bc a)).map (λx=>x)=_;rw[List.map_id']
end Orq
namespace Orr
open Go Go.Proofs Tryz Orq
set_option maxRecDepth 10000
theorem Qgx{a b:Pt}(ha:Sc a.c)(hb:Sc b.c):Cp (Ar a b):=YU (Nh ha hb) (Ng ha hb)
def JA(l:List Pt)(a:Tm):List Ct:=S6 (Fq a) (Rr a l)
abbrev IF(l:List Pt)(a:Tm):Uu:=U0 (Rr a l)
theorem tJ{sg:Uo->Int}:∀{l:List Pt},(∀p∈l,Sc p.c)->∀x∈S6 sg l,Cp x.p
 | [],_,x,hx=>by cases hx
 | [_],_,x,hx=>by cases hx
 |
  a::b::l,h,x,hx=>by
  simp only[S6]at hx;rcases Ql.1 hx with rfl|hx
  ·exact Qgx (h a (by simp)) (h b (by simp))
  ·exact tJ (λp hp=>h p (Qg _ hp)) x hx
theorem Gv{t:Tm}{l:List Pt}{p:Pt}:p∈Rr t l↔p∈l:=by
 unfold Rr Ed;rw[KD];simp
theorem Pu(t:Tm)(l:List Pt):(Rr t l).length=l.length:=zC _ _
theorem pV{l:List Pt}(hl:∀p∈l,Sc p.c)(hn:l.length≤1000):BuildOk (JA l) :=
 ⟨λa _ x hx=>tJ (λp hp=>hl p (Gv.1 hp)) x hx,λa _=>by unfold JA;rw[B5,Pu];omega⟩
theorem IP{l:List Pt}{a:Tm}{c:Cr}{r1:Uu}(hl:∀p∈l,Sc p.c)(hn:l.length≤1000)(ha:Va a):U6 prog 195 [.one (.ow 0 0),.agg (ta a)] [.blk 220 (Hn c (U0 l) r1)] [.one (.row (Fl (JA l a)))] [.blk 220 (Hn c (U0 l) (IF l a))]:=by
 have cr:=wF hl (by omega) ha;have cc:=BF (l:=Rr a l) (t:=a) (λp hp=>hl p (Gv.1 hp)) (by rw[Pu];omega) ha;refine Fv func195 rfl ?_;exact Uj [] [0] [.k Iq,.k cr,.k cc] rfl
theorem Qbk{l:List Pt}{a:Tm}(hl:∀p∈l,Sc p.c)(hn:l.length≤1000)(ha:Va a):U6 prog 195 [.one (.ow 0 0),.agg (ta a)] [.blk 220 (mH (.row (U0 l)) .nils)] [.one (.row (Fl (JA l a)))] [.blk 220 (mH (.row (U0 l)) (.row (IF l a)))]:=by
 have cr:=wF hl (by omega) ha;have cc:=BF (l:=Rr a l) (t:=a) (λp hp=>hl p (Gv.1 hp)) (by rw[Pu];omega) ha;refine Fv func195 rfl ?_;exact Uj [] [0] [.k Iq,.k cr,.k cc] rfl
def Qmo(l:List Pt)(a:Tm):Cr:=⟨a,(Fw (JA l a)).map fresh,0⟩
end Orr
namespace Orq
open Orr Go
theorem XF{a:Tm}(ha:Va a):∀(L:Up),(∀p∈L,Dp p)->∃y,Fo a y=-1/\∀q,Fo a q=-1->q≤y->∀p∈L,Hl (Fq a) p=Ff (U8 p q)
 |
  [],_=>by
  obtain⟨y,hy⟩:=ha.cut.hi;exact⟨y,hy,λq _ _ p hp=>by cases hp⟩
 |
  p::L,h=>by
  obtain⟨y,y1,y2⟩:=XF ha L (λq hq=>h q (Qg _ hq));by_cases h0:p.length=0
  ·obtain rfl:=Qj h0;refine⟨y,y1,λq q1 q2 r hr=>?_⟩;rcases Ql.1 hr with rfl|hr
   ·rw[XU];exact(Gs.2 rfl).symm
   ·exact y2 q q1 q2 r hr
  ·obtain⟨⟨z,z1,z2⟩,_⟩:=Ej ha (h p (by simp)) h0;refine⟨if y<=z then y else z,by split <;> assumption,λq q1 q2 r hr=>?_⟩;rcases Ql.1 hr with rfl|hr
   ·rw[<-U9];exact(z2 q q1 (by grind)).symm
   ·exact y2 q q1 (by grind) r hr
section Srt
variable{α:Type}{lt:α->α->Bool}{R:α->α->Prop}
theorem zZ(irr:∀x,¬R x x)(tr:∀x y z,R x y->R y z->R x z):∀{l m:List α},l.Pairwise R->m.Pairwise R->(∀x,x∈l↔x∈m)->l=m
 | [],[],_,_,_=>rfl
 | [],y::m,_,_,h=>by have:=(h y).2 (by simp);cases this
 |x::l,[],_,_,h=>by have:=(h x).1 (by simp);cases this
 |
  x::l,y::m,hl,hm,h=>by
  rw[Q6]at hl hm;have e:x=y:=by
   rcases Ql.1 ((h x).1 (by simp))with e|h1
   ·exact e
   ·rcases Ql.1 ((h y).2 (by simp))with e|h2
    ·exact e.symm
    ·exact absurd (tr _ _ _ (hl.1 y h2) (hm.1 x h1)) (irr x)
  subst e;rw[zZ irr tr hl.2 hm.2 λz=>?_];constructor
  ·intro hz;rcases Ql.1 ((h z).1 (Qg _ hz))with e|h1
   ·subst e;exact absurd (hl.1 z hz) (irr z)
   ·exact h1
  ·intro hz;rcases Ql.1 ((h z).2 (Qg _ hz))with e|h1
   ·subst e;exact absurd (hm.1 z hz) (irr z)
   ·exact h1
theorem qL{out:List α}{x:α}:∀k,k<=out.length->(∀j y,Lz lt out x k<=j->j<k->out[j]? = some y->lt x y=true)/\(0<Lz lt out x k->∃y,out[Lz lt out x k-1]? = some y/\lt x y=false)
 | 0,_=>⟨λj y _ h=>by omega,λh=>by simp[Lz]at h⟩
 |
  k+1,hk=>by
  obtain⟨y,hy⟩:=gxE (l:=out) (i:=k) (by omega);by_cases h:lt x y=true
  ·rw[oH hy h];obtain⟨h1,h2⟩:=qL (out:=out) (x:=x) k (by omega);refine⟨λj z a1 a2 a3=>?_,h2⟩;by_cases e:j=k
   ·subst e;rw[hy]at a3;injection a3 with a3;subst a3;exact h
   ·exact h1 j z a1 (by omega) a3
  ·have h:lt x y=false:=by simpa using h
   rw[rR hy h];exact⟨λj z a1 a2 _=>by omega,λ_=>⟨y,by simpa using hy,h⟩⟩
theorem Qow(tr:∀x y z,R x y->R y z->R x z){out:List α}{x:α}(ho:out.Pairwise R)(h1:∀y∈out,lt x y=true->R x y)(h2:∀y∈out,lt x y=false->R y x):(Lv lt out x).Pairwise R:=by
 obtain⟨s1,s2⟩:=qL (lt:=lt) (out:=out) (x:=x) out.length (Qm _);have hle:=yA lt out x out.length;unfold Lv;obtain⟨k,hk⟩:=nmE (Lz lt out x out.length);rw[<-hk]at s1 s2 hle ⊢;have hd:(out.take k++out.drop k).Pairwise R:=by rw[Zh];exact ho
 obtain⟨d1,d2,d3⟩:=Z4.1 hd;have hR:∀y∈out.drop k,R x y:=λy hy=>by
  obtain⟨i,hi⟩:=Xm hy;rw[Xd]at hi;have:k+i<out.length:=(Qe.1 hi).1;exact h1 y (Qz hy) (s1 (k+i) y (by omega) this hi)
 have hL:∀y∈out.take k,R y x:=λy hy=>by
  obtain⟨i,hi⟩:=Xm hy;have hik:i<k:=by have:=(Qe.1 hi).1;simp at this;omega
  rw[Kf hik]at hi;obtain⟨z,z1,z2⟩:=s2 (by omega);have hz:=h2 z (Qa z1) z2;by_cases e:i=k-1
  ·subst e;rw[hi]at z1;injection z1 with z1;subst z1;exact hz
  ·have hp:=Yf.1 ho i (k-1) (by omega) (by omega) (by omega);obtain⟨_,e1⟩:=Qe.1 hi;obtain⟨_,e2⟩:=Qe.1 z1;rw[e1,e2]at hp;exact tr _ _ _ hp hz
 refine Z4.2 ⟨d1,Q6.2 ⟨hR,d2⟩,λy hy z hz=>?_⟩;rcases Ql.1 hz with rfl|hz
 ·exact hL y hy
 ·exact d3 y hy z hz
theorem DY(tr:∀x y z,R x y->R y z->R x z){S:α->Prop}(h1:∀x y,S x->S y->lt x y=true->R x y){D:α->α->Prop}(h2:∀x y,S x->S y->D y x->lt x y=false->R y x) :
 ∀(l acc:List α),acc.Pairwise R->(∀x∈acc,S x)->(∀x∈l,S x)->l.Pairwise D->(∀x∈acc,∀y∈l,D x y)->(l.foldl (Lv lt) acc).Pairwise R
 | [],acc,ha,_,_,_,_=>ha
 |
  x::l,acc,ha,hs,hl,hd,hx=>by
  rw[Q6]at hd;refine DY tr h1 h2 l (Lv lt acc x) ?_ ?_ (λy hy=>hl y (Qg _ hy)) hd.2 ?_
  ·exact Qow tr ha (λy hy=>h1 x y (hl x (by simp)) (hs y hy)) (λy hy=>h2 x y (hl x (by simp)) (hs y hy) (hx y hy x (by simp)))
  ·intro y hy;rcases FZ.1 hy with rfl|hy
   ·exact hl _ (by simp)
   ·exact hs y hy
  ·intro y hy z hz;rcases FZ.1 hy with rfl|hy
   ·exact hd.1 z hz
   ·exact hx y hy z (Qg _ hz)
theorem zQ:∀{l:List α},l.Pairwise R->∀{u v:α},u∈l->v∈l->u≠v->R u v\/R v u
 | [],_,_,_,h,_,_=>by cases h
 |
  x::l,hp,u,v,hu,hv,hne=>by
  rw[Q6]at hp;rcases Ql.1 hu with e|hu
  ·rcases Ql.1 hv with e'|hv
   ·exact absurd (e.trans e'.symm) hne
   ·rw[e];exact .inl (hp.1 v hv)
  ·rcases Ql.1 hv with e'|hv
   ·rw[e'];exact .inr (hp.1 u hu)
   ·exact zQ hp.2 hu hv hne
end Srt
def px(p:Pt)(q:Rat):Rat:=U8 p.c.x q / (p.c.d:Rat)
def py(p:Pt)(q:Rat):Rat:=U8 p.c.y q / (p.c.d:Rat)
def B9(q:Rat)(x y:Pt):Prop:=px x q<px y q\/px x q=px y q/\(py x q<py y q\/py x q=py y q/\x.id<y.id)
theorem Of(q:Rat)(x:Pt):¬B9 q x x:=by unfold B9;grind
theorem QA(q:Rat)(x y z:Pt)(h:B9 q x y)(h':B9 q y z):B9 q x z:=by unfold B9 at *;grind
theorem fB{q:Rat}{x y:Pt}(h:x.id≠y.id)(h':¬B9 q x y):B9 q y x:=by unfold B9 at *;grind
theorem zN{u v:Rat}{c d:Int}(hc:0<c)(hd:0<d):Ff (v*(c:Rat)-u*(d:Rat))=Ff (v / (d:Rat)-u / (c:Rat)):=by
 have hc':(0:Rat)<(c:Rat):=by exact_mod_cast hc
 have hd':(0:Rat)<(d:Rat):=by exact_mod_cast hd
 have e:v*(c:Rat)-u*(d:Rat)=((c:Rat)*(d:Rat))*(v / (d:Rat)-u / (c:Rat)):=by
  rw[J9,J9];have h1:=Wu (c:Rat) (by grind);have h2:=Wu (d:Rat) (by grind);grind
 rw[e,Cy (Xu hc' hd')]
theorem TG{x y:Pt}(hx:Sc x.c)(hy:Sc y.c)(q:Rat):Ff (U8 (Gn x.c y.c) q)=Ff (px y q-px x q):=by
 unfold Gn px;rw[No,Rp,Rp];exact zN hx.n.2.2.1 hy.n.2.2.1
theorem TF{x y:Pt}(hx:Sc x.c)(hy:Sc y.c)(q:Rat):Ff (U8 (Gm x.c y.c) q)=Ff (py y q-py x q):=by
 unfold Gm py;rw[No,Rp,Rp];exact zN hx.n.2.2.1 hy.n.2.2.1
theorem NA{a:Tm}(ha:Va a){x y:Pt}(hx:Sc x.c)(hy:Sc y.c){q:Rat}(h1:Hl (Fq a) (Gn x.c y.c)=Ff (U8 (Gn x.c y.c) q))(h2:Hl (Fq a) (Gm x.c y.c)=Ff (U8 (Gm x.c y.c) q)):Tu (Fq a) x y=true↔B9 q x y:=by
 rw[TG hx hy]at h1;rw[TF hx hy]at h2;have d1:=(Nh hx hy).dp;have d2:=(Ng hx hy).dp;unfold Tu;simp only[Ly];have t1:=Fz (px y q-px x q);have t2:=Fz (py y q-py x q);by_cases e1:(Gn x.c y.c).length=0
 ·rw[if_neg (by omega)];rw[Qj e1,XU]at h1;have:px x q=px y q:=by grind
  by_cases e2:(Gm x.c y.c).length=0
  ·rw[if_neg (by omega)];rw[Qj e2,XU]at h2;unfold B9;simp only[decide_eq_true_eq];grind
  ·rw[if_pos (by omega)];have:=(Ej ha d2 e2).2;unfold B9;simp only[decide_eq_true_eq];grind
 ·rw[if_pos (by omega)];have:=(Ej ha d1 e1).2;unfold B9;simp only[decide_eq_true_eq];grind
def Ef(l:List Pt):Up:=l.flatMap λx=>l.flatMap λy=>[Gn x.c y.c,Gm x.c y.c]
theorem Sl{l:List Pt}{x y:Pt}(hx:x∈l)(hy:y∈l):Gn x.c y.c∈Ef l/\Gm x.c y.c∈Ef l :=
 ⟨Zo.2 ⟨x,hx,Zo.2 ⟨y,hy,by simp⟩⟩,Zo.2 ⟨x,hx,Zo.2 ⟨y,hy,by simp⟩⟩⟩
theorem QZ{l:List Pt}(hl:∀p∈l,Sc p.c):∀p∈Ef l,Cp p:=λp hp=>by
 obtain⟨x,hx,hp⟩:=Zo.1 hp;obtain⟨y,hy,hp⟩:=Zo.1 hp;simp at hp;rcases hp with rfl|rfl
 ·exact Nh (hl x hx) (hl y hy)
 ·exact Ng (hl x hx) (hl y hy)
theorem Qae{l:List Pt}(hl:∀p∈l,Sc p.c)(hd:l.Pairwise λx y=>x.id≠y.id){a:Tm}(ha:Va a):∃y,Fo a y=-1/\∀q,Fo a q=-1->q≤y->(∀u∈l,∀v∈l,(Tu (Fq a) u v=true↔B9 q u v))/\(Rr a l).Pairwise (B9 q):=by
 obtain⟨y,y1,y2⟩:=XF ha (Ef l) λp hp=>(QZ hl p hp).dp
 refine⟨y,y1,λq q1 q2=>?_⟩;have h:=y2 q q1 q2;have hb:∀u∈l,∀v∈l,(Tu (Fq a) u v=true↔B9 q u v):=λu hu v hv=>NA ha (hl u hu) (hl v hv) (h _ (Sl hu hv).1) (h _ (Sl hu hv).2)
 refine⟨hb,?_⟩;exact DY (S:=λx=>x∈l) (D:=λx y=>x.id≠y.id) (QA q) (λu v hu hv h=>(hb u hu v hv).1 h) (λu v hu hv hne h=>fB (λe=>hne e.symm) λh'=>by
  rw[(hb u hu v hv).2 h']at h;cases h) l [] .nil (λx hx=>by cases hx) (λx hx=>hx) hd (λx hx=>by cases hx)
theorem bG{a b:Tm}{x y:Pt}(h:Hl (Fq b) (Ar x y)=Hl (Fq a) (Ar x y)):Tu (Fq b) x y=Tu (Fq a) x y:=by
 unfold Ar Lu at h;unfold Tu;simp only[Ly];by_cases e1:0<(Gn x.c y.c).length
 ·rw[if_pos e1,if_pos e1];rw[if_pos e1]at h;rw[h]
 ·rw[if_neg e1,if_neg e1];rw[if_neg e1]at h;rw[h]
theorem BA{a b:Tm}{q r:Rat}:∀(l:List Pt),(∀u∈l,∀v∈l,(Tu (Fq a) u v=true↔B9 q u v))->(∀u∈l,∀v∈l,(Tu (Fq b) u v=true↔B9 r u v))->l.Pairwise (B9 q)->(∀x∈S6 (Fq a) l,Hl (Fq b) x.p=Hl (Fq a) x.p)->l.Pairwise (B9 r)/\S6 (Fq b) l=S6 (Fq a) l
 | [],_,_,_,_=>⟨.nil,rfl⟩
 | [x],_,_,_,_=>⟨Kl _ _,rfl⟩
 |
  x::y::l,ha,hb,hp,hc=>by
  rw[Q6]at hp;obtain⟨i1,i2⟩:=BA (a:=a) (b:=b) (q:=q) (r:=r) (y::l) (λu hu v hv=>ha u (Qg _ hu) v (Qg _ hv)) (λu hu v hv=>hb u (Qg _ hu) v (Qg _ hv)) hp.2 (λz hz=>hc z (by simp only[S6];exact Qg _ hz));have h0:Hl (Fq b) (Ar x y)=Hl (Fq a) (Ar x y):=hc (QO (Fq a) x y) (by simp[S6]);have h1:B9 r x y:=(hb x (by simp) y (by simp)).1 (by rw[bG h0];exact(ha x (by simp) y (by simp)).2 (hp.1 y (by simp)));refine⟨Q6.2 ⟨λz hz=>?_,i1⟩,?_⟩
  ·rcases Ql.1 hz with rfl|hz
   ·exact h1
   ·exact QA r x y z h1 ((Q6.1 i1).1 z hz)
  ·simp only[S6];rw[i2];congr 1;unfold QO;rw[h0]
theorem TW{sg:Uo->Int}:∀{l:List Pt},∀x∈S6 sg l,∃u∈l,∃v∈l,x.p=Ar u v
 | [],x,hx=>by cases hx
 | [_],x,hx=>by cases hx
 |
  a::b::l,x,hx=>by
  simp only[S6]at hx;rcases Ql.1 hx with rfl|hx
  ·exact⟨a,by simp,b,by simp,rfl⟩
  ·obtain⟨u,hu,v,hv,e⟩:=TW (l:=b::l) x hx;exact⟨u,Qg _ hu,v,Qg _ hv,e⟩
theorem qP{l:List Pt}{u v:Pt}(hu:u∈l)(hv:v∈l):Ar u v∈Ef l:=by
 unfold Ar Lu;split
 ·exact(Sl hu hv).1
 ·exact(Sl hu hv).2
theorem dI{l:List Pt}{a:Tm}:∀x∈JA l a,x.p∈Ef l:=λx hx=>by
 obtain⟨u,hu,v,hv,e⟩:=TW x hx;rw[e];exact qP (Gv.1 hu) (Gv.1 hv)
theorem kL(l:List Pt):(Ef l).length=l.length*(l.length*2):=by
 have h1:∀(x:Pt) (m:List Pt),(m.flatMap λy=>[Gn x.c y.c,Gm x.c y.c]).length=m.length*2:=λx m=>by
  induction m with
  |nil=>rfl
  |cons y m ih=>rw[J3,Qx,ih,Q5];simp;omega
 have h2:∀m:List Pt,(m.flatMap λx=>l.flatMap λy=>[Gn x.c y.c,Gm x.c y.c]).length=m.length*(l.length*2):=λm=>by
  induction m with
  |nil=>simp
  |cons y m ih=>rw[J3,Qx,ih,Q5,h1,X4,Wn,Jv]
 exact h2 l
theorem tK{l:List Pt}(hl:∀p∈l,Sc p.c)(hd:l.Pairwise λx y=>x.id≠y.id){a b:Tm}(ha:Va a)(hb:Va b)(h:∀x∈JA l a,Hl (Fq b) x.p=Hl (Fq a) x.p):Rr b l=Rr a l/\JA l b=JA l a:=by
 obtain⟨q,q1,q2⟩:=Qae hl hd ha;obtain⟨r,r1,r2⟩:=Qae hl hd hb;obtain⟨a1,a2⟩:=q2 q q1 Qq;obtain⟨b1,b2⟩:=r2 r r1 Qq;obtain⟨c1,c2⟩:=BA (a:=a) (b:=b) (Rr a l) (λu hu v hv=>a1 u (Gv.1 hu) v (Gv.1 hv)) (λu hu v hv=>b1 u (Gv.1 hu) v (Gv.1 hv)) a2 h;have e:Rr b l=Rr a l:=zZ (Of r) (QA r) b2 c1 λx=>by rw[Gv,Gv]
 exact⟨e,by unfold JA;rw[e,c2]⟩
theorem Qze{l:List Pt}(hl:∀p∈l,Sc p.c)(hn:l.length≤1000)(hd:l.Pairwise λx y=>x.id≠y.id):Stab (JA l) (IF l):=by
 refine⟨pV hl hn,⟨Ef l,QZ hl,λa _ x hx=>?_⟩,λa b ha hb h=>?_⟩
 ·obtain⟨u,hu,v,hv,e⟩:=TW x hx;rw[e];exact qP (Gv.1 hu) (Gv.1 hv)
 ·obtain⟨e1,e2⟩:=tK hl hd ha hb h;exact⟨e2,by unfold IF;rw[e1]⟩
end Orq
namespace Orq
theorem ang{ux uy vx vy wx wy:Rat}(hu:0<ux\/ux=0/\0<uy)(hv:0<vx\/vx=0/\0<vy)(hw:0<wx\/wx=0/\0<wy)
 (h1:0<=ux*vy-vx*uy) (h2:0<=vx*wy-wx*vy):0<=ux*wy-wx*uy/\(0<ux*vy-vx*uy\/0<vx*wy-wx*vy->0<ux*wy-wx*uy):=by
 have ux0:0<=ux:=by grind
 have wx0:0<=wx:=by grind
 rcases hv with hv|⟨hv,hv2⟩
 ·have e:vx*(ux*wy-wx*uy)=ux*(vx*wy-wx*vy)+wx*(ux*vy-vx*uy):=by grind
  have hux:0<ux:=by
   rcases hu with h|⟨h,h'⟩
   ·exact h
   ·have:=Xu hv h';rw[h]at h1;grind
  have p1:=Vy ux0 h2;have p2:=Vy wx0 h1;have key:∀z:Rat,vx*z=ux*(vx*wy-wx*vy)+wx*(ux*vy-vx*uy)->0<=z:=λz hz=>by
   refine Rat.not_lt.1 λhn=>?_
   have:=Xu hv (show 0 < -z by grind);grind
  refine⟨key _ e,λhs=>?_⟩;rcases hw with hw|⟨hw,hw2⟩
  ·have hpos:0<vx*(ux*wy-wx*uy):=by
    rcases hs with hs|hs
    ·have:=Xu hw hs;grind
    ·have:=Xu hux hs;grind
   have h0:=key _ e;refine Js.1 λhn=>?_
   have:ux*wy-wx*uy=0:=by grind
   rw[this]at hpos;grind
  ·have:=Xu hux hw2;rw[hw];grind
 ·rw[hv]at h1 h2;have hw0:wx=0:=by
   rcases hw with hw|hw
   ·have:=Xu hw hv2;grind
   ·exact hw.1
  have hwy:0<wy:=by grind
  have p:=Vy ux0 (Qt hwy);refine⟨by rw[hw0];grind,λhs=>?_⟩;rw[hv,hw0]at hs;have hux:0<ux:=by
   rcases hs with hs|hs
   ·refine Js.1 λhn=>?_
    have:ux=0:=by grind
    rw[this]at hs;grind
   ·grind
  have:=Xu hux hwy;rw[hw0];grind
section
variable{α:Type}(X Y:α->Rat)
def lx(a b:α):Prop:=X a<X b\/X a=X b/\Y a<Y b
def Mm(a b c:α):Rat:=(X b-X a)*(Y c-Y a)-(X c-X a)*(Y b-Y a)
variable{X Y}
theorem Mf(a:α):¬lx X Y a a:=by unfold lx;grind
theorem fE{a b c:α}(h:lx X Y a b)(h':lx X Y b c):lx X Y a c:=by unfold lx at *;grind
theorem M8{a b:α}(h:lx X Y a b):0<X b-X a\/X b-X a=0/\0<Y b-Y a:=by unfold lx at h;grind
theorem FP(a b:α):Mm X Y a b a=0/\Mm X Y a b b=0:=by unfold Mm;grind
theorem hQ(a b c:α):Mm X Y a c b=- Mm X Y a b c:=by unfold Mm;grind
theorem yM(a b c:α):Mm X Y a b c=(X b-X a)*(Y c-Y b)-(X c-X b)*(Y b-Y a):=by unfold Mm;grind
def Edg(Q:α->α->Prop):List α->Prop
 |a::b::r=>Q a b/\Edg Q (b::r)
 |_=>True
def Cnv(R:α->α->α->Prop):List α->Prop
 |a::b::c::r=>R a b c/\Cnv R (b::c::r)
 |_=>True
theorem Edg.tail{Q:α->α->Prop}{a:α}{l:List α}(h:Edg Q (a::l)):Edg Q l:=by
 cases l with
 |nil=>trivial
 |cons b l=>exact h.2
theorem Cnv.tail{R:α->α->α->Prop}{a:α}{l:List α}(h:Cnv R (a::l)):Cnv R l:=by
 match l,h with
 | [],_=>trivial
 | [_],_=>trivial
 |b::c::l,h=>exact h.2
def Lq(s:α->α->α->Bool)(c:α):List α->List α
 |b::a::r=>if s a b c=true then b::a::r else Lq s c (a::r)
 |l=>l
def P6(s:α->α->α->Bool):List α->List α->List α
 |acc,[]=>acc
 |acc,c::l=>P6 s (c::Lq s c acc) l
structure Stk(X Y:α->Rat)(P:List α)(st:List α):Prop where
 srt:st.Pairwise λb a=>lx X Y a b
 mem:∀p∈st,p∈P
 edg:Edg (λb a=>∀p∈P,0≤Mm X Y a b p) st
 cnv:Cnv (λc b a=>0<Mm X Y a b c) st
theorem Stk.tail{P:List α}{a:α}{st:List α}(h:Stk X Y P (a::st)):Stk X Y P st:=⟨(Q6.1 h.srt).2,λp hp=>h.mem p (Qg _ hp),h.edg.tail,h.cnv.tail⟩
theorem Qju{P:List α}{s:α->α->α->Bool}{c:α}(hs:∀a∈P,∀b∈P,(s a b c=true↔0<Mm X Y a b c))(hc:∀p∈P,lx X Y p c) :
 ∀(st:List α) (t:α),Stk X Y P (t::st)->(∀p∈P,lx X Y t p->0≤Mm X Y t c p) ->
 ∃t' st',Lq s c (t::st)=t'::st'/\Stk X Y P (t'::st')/\(∀p∈P,lx X Y t' p->0≤Mm X Y t' c p)/\(∀a r,st'=a::r->0<Mm X Y a t' c)/\(t'::st').getLast? = (t::st).getLast?
 | [],t,h,h2=>⟨t,[],rfl,h,h2,λa r e=>(by cases e),rfl⟩
 |
  a::r,t,h,h2=>by
  have ht:=h.mem t (by simp);have ha:=h.mem a (by simp);by_cases e:s a t c=true
  ·refine⟨t,a::r,by simp only[Lq];rw[if_pos e],h,h2,λa' r' e'=>?_,rfl⟩;injection e' with e1 _
   rw[<-e1];exact(hs a ha t ht).1 e
  ·have hle:Mm X Y a t c<=0:=Rat.not_lt.1 λh'=>e ((hs a ha t ht).2 h')
   have hat:lx X Y a t:=(Q6.1 h.srt).1 a (by simp);obtain⟨t',st',g1,g2,g3,g4,g5⟩:=Qju hs hc r a h.tail λp hp hap=>by
    have e1:=h.edg.1 p hp;have k:=ang (M8 (hc a ha)) (M8 hat) (M8 hap) (by rw[hQ]at *;unfold Mm at *;grind) (by unfold Mm at *;grind);unfold Mm;grind
   exact⟨t',st',by simp only[Lq];rw[if_neg e];exact g1,g2,g3,g4,by rw[g5];rfl⟩
theorem OK{P:List α}{c:α}:∀(st:List α) (t:α),Stk X Y P (t::st)->lx X Y t c->(∀a r,st=a::r->0<Mm X Y a t c)->Edg (λb a=>0<Mm X Y a b c) (t::st)
 | [],_,_,_,_=>trivial
 | [a],t,_,_,h=>⟨h a [] rfl,trivial⟩
 |
  a::q::r,t,hS,htc,h=>by
  have h1:=h a (q::r) rfl;have h0:0<Mm X Y q a t:=hS.cnv.1;have p1:=Q6.1 hS.srt;have p2:=Q6.1 p1.2;have hat:lx X Y a t:=p1.1 a (by simp);have hqa:lx X Y q a:=p2.1 q (by simp);refine⟨h1,OK (q::r) a hS.tail (fE hat htc) λa' r' e=>?_⟩;injection e with e _;rw[<-e];rw[yM]at h0 h1 ⊢;have k:=(ang (M8 hqa) (M8 hat) (M8 htc) (Qt h0) (Qt h1)).2 (.inl h0);grind
theorem Qpy{P:List α}{t:α}{st:List α}{c:α}(h:Stk X Y P (t::st))(hc:∀p∈P,lx X Y p c)(hP:∀p∈P,p=t\/lx X Y p t\/lx X Y t p)(hb:∀p∈P,(t::st).getLast? = some p\/∃b,(t::st).getLast? = some b/\lx X Y b p)(h2:∀p∈P,lx X Y t p->0≤Mm X Y t c p)(h3:∀a r,st=a::r->0<Mm X Y a t c):Stk X Y (P++[c]) (c::t::st):=by
 have ht:=h.mem t (by simp);have htc:=hc t ht;have hf:=OK st t h htc h3;refine⟨Q6.2 ⟨λp hp=>hc p (h.mem p hp),h.srt⟩,λp hp=>?_,⟨λp hp=>?_,?_⟩,?_⟩
 ·rcases Ql.1 hp with rfl|hp
  ·simp
  ·exact Xn _ (h.mem p hp)
 ·rcases Qp.1 hp with hp|hp
  ·rcases hP p hp with rfl|hpt|htp
   ·rw[(FP p c).1];exact Qq
   ·cases st with
    |
     nil =>
     exfalso;rcases hb p hp with e|⟨b,e,hb⟩
     ·injection e with e;subst e;exact Mf _ hpt
     ·injection e with e;subst e;exact Mf _ (fE hpt hb)
    |
     cons a r =>
     have e1:=h.edg.1 p hp;have h3:=h3 a r rfl;have hat:lx X Y a t:=(Q6.1 h.srt).1 a (by simp);have k:=(ang (M8 hpt) (M8 hat) (M8 htc) (by unfold Mm at *;grind) (by unfold Mm at *;grind)).1;unfold Mm;grind
   ·exact h2 p hp htp
  ·rw[Qk.1 hp,(FP t c).2];exact Qq
 ·cases st with
  |nil=>trivial
  |
   cons a r =>
   have key:∀l:List α,Edg (λb a=>∀p∈P,0≤Mm X Y a b p) l->Edg (λb a=>0<Mm X Y a b c) l->Edg (λb a=>∀p∈P++[c],0≤Mm X Y a b p) l:=by
    intro l
    induction l with
    |nil=>intros;trivial
    |
     cons x l ih =>
     cases l with
     |nil=>intros;trivial
     |
      cons y l =>
      intro k1 k2;refine⟨λp hp=>?_,ih k1.2 k2.2⟩;rcases Qp.1 hp with hp|hp
      ·exact k1.1 p hp
      ·rw[Qk.1 hp];exact Qt k2.1
   exact key _ h.edg hf
 ·cases st with
  |nil=>trivial
  |cons a r=>exact⟨h3 a r rfl,h.cnv⟩
theorem IC{s:α->α->α->Bool}{row:List α}(hs:∀a∈row,∀b∈row,∀c∈row,(s a b c=true↔0<Mm X Y a b c))(hrow:row.Pairwise (lx X Y)) :
 ∀(l P:List α) (t:α) (st:List α),row=P++l->Stk X Y P (t::st)->P.getLast? = some t->(t::st).getLast? = P.head? ->
 ∃t' st',P6 s (t::st) l=t'::st'/\Stk X Y row (t'::st')/\row.getLast? = some t'/\(t'::st').getLast? = row.head?
 |
  [],P,t,st,e,h,h1,h2=>by
  rw[Zv]at e;subst e;exact⟨t,st,rfl,h,h1,h2⟩
 |
  c::l,P,t,st,e,h,h1,h2=>by
  have hPm:∀p∈P,p∈row:=λp hp=>by rw[e];exact Xn _ hp
  have hcm:c∈row:=by rw[e];simp
  have hpw:=hrow;rw[e]at hpw;obtain⟨w1,w2,w3⟩:=Z4.1 hpw;have hc:∀p∈P,lx X Y p c:=λp hp=>w3 p hp c (by simp)
  have htop:∀p∈P,p=t\/lx X Y p t:=λp hp=>by
   obtain⟨P1,rfl⟩:∃P1,P=P1++[t]:=by
    have:=Y9.1 h1;exact this
   rcases Qp.1 hp with hp|hp
   ·exact .inr ((Z4.1 w1).2.2 p hp t (by simp))
   ·exact .inl (Qk.1 hp)
  obtain⟨t',st',g1,g2,g3,g4,g5⟩:=Qju (λa ha b hb=>hs a (hPm a ha) b (hPm b hb) c hcm) hc st t h λp hp htp=>by
   rcases htop p hp with rfl|h'
   ·exact absurd htp (Mf _)
   ·exact absurd (fE htp h') (Mf _)
  have tot:∀p∈P,p=t'\/lx X Y p t'\/lx X Y t' p:=λp hp=>by
   obtain⟨i,hi,rfl⟩:=V0.1 hp;obtain⟨j,hj,e2⟩:=V0.1 (g2.mem t' (by simp));rcases Kn i j with h'|h'|h'
   ·exact .inr (.inl (by rw[<-e2];exact Yf.1 w1 i j hi hj h'))
   ·subst h';exact .inl e2
   ·exact .inr (.inr (by rw[<-e2];exact Yf.1 w1 j i hj hi h'))
  have hPne:P≠[]:=λh'=>by rw[h']at h1;cases h1
  have hb:∀p∈P,(t'::st').getLast? = some p\/∃b,(t'::st').getLast? = some b/\lx X Y b p:=λp hp=>by
   rw[g5,h2];cases P with
   |nil=>exact absurd rfl hPne
   |
    cons f P' =>
    rcases Ql.1 hp with rfl|hp
    ·exact .inl rfl
    ·exact .inr ⟨f,rfl,(Q6.1 w1).1 p hp⟩
  have hpush:=Qpy g2 hc tot hb g3 g4;obtain⟨t2,st2,k1,k2,k3,k4⟩:=IC hs hrow l (P++[c]) c (t'::st') (by rw[e];simp) hpush (by simp) (by
   rw[J1,g5,h2];cases P with
   |nil=>exact absurd rfl hPne
   |cons f P'=>rfl)
  exact⟨t2,st2,by simp only[P6];rw[g1];exact k1,k2,k3,k4⟩
theorem Qgq{P:List α}(tot:∀p∈P,∀q∈P,p=q\/lx X Y p q\/lx X Y q p){z:α} :
 ∀(L L':List α) (f:α),(f::L).Pairwise (lx X Y)->(f::L').Pairwise (lx X Y)->(∀p∈f::L,p∈P)->(∀p∈f::L',p∈P) ->
 Edg (λa b=>∀p∈P,0≤Mm X Y a b p) (f::L)->Edg (λa b=>∀p∈P,0≤Mm X Y a b p) (f::L') ->
 Cnv (λa b c=>0<Mm X Y a b c) (f::L)->Cnv (λa b c=>0<Mm X Y a b c) (f::L')->(f::L).getLast? = some z->(f::L').getLast? = some z->L=L':=by
 have one:∀(L L':List α) (f b b':α),(f::b::L).Pairwise (lx X Y)->(f::b'::L').Pairwise (lx X Y)->(∀p∈f::b::L,p∈P)->b'∈P ->
  Edg (λa b=>∀p∈P,0≤Mm X Y a b p) (f::b::L)->0≤Mm X Y f b' b->Cnv (λa b c=>0<Mm X Y a b c) (f::b::L)->(f::b::L).getLast? = some z->(f::b'::L').getLast? = some z->¬lx X Y b b':=by
  intro L L' f b b' s s' m m' e e' c l l' hlt;have s1:=Q6.1 s;have hfb:lx X Y f b:=s1.1 b (by simp);have hcol:Mm X Y f b b'=0:=by
   have:=e.1 b' m';rw[hQ]at e';grind
  cases L with
  |
   nil =>
   simp at l;subst l;have hz:b'=b\/lx X Y b' b:=by
    have:b∈f::b'::L':=V1 l';have s2:=(Q6.1 s').2;rcases Ql.1 this with rfl|h
    ·exact absurd hfb (Mf _)
    ·rcases Ql.1 h with h|h
     ·exact .inl h.symm
     ·exact .inr ((Q6.1 s2).1 b h)
   rcases hz with rfl|hz
   ·exact Mf _ hlt
   ·exact Mf _ (fE hlt hz)
  |
   cons d M =>
   have h1:0<Mm X Y f b d:=c.1;have h2:=e.2.1 b' m';have s2:=Q6.1 s1.2;have hbd:lx X Y b d:=s2.1 d (by simp);have k:=(ang (M8 hlt) (M8 hfb) (M8 hbd) (by unfold Mm at hcol;grind) (by rw[yM]at h1;exact Rat.le_of_lt h1)).2 (.inr (by rw[yM]at h1;exact h1));unfold Mm at h2;grind
 intro L
 induction L with
 |
  nil =>
  intro L' f s s' m m' e e' c c' l l';simp at l;cases L' with
  |nil=>rfl
  |
   cons b' M' =>
   exfalso;subst l;have h1:=(Q6.1 s').1 f (by
    rw[J1]at l';exact V1 l')
   exact Mf _ h1
 |
  cons b M ih =>
  intro L' f s s' m m' e e' c c' l l';cases L' with
  |
   nil =>
   exfalso;simp at l';subst l';have h1:=(Q6.1 s).1 f (by
    rw[J1]at l;exact V1 l)
   exact Mf _ h1
  |
   cons b' M' =>
   have hb:=m b (by simp);have hb':=m' b' (by simp);have heq:b=b':=by
    rcases tot b hb b' hb' with h|h|h
    ·exact h
    ·exact absurd h (one M M' f b b' s s' m hb' e (e'.1 b hb) c l l')
    ·exact absurd h (one M' M f b' b s' s m' hb e' (e.1 b' hb') c' l' l)
   subst heq;rw[J1]at l l';rw[ih M' b (Q6.1 s).2 (Q6.1 s').2 (λp hp=>m p (Qg _ hp)) (λp hp=>m' p (Qg _ hp)) e.2 e'.2 c.tail c'.tail l l']
end
end Orq
namespace Orr
open Go
structure RawInt where
 b:Bool
 l:List Nat
structure RawPt where
 x:List RawInt
 y:List RawInt
 d:RawInt
 id:Int
abbrev L8(z:RawInt):Ut:=[.bool z.b,Q07 z.l]
structure RawInt.Ok(z:RawInt):Prop where
 u:∀u∈z.l,u<4294967296
structure RawPt.Ok(z:RawPt):Prop where
 x:∀a∈z.x,a.Ok
 y:∀a∈z.y,a.Ok
 d:z.d.Ok
 id:-9223372036854775808<=z.id/\z.id<=9223372036854775807
def H6(most:Int)(z:RawInt):Int:=match z.l with
 | []=>0
 |u::_=>if z.b=true then -((u:Int) % (most+1))else(u:Int) % (most+1)
theorem KO{most:Int}(h:0<=most)(z:RawInt):-most<=H6 most z/\H6 most z<=most:=by
 unfold H6
 split
 ·omega
 ·rename_i u _ _;have h1:=Yg (u:Int) (b:=most+1) (by omega);have h2:=Jt (u:Int) (b:=most+1) (by omega)
  split <;> omega
def Gq(most:Int)(l:List RawInt):Uo:=(l.take 3).map (H6 most)
def Qo1(most:Int)(x y:List RawInt)(d:RawInt):Crv:=⟨Gq most x,Gq most y,H6 3 d⟩
theorem SH(most:Int)(l:List RawInt):(Gq most l).length<=3:=by unfold Gq;rw[List.length_map,List.length_take];omega
theorem yJ{most:Int}{l:List RawInt}{i:Nat}{z:RawInt}(hi:i<3)(h:l[i]? = some z):Gq most (l.take (i+1))=Gq most (l.take i)++[H6 most z]:=by
 unfold Gq;rw[List.take_take,List.take_take,V3 (by omega),V3 (by omega),Z1,h];simp
theorem SG(most:Int){l:List RawInt}{i:Nat}(h:l.length<=i\/3<=i):Gq most (l.take i)=Gq most l:=by
 unfold Gq;rw[List.take_take];rcases Nat.le_total 3 i with h3|h3
 ·rw[Zx h3]
 ·rcases h with h|h
  ·rw[V3 h3,Qo (l:=l) (i:=i) (by omega),Qo (l:=l) (i:=3) (by omega)]
  ·rw[V3 h3,show i=3 by omega]
theorem SR{most:Int}{l:List RawInt}{z:Int}(hm:0<=most)(h:z∈Gq most l):-most<=z/\z<=most:=by
 obtain⟨a,_,rfl⟩:=Q9.1 h;exact KO hm a
theorem Qb2{most:Int}(hm:0<=most/\most<=999)(x y:List RawInt)(d:RawInt):Cs 10 3 (Qo1 most x y d):=by
 have key:∀z:Int,-999<=z/\z<=999->Fc z<=10:=λz h=>S0.2 (by omega)
 refine⟨λz hz=>?_,λz hz=>?_,?_,SH _ _,SH _ _⟩
 ·have:=SR hm.1 hz;exact key _ (by omega)
 ·have:=SR hm.1 hz;exact key _ (by omega)
 ·have:=KO (most:=3) (by decide) d;show Fc (H6 3 d)<=10;exact key _ (by omega)
end Orr
namespace Orr
def Sj(l:List Pt):Prop:=l.Pairwise λa b=>a.id<b.id
theorem Qh8(p:Pt)(l:List Pt)(id:Int):has (p::l) id=if p.id<id then has l id else decide (p.id=id):=by
 by_cases h:p.id<id
 ·rw[if_pos h];unfold has;simp only[Rx];rw[if_pos h];simp
 ·rw[if_neg h];unfold has;simp only[Rx];rw[if_neg h];simp
theorem Qjz(p:Pt)(l:List Pt)(q:Pt):put (p::l) q=if p.id<q.id then p::put l q else q::p::l:=by
 unfold put;simp only[Rx]
 split <;> simp
theorem EK:∀{l:List Pt} {q:Pt},Sj l->has l q.id=false->Sj (put l q)
 | [],q,_,_=>by simp[put,Rx,Sj]
 |
  p::l,q,h,hn=>by
  have h1:=Q6.1 h;rw[Qh8]at hn;rw[Qjz]
  split
  ·rename_i hlt;rw[if_pos hlt]at hn;refine Q6.2 ⟨λx hx=>?_,EK h1.2 hn⟩;rcases MO hx with rfl|hx
   ·exact hlt
   ·exact h1.1 x hx
  ·rename_i hge;rw[if_neg hge,decide_eq_false_iff_not]at hn;refine Q6.2 ⟨λx hx=>?_,h⟩;rcases Ql.1 hx with rfl|hx
   ·omega
   ·have:=h1.1 x hx;omega
end Orr
namespace Orr
open Go
section
variable{α:Type}{lt:α->α->Bool}
theorem Qcn(out:List α)(c:α):(Lv lt out c).Perm (c::out):=by
 unfold Lv;exact(List.perm_middle).trans (by rw[Zh])
theorem DJ:∀(l acc:List α),(l.foldl (Lv lt) acc).Perm (l++acc)
 | [],acc=>List.Perm.refl _
 |
  c::l,acc=>by
  simp only[Z5];exact(DJ l _).trans (((Qcn acc c).append_left l).trans List.perm_middle)
theorem cO(l:List α):(Ed lt l).Perm l:=by
 have:=DJ (lt:=lt) l [];rwa[Zv]at this
end
end Orr
namespace Orr
open Go
theorem Qhw(c:Int)(l:Uo):Tc (l.map (· * c))=Tc l*c.natAbs:=by
 have key:∀(l:Uo) (g:Nat),(l.map (· * c)).foldl (λg z=>Nat.gcd g z.natAbs) (g*c.natAbs)=l.foldl (λg z=>Nat.gcd g z.natAbs) g*c.natAbs:=by
  intro l
  induction l with
  |nil=>intro g;rfl
  |
   cons z l ih =>
   intro g;simp only[Zz,Z5,Yc,Nat.gcd_mul_right];exact ih _
 have:=key l 0;rwa[Ym]at this
theorem Qy7{M:List Pt}(hs:Sj M){i j:Nat}{p r:Pt}(hij:i<j)(hi:M[i]? = some p)(hj:M[j]? = some r):p.id<r.id:=by
 obtain⟨h1,e1⟩:=Qe.1 hi;obtain⟨h2,e2⟩:=Qe.1 hj;rw[<-e1,<-e2];exact Yf.1 hs i j h1 h2 hij
theorem Qh5{M:List Pt}{i:Nat}(hi:i<M.length):(M.take i++M.drop (i+1)).length+1=M.length:=by
 rw[Qx,Qr,Q8];omega
end Orr
namespace Orr
def S5(a b:Crv):Uo:=A5 (Gl (Gn a b) (Gn a b)) (Gl (Gm a b) (Gm a b))
def Hq(a b c d:Crv):Uo:=Na (Fu (S5 c d) ((a.d*b.d)*(a.d*b.d))) (Fu (S5 a b) ((c.d*d.d)*(c.d*d.d)))
theorem rY{a b:Crv}(ha:Cb a)(hb:Cb b):Fe (S5 a b)/\(S5 a b).length<=31/\Bd 4194312 (S5 a b):=by
 obtain⟨_,l1,b1⟩:=rV ha hb;obtain⟨_,l2,b2⟩:=rJ ha hb;have m1:=Tx (Gn a b) (Gn a b);have m2:=Tx (Gm a b) (Gm a b);have q1:=Pi (u:=5) b1 b1 (by omega);have q2:=Pi (u:=5) b2 b2 (by omega);refine⟨Fy _ _,?_,U5 (JO q1 q2) (by omega)⟩;have:=Oe (Gl (Gn a b) (Gn a b)) (Gl (Gm a b) (Gm a b));unfold S5;omega
theorem nS{a b:Crv}(ha:Cb a)(hb:Cb b):Fc (a.d*b.d)<=2097152:=by
 have:=Ga a.d b.d;have:=ha.d;have:=hb.d;omega
theorem aE{a b:Crv}(ha:Cb a)(hb:Cb b):Fc ((a.d*b.d)*(a.d*b.d))<=4194304:=by
 have:=Ga (a.d*b.d) (a.d*b.d);have:=nS ha hb;omega
def Bj(sg:Uo->Int)(a b c d:Pt):Ct:=⟨5,a.id,b.id,c.id,d.id,Hq a.c b.c c.c d.c,Hl sg (Hq a.c b.c c.c d.c)⟩
theorem LX(sg:Uo->Int)(a b c d:Pt):(Bj sg a b c d).p=Hq a.c b.c c.c d.c:=by rw[Bj]
def Ht:Nat->List Pt->List (Pt×Pt)
 | 0,_=>[]
 |_+1,[]=>[]
 |k+1,x::l=>l.map (λy=>(x,y))++Ht k l
def Gi(l:List Pt):List (Pt×Pt):=Ht l.length l
theorem Ln:∀(l:List Pt) (i:Nat) (x:Pt),l[i]? = some x->Ht (i+1) l=Ht i l++(l.drop (i+1)).map (λy=>(x,y))
 | [],i,x,h=>by simp at h
 |
  y::l,0,x,h=>by
  simp at h;subst h;simp[Ht]
 |
  y::l,i+1,x,h=>by
  have h:l[i]? = some x:=by simpa using h
  have ih:=Ln l i x h;show l.map (λz=>(y,z))++Ht (i+1) l=(l.map (λz=>(y,z))++Ht i l)++_;rw[ih,Ze];rfl
theorem Tg:∀(k:Nat) (l:List Pt),∀m∈Ht k l,m.1∈l/\m.2∈l
 | 0,l,m,h=>by simp[Ht]at h
 |k+1,[],m,h=>by simp[Ht]at h
 |
  k+1,x::l,m,h=>by
  rcases Qp.1 h with h|h
  ·obtain⟨y,hy,rfl⟩:=Q9.1 h;exact⟨Qy ..,Qg _ hy⟩
  ·obtain⟨h1,h2⟩:=Tg k l m h;exact⟨Qg _ h1,Qg _ h2⟩
theorem WJ:∀(k:Nat) (l:List Pt),(Ht k l).length<=k*l.length
 | 0,l=>by simp[Ht]
 |k+1,[]=>by simp[Ht]
 |
  k+1,x::l=>by
  have:=WJ k l;simp only[Ht,Qx,Zb,Q5];have e:(k+1)*(l.length+1)=k*l.length+k+l.length+1:=by rw[X4,Xk];omega
  omega
def Pm(sg:Uo->Int)(s m:Pt×Pt):Pt×Pt:=if Hl sg (Hq s.1.c s.2.c m.1.c m.2.c)<0 then m else s
def G9(sg:Uo->Int)(s:Pt×Pt)(ps:List (Pt×Pt)):Pt×Pt:=ps.foldl (Pm sg) s
theorem YB(sg:Uo->Int)(s m:Pt×Pt):Pm sg s m=m\/Pm sg s m=s:=by
 unfold Pm
 split
 ·exact .inl rfl
 ·exact .inr rfl
theorem En(sg:Uo->Int)(s m:Pt×Pt)(ps:List (Pt×Pt)):G9 sg s (m::ps)=G9 sg (Pm sg s m) ps:=by unfold G9;rw[List.foldl_cons]
theorem yH(sg:Uo->Int)(s:Pt×Pt)(ps:List (Pt×Pt))(m:Pt×Pt):G9 sg s (ps++[m])=Pm sg (G9 sg s ps) m:=by simp[G9]
theorem Lj(sg:Uo->Int){l:List Pt}:∀(ps:List (Pt×Pt)) (s:Pt×Pt),s.1∈l/\s.2∈l->(∀m∈ps,m.1∈l/\m.2∈l)->(G9 sg s ps).1∈l/\(G9 sg s ps).2∈l
 | [],s,hs,_=>hs
 |
  m::ps,s,hs,h=>by
  have hn:(Pm sg s m).1∈l/\(Pm sg s m).2∈l:=by
   rcases YB sg s m with e|e
   ·rw[e];exact h m (Qy ..)
   ·rw[e];exact hs
  rw[En];exact Lj sg ps (Pm sg s m) hn λx hx=>h x (Qg _ hx)
def ZG(s m:Pt×Pt):Bool:=decide (m.1.id≠s.1.id) || decide (m.2.id≠s.2.id)
def M4(sg:Uo->Int)(s:Pt×Pt)(ps:List (Pt×Pt)):List Ct:=(ps.filter (ZG s)).map λm=>Bj sg s.1 s.2 m.1 m.2
theorem Qog{sg:Uo->Int}{s m:Pt×Pt}{ps:List (Pt×Pt)}(h:ZG s m=true):M4 sg s (ps++[m])=M4 sg s ps++[Bj sg s.1 s.2 m.1 m.2]:=by simp[M4,Vk,h]
theorem Qof{sg:Uo->Int}{s m:Pt×Pt}{ps:List (Pt×Pt)}(h:ZG s m=false):M4 sg s (ps++[m])=M4 sg s ps:=by simp[M4,Vk,h]
theorem II{sg:Uo->Int}{s:Pt×Pt}{ps:List (Pt×Pt)}{c:Ct}(h:c∈M4 sg s ps):∃x∈ps,Bj sg s.1 s.2 x.1 x.2=c:=by
 unfold M4 at h;obtain⟨x,hx,e⟩:=Q9.1 h;exact⟨x,(J4.1 hx).1,e⟩
theorem IA(sg:Uo->Int)(s:Pt×Pt)(ps:List (Pt×Pt)):(M4 sg s ps).length<=ps.length:=by
 unfold M4;rw[Zb];exact Y3 _ _
def Ij(sg:Uo->Int):List Pt->List Pt
 |a::b::l=>[(G9 sg (a,b) (Gi (a::b::l))).1,(G9 sg (a,b) (Gi (a::b::l))).2]
 |_=>[]
def Lm(sg:Uo->Int):List Pt->List Ct
 |a::b::l=>M4 sg (G9 sg (a,b) (Gi (a::b::l))) (Gi (a::b::l))
 |_=>[]
theorem Qc5(sg:Uo->Int){l:List Pt}(h:l.length<2):Ij sg l=[]/\Lm sg l=[]:=by
 match l,h with
 | [],_=>exact⟨rfl,rfl⟩
 | [a],_=>exact⟨rfl,rfl⟩
theorem Qws{l:List Pt}(h:¬l.length<2):∃a b m,l=a::b::m:=by
 match l,h with
 | [],h=>simp at h
 | [a],h=>simp at h
 |a::b::m,_=>exact⟨a,b,m,rfl⟩
theorem qB(sg:Uo->Int)(l:List Pt):(Lm sg l).length<=l.length*l.length:=by
 match l with
 | []=>simp[Lm]
 | [a]=>simp[Lm]
 |a::b::m=>exact Qc (IA _ _ _) (WJ _ _)
def Ik(l:List Up):Uu:=l.map λr=>[.row (r.map λp=>[pl p])]
abbrev JG(r:Up):Uu:=r.map λp=>[pl p]
theorem YL(l:List Up):(Ik l).length=l.length:=by simp[Ik]
def XA(i:Nat)(rows:List Up):Nat->List Up
 | 0=>[]
 |j+1=>if j=i then XA i rows j else XA i rows j++[(rows.getD j []).drop 1]
def VH(rows:List Up)(i:Nat):List Up:=XA i rows rows.length
def Dm(f:Nat->Uo)(rows:List Up):Nat->Uo
 | 0=>[]
 |
  i+1=>if ((rows.getD i []).getD 0 []).length=0 then Dm f rows i else
  if i % 2=0 then A5 (Dm f rows i) (Gl ((rows.getD i []).getD 0 []) (f i))else Na (Dm f rows i) (Gl ((rows.getD i []).getD 0 []) (f i))
def Lo:Nat->List Up->Uo
 | 0,_=>[1]
 |k+1,rows=>Dm (λi=>Lo k (VH rows i)) rows (k+1)
structure Sq(s:Nat)(ds:List Nat)(k w:Nat)(rows:List (List (List Int))):Prop where
 l:rows.length=k
 w:∀r∈rows,r.length=w
 t:∀r∈rows,∀p∈r,Fe p
 b:∀r∈rows,∀p∈r,Bd s p
 n:∀r∈rows,∀(j:Nat) (p:List Int),r[j]? = some p->p.length≤ds.getD j 0+1
theorem LZ{i:Nat}{rows:List Up}:∀{j:Nat} {r:Up},j≤rows.length->r∈XA i rows j->∃q∈rows,r=q.drop 1
 | 0,r,_,h=>by simp[XA]at h
 |
  j+1,r,hj,h=>by
  simp only[XA]at h
  split at h
  ·exact LZ (by omega) h
  ·rcases Qp.1 h with h|h
   ·exact LZ (by omega) h
   ·rw[Qk.1 h];exact⟨rows.getD j [],Qa (i:=j) (by rw[Qi,Qf (by omega)];rfl),rfl⟩
theorem LQ{i:Nat}{rows:List Up}:∀(j:Nat),(XA i rows j).length=if i<j then j-1 else j
 | 0=>rfl
 |
  j+1=>by
  have ih:=LQ (i:=i) (rows:=rows) j;simp only[XA]
  split
  ·rename_i e;subst e;rw[ih,if_neg (by omega),if_pos (by omega)];omega
  ·rw[Qx,ih,Vs]
   split <;> split <;> omega
theorem Sq.min{s d k w:Nat}{ds:Uq}{rows:List Up}(h:Sq s (d::ds) (k+1) (w+1) rows){i:Nat}(hi:i<k+1):Sq s ds k w (VH rows i):=by
 have hl:=h.l;have hm:∀{r:Up},r∈VH rows i->∃q∈rows,r=q.drop 1:=λh=>LZ (Qm _) h
 refine⟨by unfold VH;rw[LQ,hl,if_pos hi];omega,λr hr=>?_,λr hr p hp=>?_,λr hr p hp=>?_,λr hr j p hp=>?_⟩
 ·obtain⟨q,hq,rfl⟩:=hm hr;rw[Q8,h.w q hq];omega
 all_goals obtain⟨q,hq,rfl⟩:=hm hr
 ·exact h.t q hq p (Qz hp)
 ·exact h.b q hq p (Qz hp)
 ·rw[Xd]at hp;have:=h.n q hq (1+j) p hp;rw[Jv 1 j]at this;exact this
theorem Sq.at{s d k w:Nat}{ds:Uq}{rows:List Up}(h:Sq s (d::ds) k (w+1) rows){i:Nat}(hi:i<k):∃p r,rows[i]? = some (p::r)/\(rows.getD i []).getD 0 []=p/\Fe p/\Bd s p/\p.length<=d+1:=by
 obtain⟨r,hr⟩:=gxE (l:=rows) (i:=i) (by rw[h.l];exact hi);have hm:=Qa hr;cases r with
 |nil=>have:=h.w _ hm;simp at this
 |
  cons p r =>
  have e:rows.getD i []=p::r:=by rw[Qi,hr];rfl
  refine⟨p,r,hr,by rw[e];rfl,h.t _ hm p (by simp),h.b _ hm p (by simp),h.n _ hm 0 p rfl⟩
theorem jV{s d k w:Nat}{ds:Uq}{f:Nat->Uo}{rows:List Up}{B L:Nat}(h:Sq s (d::ds) k (w+1) rows)(hn:d<31)(hf:∀i,i<k->Bd B (f i)/\(f i).length<=L+1):∀i,i<=k->Fe (Dm f rows i)/\Bd (s+B+5+i) (Dm f rows i)/\(Dm f rows i).length<=d+L+1
 | 0,_=>⟨rfl,λz hz=>(by cases hz),Qh _⟩
 |
  i+1,hi=>by
  obtain⟨h1,h2,h3⟩:=jV h hn hf i (by omega);obtain⟨p,r,_,e,t,b,l⟩:=h.at (i:=i) (by omega);obtain⟨f1,f2⟩:=hf i (by omega);have hp1:Bd (s+B+5) (Gl p (f i)):=Pi b f1 (by omega);have hp2:=Tx p (f i);simp only[Dm];rw[e]
  split
  ·exact⟨h1,U5 h2 (by omega),h3⟩
  ·split
   ·exact⟨Fy _ _,U5 (JO h2 hp1) (by omega),Qc (Oe _ _) (by omega)⟩
   ·exact⟨Fy _ _,U5 (Dt h2 hp1) (by omega),Qc (Nl _ _) (by omega)⟩
theorem MA{s:Nat}:∀(k:Nat) (ds:Uq) (rows:List Up),k<=4->ds.length=k->ds.sum<31->Sq s ds k k rows->Fe (Lo k rows)/\Bd (k*(s+10)+1) (Lo k rows)/\(Lo k rows).length<=ds.sum+1
 | 0,ds,rows,_,_,_,_=>⟨rfl,λz hz=>(by simp[Lo]at hz;subst hz;rw[Ym];decide),by simp[Lo]⟩
 |k+1,[],rows,_,hl,_,_=>by simp at hl
 |
  k+1,d::ds,rows,hk,hl,hd,h=>by
  rw[Ku]at hd;have ih:=λi (hi:i<k+1)=>MA k ds (VH rows i) (by omega) (by simpa using hl) (by omega) (h.min hi)
  obtain⟨h1,h2,h3⟩:=jV (f:=λi=>Lo k (VH rows i)) (B:=k*(s+10)+1) (L:=ds.sum) h (by omega) (λi hi=>⟨(ih i hi).2.1,(ih i hi).2.2⟩) (k+1) (Qm _);have e1:(k+1)*(s+10)=k*(s+10)+(s+10):=Xb ..;rw[Ku];exact⟨h1,U5 h2 (by omega),h3⟩
def hZ(a b c:Crv):List Up:=[[a.x,a.y,[a.d]],[b.x,b.y,[b.d]],[c.x,c.y,[c.d]]]
def Hi(a b c:Crv):Uo:=Lo 3 (hZ a b c)
end Orr
