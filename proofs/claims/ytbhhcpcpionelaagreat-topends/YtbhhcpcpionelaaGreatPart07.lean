/- T24 T25 G1 G2 SortL KinL K1 K2 F6 F7 F8 F9 G3 G4 K3 K4 KGoL SplitL S1 SortQ HullG RawL NewsL BegL TurnL PairN DetL -/
import Derived.Test.YtbhhcpcpionelaaGreatPart06
import Derived.Test.YtbhhcpcpionelaaGreatPart00
import Derived.Test.YtbhhcpcpionelaaGreatPart05
import Derived.Test.YtbhhcpcpionelaaGreatPart04
set_option linter.all false
namespace Orq
open Orr Go
theorem Qhl:∀{k:Nat} {a b:Uq} {l:Ur},wH k a b=some l->∀p∈l,p.length≠0
 | 0,_,_,_,h=>by cases h
 |
  k+1,a,b,l,h=>by
  simp only[wH]at h
  split at h
  ·injection h with h;subst h;exact λp hp=>by cases hp
  ·rename_i h0;obtain⟨r,_,h⟩:=Qd.1 h;obtain⟨l',h1,h⟩:=Qd.1 h;injection h with h;subst h;intro p hp;rcases Qm.1 hp with rfl|hp
   ·exact h0
   ·exact Qhl h1 p hp
theorem Okp.pb{n s:Nat}{p:Uq}(h:Okp n s p)(hs:s<=16777216):Pb p:=⟨h.t,by have:=h.l;have:=h.z.1;omega,U7 h.b hs⟩
theorem Qct{p:Uq}{q:Uq}{l:Ur}(hp:Pb p)(h:Db p=some (q::l))(hq:q.length≠0):∀r∈q::l,Fe r/\r.length≠0:=by
 have h1:=(Orr.chain_ok hp h).2;unfold Db at h;obtain⟨a,_,h⟩:=Qd.1 h
 split at h
 ·cases h
 ·obtain⟨d,_,h⟩:=Qd.1 h;obtain⟨l',h3,h⟩:=Qd.1 h;injection h with h;injection h with e1 e2;subst e1;subst e2;intro r hr;refine⟨(h1 r hr).t,?_⟩;rcases Qm.1 hr with rfl|hr
  ·exact hq
  ·exact Qhl h3 r hr
inductive RI (q:List Int) (L:List (List Rat)):Rat->List Tm->Rat->Prop
 |nil {lo hi:Rat} (h:lo<=hi) (hv:vv L lo=vv L hi):RI q L lo [] hi
 |cons {lo hi:Rat} {t:Tm} {l:List Tm} (h:lo<=t.lo) (hv:vv L lo=vv L t.lo) (ht:Vt (cz q) L t.lo t.hi) (hp:t.p=q) (hl:RI q L t.hi l hi):RI q L lo (t::l) hi
theorem RI.app{q:Uq}{L:Uu}{lo m hi:Rat}{l l':List Tm}(h:RI q L lo l m)(h':RI q L m l' hi):RI q L lo (l++l') hi:=by
 induction h with
 |
  nil h hv =>
  cases h' with
  |nil h2 hv2=>exact .nil (by grind) (by omega)
  |cons h2 hv2 ht hp hl=>exact .cons (by grind) (by omega) ht hp hl
 |cons h hv ht hp _ ih=>exact .cons h hv ht hp (ih h')
theorem Qho{D M k:Nat}{m:Rat}(h:Gr D M k m)(hM:0<M)(hs:Fg (D:Int)+Fg (M:Int)+k<=16777216):chq m=some m:=by
 have:=qD h hM hs;unfold chq;rw[if_pos ⟨this.1,this.2⟩]
theorem ND{q:Uq}{c:Ur}(hS:HE (cz q) (c.map cz))(tq:Fe q)(nq:q.length<=9)(hc1:q.length<2->c=[q]){D M F:Nat}(hM:0<M):∀(k j:Nat) (lo hi:Rat),lo<hi->Gr D M j lo->Gr D M j hi->Fg (D:Int)+Fg (M:Int)+(j+k)<=16777216->(hi-lo)*((2^(Se q q+1):Nat):Rat)<=((2^k:Nat):Rat) ->
 ∃l,Ir q c (F+k+1) lo hi ((vv (c.map cz) lo:Int)-(vv (c.map cz) hi:Int))=some l/\RI q (c.map cz) lo l hi/\∀t∈l,∃k',k'≤j+k/\Gr D M k' t.lo/\Gr D M k' t.hi:=by
 intro k
 induction k with
 |
  zero =>
  intro j lo hi hl g1 g2 hs hK;have hle:=A3 hS hl;have h2:vv (c.map cz) lo<vv (c.map cz) hi+2:=by
   rcases Zd (vv (c.map cz) lo) (vv (c.map cz) hi+2)with h|h
   ·exact h
   ·exfalso;have lq:2<=q.length:=by
     rcases Zd q.length 2 with e|e
     ·have hvv:∀x,vv (c.map cz) x=vv (c.map cz) 0:=λx=>by
       rcases hS with⟨c0,hc0,hcc,hl'⟩|⟨g',l',k',hk,hg,hsc,hl'⟩
       ·rw[hl'];simp only[vv,tc,hcc]
       ·rw[hc1 e]at hl';cases hl'
      rw[hvv lo,hvv hi]at h;omega
     ·exact e
    have:=Qrw hS tq nq lq hl h;rw[Ve]at hK;have h7:((1:Nat):Rat)=1:=rfl;rw[h7]at hK;grind
  simp only[Ir];by_cases e0:vv (c.map cz) lo=vv (c.map cz) hi
  ·rw[if_pos (by omega)];exact⟨[],rfl,.nil (Qt hl) e0,λt ht=>by cases ht⟩
  ·rw[if_neg (by omega),if_pos (by omega)];refine⟨[⟨q,lo,hi⟩],rfl,.cons Qp rfl ⟨hS,hl,by show vv _ lo=vv _ hi+1;omega⟩ rfl (.nil Qp rfl),λt ht=>?_⟩;rw[Ql.1 ht];exact⟨j,by omega,g1,g2⟩
 |
  succ k ih =>
  intro j lo hi hl g1 g2 hs hK;have hle:=A3 hS hl;show ∃l,(if (vv (c.map cz) lo:Int)-(vv (c.map cz) hi:Int)=0 then some []else if (vv (c.map cz) lo:Int)-(vv (c.map cz) hi:Int)=1 then some [⟨q,lo,hi⟩]else(chq (mid lo hi)).bind λm=>(Ir q c (F+k+1) lo m (Ts c lo m)).bind λl=>(Ir q c (F+k+1) m hi ((vv (c.map cz) lo:Int)-(vv (c.map cz) hi:Int)-Ts c lo m)).bind λr=>some (l++r))=some l/\_;by_cases e0:vv (c.map cz) lo=vv (c.map cz) hi
  ·rw[if_pos (by omega)];exact⟨[],rfl,.nil (Qt hl) e0,λt ht=>by cases ht⟩
  by_cases e1:vv (c.map cz) lo=vv (c.map cz) hi+1
  ·rw[if_neg (by omega),if_pos (by omega)];refine⟨[⟨q,lo,hi⟩],rfl,.cons Qp rfl ⟨hS,hl,e1⟩ rfl (.nil Qp rfl),λt ht=>?_⟩;rw[Ql.1 ht];exact⟨j,by omega,g1,g2⟩
  ·rw[if_neg (by omega),if_neg (by omega)];obtain⟨m,hm⟩:=nmE ((lo+hi) / 2);have h2:(lo+hi) / 2*2=lo+hi:=Hf (by decide);rw[<-hm]at h2;have gm:Gr D M (j+1) m:=by rw[hm];exact Qi7 g1 g2
   have l1:lo<m:=by grind
   have l2:m<hi:=by grind
   rw[cV,<-hm,Qho gm hM (by omega)];show ∃l,((Ir q c (F+k+1) lo m (Ts c lo m)).bind λl=>(Ir q c (F+k+1) m hi ((vv (c.map cz) lo:Int)-(vv (c.map cz) hi:Int)-Ts c lo m)).bind λr=>some (l++r))=some l/\_;rw[QV (Qt l1),show(vv (c.map cz) lo:Int)-(vv (c.map cz) hi:Int)-((vv (c.map cz) lo:Int)-(vv (c.map cz) m:Int))=(vv (c.map cz) m:Int)-(vv (c.map cz) hi:Int) by omega];rw[tP k]at hK;have hp:∀x y:Rat,(y-x)*2=hi-lo->(y-x)*((2^(Se q q+1):Nat):Rat)<=((2^k:Nat):Rat):=λx y h=>by
    have:(y-x)*((2^(Se q q+1):Nat):Rat)*2=(hi-lo)*((2^(Se q q+1):Nat):Rat):=by rw[<-h];grind
    grind
   obtain⟨la,a1,a2,a3⟩:=ih (j+1) lo m l1 (qL g1) gm (by omega) (hp lo m (by grind));obtain⟨lb,b1,b2,b3⟩:=ih (j+1) m hi l2 gm (qL g2) (by omega) (hp m hi (by grind));rw[a1];show ∃l,((Ir q c (F+k+1) m hi ((vv (c.map cz) m:Int)-(vv (c.map cz) hi:Int))).bind λr=>some (la++r))=some l/\_;rw[b1];refine⟨la++lb,rfl,a2.app b2,λt ht=>?_⟩;rcases Qq.1 ht with ht|ht
   ·obtain⟨k',h1,h2,h3⟩:=a3 t ht;exact⟨k',by omega,h2,h3⟩
   ·obtain⟨k',h1,h2,h3⟩:=b3 t ht;exact⟨k',by omega,h2,h3⟩
theorem Qv9{D M k:Nat}{q:Rat}(h:Gr D M k q):Gr D M k (-q):=by
 obtain⟨u,hu⟩:=h.u;exact⟨⟨-u,by rw[Vn,<-hu];grind⟩,by rw[Ew];exact h.b,h.d⟩
theorem rQ{m s:Nat}(h:m<2^s):Fg ((m+1:Nat):Int)<=s+1:=by
 rw[S6,Xj,Zs];omega
theorem Qdk{z:Int}{s:Nat}(h:Fg z<=s):Fg ((z.natAbs+1:Nat):Int)<=s+1:=rQ (S6.1 h)
theorem Qrl{x:Rat}{m s g N:Nat}(hx:x<=2*((m+1:Nat):Rat))(hm:m+1<=2^s)(hN:s+1+g<=N):x*((2^g:Nat):Rat)<=((2^N:Nat):Rat):=by
 have h3:=Zn.2 hm;have e:=tP s;have h4:(0:Rat)<=((2^s:Nat):Rat):=Xm;have h1:x<=((2^(s+1):Nat):Rat):=by rw[e];grind
 have h5:(0:Rat)<=((2^g:Nat):Rat):=Xm;refine Zk (Zf h1 h5) ?_;have h6:2^(s+1)*2^g<=2^N:=by
  rw[<-Xh];exact Zt (by decide) hN
 have:=Zn.2 h6;rw[Rat.natCast_mul]at this;exact this
theorem Qnj{s:Nat}{l:Uq}(h:Bd s l):most l<2^s:=by
 have key:∀(l:Uq) (m:Nat),m<2^s->Bd s l->l.foldl (λm z=>if m<z.natAbs then z.natAbs else m) m<2^s:=by
  intro l
  induction l with
  |nil=>exact λm h _=>h
  |
   cons y l ih =>
   intro m hm hb;simp only[Z7];refine ih _ ?_ λz hz=>hb z (Qg _ hz)
   have:=hb y (Qy ..);rw[S6]at this
   split <;> assumption
 exact key l 0 (Z1 (by decide)) h
theorem Qve{p q:Uq}(h:IK p=some q):q=p:=by
 unfold IK at h
 split at h
 ·injection h with h;exact h.symm
 ·cases h
theorem Qeb{s N:Nat}{p:Uq}(hNe:N=63*s+5160)(hs9:s≤1180)(h:Okp 9 s p):∃q c l,Pd p=some q/\Db p=some c/\PC p=some l/\HE (cz q) (c.map cz)/\RI q (c.map cz) (-Gz q) l (Gz q)/\(∀t∈l,Va t)/\(∀x y,x<y->Gz q≤x\/y≤-Gz q->vv (c.map cz) x=vv (c.map cz) y)/\q.length≤p.length/\∀t∈l,t.p=q/\t.lo<t.hi/\Bd (s+69) q/\∃D M k,Gr D M k t.lo/\Gr D M k t.hi/\0<M/\Fg (D:Int)≤s+69/\Fg (M:Int)≤s+70/\k≤N:=by
 obtain⟨pp,hpl,hpb⟩:=h.pr;obtain⟨g,q',hq',sq⟩:=QQ h;obtain⟨q,l,q1,q2,hS,hl0⟩:=chain_ok h;rw[hq']at q1;injection q1 with q1;subst q1;have e1:∀t,Fa (Fj p) t=Fa q' t*Fa g t:=λt=>by rw[sq.e];grind
 obtain⟨p1,p2⟩:=Ru pp.t pp.n e1;have hch:wH 66 q' (Fj (Gv q'))=some l:=by
  have h2:=q2;unfold Db at h2;rw[hq']at h2;simp only[Xy]at h2
  split at h2
  ·cases h2
  ·cases hd:IK (Gv q')with
   |none=>rw[hd]at h2;cases h2
   |
    some d =>
    rw[hd]at h2;simp only[Xy]at h2;obtain rfl:d=Gv q':=Qve hd;cases hc:wH 66 q' (Fj (Gv q'))with
    |none=>rw[hc]at h2;cases h2
    |some l'=>rw[hc]at h2;simp at h2;rw[h2]
 have hll:=Mf sq.pq.t sq.pg.t pp.t e1 p1 p2;have hl9:=h.l;have bq:Bd (s+69) q':=QN hpb (by omega) pp.t sq.pq.t sq.pg.t pp.n e1;have hall:=Qct (h.pb (by omega)) q2 sq.pq.n;have hld:Fu q'≠0:=by have:=sq.pq.l;omega
 have hb1:=RJ hld;obtain⟨D,hD⟩:=nmE ((Fu q').natAbs);obtain⟨m,hm⟩:=nmE (most (q'.take (q'.length-1)));have hm2:m<2^(s+69):=by rw[hm];exact Qnj (s:=s+69) λz hz=>bq z (Qo hz)
 have hD0:0<D:=by omega
 have hDs:Fg (D:Int)<=s+69:=by
  have:=Nk bq;rw[S6]at this ⊢;rw[Xj,hD];exact this
 have hbe:=BC hld;rw[<-hD,<-hm]at hbe;have hDq:=nat_pos hD0;have hbm:Gz q'<=((m+1:Nat):Rat):=by
  have hD1:(1:Rat)<=(D:Rat):=by
   have:((1:Nat):Rat)<=(D:Rat):=Zn.2 hD0;exact this
  have hm0:(0:Rat)<=(m:Rat):=Xm;have h3:=Cn (a:=(m:Rat)) (c:=1) hm0 Qp (by decide) hD1;rcases Gm (Gz q') ((m+1:Nat):Rat)with h'|h'
  ·exact h'
  ·exfalso;have:=V0 h' hDq
   push_cast at this;grind
 have gb:Gr D (m+1) 0 (Gz q'):=by
  refine⟨⟨(D+m:Nat),?_⟩,?_,hD0⟩
  ·rw[Ve,Ye,hbe];rw[show((((D+m:Nat):Int)):Rat)=((D+m:Nat):Rat) from rfl];push_cast;rfl
  ·have:Fl (Gz q')=Gz q':=by unfold Fl;rw[if_neg (by grind)]
   rw[this];exact hbm
 have hMs:Fg ((m+1:Nat):Int)<=s+69+1:=rQ (s:=s+69) hm2;have hK:(Gz q' - -Gz q')*((2^(Se q' q'+1):Nat):Rat)<=((2^N:Nat):Rat):=by
  have hps:=O5 bq;have hg:Se q' q'<=(2*s+164)*31:=by
   unfold Se;exact Q8 (by omega) (by omega)
  exact Qrl (s:=s+69) (g:=Se q' q'+1) (N:=N) (by grind) hm2 (by omega)
 have hN:Fg (D:Int)+Fg ((m+1:Nat):Int)+(0+N)<=16777216:=by omega
 obtain⟨F,hFe⟩:=nmE (99999-N);obtain⟨ls,r1,r2,r3⟩:=ND (F:=F) hS sq.pq.t (by omega) (λh=>by rw[hl0 h]) (Ua m) N 0 (-Gz q') (Gz q') (by grind) (Qv9 gb) gb hN hK;rw[show F+N+1=100000 by omega]at r1;have hchq:chq (Gz q')=some (Gz q'):=Qho gb (Ua m) (by omega);have key:∀t∈ls,Va t/\t.p=q'/\t.lo<t.hi/\Bd (s+69) q'/\∃D M k,Gr D M k t.lo/\Gr D M k t.hi/\0<M/\Fg (D:Int)≤s+69/\Fg (M:Int)≤s+70/\k≤N:=λt ht=>by
  obtain⟨k',k1,k2,k3⟩:=r3 t ht;have hmem:∀{lo hi:Rat} {ls:List Tm},RI q' ((q'::l).map cz) lo ls hi->t∈ls->Vt (cz q') ((q'::l).map cz) t.lo t.hi/\t.p=q':=λh=>by
   induction h with
   |nil=>intro ht;cases ht
   |
    cons h hv ht' hp hl ih =>
    intro ht;rcases Qm.1 ht with rfl|ht
    ·exact⟨ht',hp⟩
    ·exact ih ht
  obtain⟨v1,v2⟩:=hmem r2 ht;have lq2:2<=q'.length:=by
   rcases Zd q'.length 2 with e|e
   ·exfalso;have hvv:∀x,vv ((q'::l).map cz) x=0:=λx=>by
     rw[hl0 e,sq.pq.one e];have hv1:∀x:Rat,ev (cz [1]) x=1:=λx=>by rw[Fb,Ny]
     simp only[Zz,Jb,vv,tc,hv1];have:Fh 1=1:=by decide
     rw[this];decide
    have:=v1.v;rw[hvv,hvv]at this;omega
   ·exact e
  exact⟨⟨.inr ⟨_,by rw[v2];exact v1⟩,by rw[v2];exact sq.pq.t,by rw[v2];omega,by rw[v2];exact lq2,by rw[v2];exact U7 bq (by omega),λ_=>by rw[v2];exact U7 bq (by omega),λ_=>by rw[v2];exact⟨l,_,g,hch,sq,v1⟩,D,m+1,k',k2,k3,Ua m,Qa (show _<=1000000 by omega) (Qwd t)⟩,v2,v1.l,bq,D,m+1,k',k2,k3,Ua m,hDs,Qa hMs (Qk (s+70)),by rw[Zy]at k1;exact k1⟩
 refine⟨q',q'::l,ls,hq',q2,?_,hS,r2,λt ht=>(key t ht).1,λx y hxy hb=>lC hS sq.pq.t sq.pq.n hxy hb (by grind),by omega,λt ht=>(key t ht).2⟩
 ·unfold PC;rw[q2,hq'];show(chq (Gz q')).bind _=_;rw[hchq];simp only[Xy];rw[Qea hS hall];exact r1
theorem sU{s:Nat}{p:Uq}(hs9:s≤1180)(h:Okp 9 s p):∃q c l,Pd p=some q/\Db p=some c/\PC p=some l/\HE (cz q) (c.map cz)/\RI q (c.map cz) (-Gz q) l (Gz q)/\(∀t∈l,Va t)/\(∀x y,x<y->Gz q≤x\/y≤-Gz q->vv (c.map cz) x=vv (c.map cz) y)/\q.length≤p.length/\∀t∈l,t.p=q/\t.lo<t.hi/\Bd (s+69) q/\∃D M k,Gr D M k t.lo/\Gr D M k t.hi/\0<M/\Fg (D:Int)≤s+69/\Fg (M:Int)≤s+70/\k≤63*s+5160:=Qeb rfl hs9 h
theorem Qld{p:Uq}(h:Okp 9 1180 p):∃q c l,Pd p=some q/\Db p=some c/\PC p=some l/\HE (cz q) (c.map cz)/\RI q (c.map cz) (-Gz q) l (Gz q)/\(∀t∈l,Va t)/\(∀x y,x<y->Gz q≤x\/y≤-Gz q->vv (c.map cz) x=vv (c.map cz) y):=by
 obtain⟨q,c,l,h1,h2,h3,h4,h5,h6,h7,_⟩:=sU (Qk _) h;exact⟨q,c,l,h1,h2,h3,h4,h5,h6,h7⟩
theorem El{q:Uq}{L:Uu}(hS:HE (cz q) L){c:Rat->Int}(hc:Cut c){lo:Rat}(hH:∀z,c z=-1->z<=lo->vv L z=vv L lo){y0:Rat}(hy:c y0=-1)(hv:∀z,lo<z->z<=y0->vv L z=vv L lo):∃s,s≠0/\∀z,c z=-1->z<=y0->Fh (ev (cz q) z)=s:=by
 have hall:∀z,c z=-1->z<=y0->vv L z=vv L lo:=λz h1 h2=>by
  rcases Gm z lo with e|e
  ·exact hH z h1 e
  ·exact hv z e h2
 have hne:∀z,c z=-1->z<=y0->Fh (ev (cz q) z)≠0:=λz h1 h2=>by
  obtain⟨w,w1,w2⟩:=hc.dn z h1;have:=wJ hS w1 (by rw[hall w w2 (by grind),hall z h1 h2]);rw[this.s];exact this.n
 refine⟨Fh (ev (cz q) y0),hne y0 hy Qp,λz h1 h2=>?_⟩;rcases Classical.em (z=y0)with e|e
 ·rw[e]
 ·have:=wJ hS (x:=z) (y:=y0) (by grind) (by rw[hall z h1 h2,hall y0 hy Qp]);rw[this.s,Ao (hne z h1 h2)]
structure Fst(o:List Int)(a t:Tm):Prop where
 lt:Mh a t
 s:∃s,s≠0/\(∀z,Fq a z=-1->Fq t z=1->Fh (ev (cz o) z)=s)/\RS (cz o) (Fq t) (-s)
def Non(o:Uq)(a:Tm):Prop:=∃s,s≠0/\∀z,Fq a z=-1->Fh (ev (cz o) z)=s
theorem Qds{q:Uq}{L:Uu}(hS:HE (cz q) L){a:Tm}(ha:Va a){lo hi:Rat}{l:List Tm}(hR:RI q L lo l hi):(∀t∈l,Va t)->(∀z,hi<z->vv L z=vv L hi)->(∀z,Fq a z=-1->z≤lo->vv L z=vv L lo)->∃r,KY a l=some r/\match r with
 |none=>Non q a
 |some t=>t∈l/\Fst q a t:=by
 have ca:=ha.cut
 induction hR with
 |
  @nil lo hi h hv =>
  intro _ hhi hH;refine⟨none,rfl,?_⟩;obtain⟨y1,hy1⟩:=ca.hi;have hall:∀z,lo<z->vv L z=vv L lo:=λz hz=>by
   rcases Gm z hi with e|e
   ·have h1:=A3 hS hz;have h2:vv L hi<=vv L z:=by
     rcases Classical.em (z=hi)with e'|e'
     ·rw[e'];exact Qk _
     ·exact A3 hS (by grind)
    omega
   ·rw[hhi z e,hv]
  obtain⟨s,s0,hs⟩:=El hS ca hH hy1 λz h1 _=>hall z h1
  refine⟨s,s0,λz hz=>?_⟩;rcases Gm z y1 with e|e
  ·exact hs z hz e
  ·obtain⟨s',s0',hs'⟩:=El hS ca hH hz λz h1 _=>hall z h1
   rw[hs' z hz Qp,<-hs' y1 hy1 (Qt e),hs y1 hy1 Qp]
 |
  @cons lo hi t l h hv ht hp hl ih =>
  intro hV hhi hH;have hvt:=hV t (Qy ..);have ct:=hvt.cut;have ht':=ht;rw[<-hp]at ht';have ect:∀z,Fq t z=cq (cz t.p) t.lo t.hi z:=Cg ht.l;obtain⟨c,c1,c2⟩:=UL hvt ha;show ∃r,((UD t a).bind λc=>if 0<c then some (some t)else KY a l)=some r/\_;rw[c1];show ∃r,(if 0<c then some (some t)else KY a l)=some r/\_;have hlo1:Fq t t.lo=1:=by rw[ect];exact Ag Qp
  have hlow:∀z,lo<z->Fq t z=1->vv L z=vv L lo:=λz h1 h2=>by
   rcases Gm z t.lo with e|e
   ·have a1:=A3 hS h1;have a2:vv L t.lo<=vv L z:=by
     rcases Classical.em (z=t.lo)with e'|e'
     ·rw[e'];exact Qk _
     ·exact A3 hS (by grind)
    omega
   ·rw[ect]at h2;have hz:z<=t.hi:=by
     rcases Gm z t.hi with e'|e'
     ·exact e'
     ·rw[UA ht.l e']at h2;omega
    rw[ht'.eq_lo e hz h2,hv]
  by_cases hc:0<c
  ·rw[if_pos hc];refine⟨some t,rfl,Qy ..,?_⟩;have hlt:Mh a t:=by
    rcases c2 with⟨e,_⟩|⟨e,_⟩|⟨_,h⟩
    ·omega
    ·omega
    ·exact h
   refine⟨hlt,?_⟩;obtain⟨m,m1,m2⟩:=hlt;obtain⟨s,s0,hs⟩:=El hS ca hH m1 λz h1 h2=>hlow z h1 (by
    rcases Classical.em (z=m)with e|e
    ·rw[e];exact m2
    ·exact ct.mono' (q:=z) (r:=m) (by grind) (by omega))
   have hall:∀z,Fq a z=-1->Fq t z=1->Fh (ev (cz q) z)=s:=λz h1 h2=>by
    rcases Gm z m with e|e
    ·exact hs z h1 e
    ·obtain⟨s',s0',hs'⟩:=El hS ca hH h1 λw w1 w2=>hlow w w1 (by
      rcases Classical.em (w=z)with e|e
      ·rw[e];exact h2
      ·exact ct.mono' (q:=w) (r:=z) (by grind) (by omega))
     rw[hs' z h1 Qp,<-hs' m m1 (Qt e),hs m m1 Qp]
   refine⟨s,s0,hall,?_⟩;obtain⟨w,w1,w2,w3⟩:=DJ ct m2 hlo1;have hwa:Fq a w=-1:=ca.mono m w w2 (by omega);have hsw:=hall w hwa w1;have hwh:w<t.hi:=by
    rw[ect]at w1;rcases Gm t.hi w with e|e
    ·have:=ht'.hi1;rcases Classical.em (t.hi=w)with e'|e'
     ·rw[<-e']at w1;exact absurd w1 this
     ·rw[UA ht.l (by grind)]at w1;omega
    ·exact e
   have hww:vv L w=vv L t.lo:=ht'.eq_lo w3 (Qt hwh) (by rw[<-ect];exact w1);have hvv:=ht.v;have hone:=wX hS hwh (by omega);have hlw:Px (cz q) w=s:=by rw[Ao (by rw[hsw];exact s0),hsw]
   rw[hlw]at hone;have hd:∀z,w<z->z<=t.hi->Fq t z=-1->Fh (ev (cz q) z)=-s:=λz z1 z2 z3=>by
    rw[ect]at z3;have e1:=ht'.eq_hi (by grind) z2 (by omega);have e2:=wX hS z1 (by omega);rw[hlw]at e2;have hz0:Fh (ev (cz q) z)≠0:=by
     rw[Iw (by grind) z2,hp]at z3;intro h0;rw[if_pos h0]at z3;omega
    rw[Ao hz0]at e2;exact e2.2
   rcases ct.val t.hi with e|e|e
   ·rw[ect]at e;exact absurd e ht'.hi1
   ·obtain⟨d,dp,hd'⟩:=Qzk (p:=cz q) (x:=t.hi) (by rw[hone.2];omega);refine⟨t.hi+d,ct.mono t.hi _ (by grind) (by omega),λz h1 h2=>?_⟩;have hz:t.hi<z:=by
     rcases Gm z t.hi with e'|e'
     ·rcases Classical.em (z=t.hi)with e''|e''
      ·rw[e'']at h1;omega
      ·have:=ct.mono z t.hi (by grind) (by omega);omega
     ·exact e'
    rw[hd' z hz (by grind),hone.2]
   ·exact⟨t.hi,e,λz h1 h2=>hd z (ct.lt w1 h1) h2 h1⟩
  ·rw[if_neg hc];have hle:¬Mh a t:=λh=>by
    rcases c2 with⟨e,h'⟩|⟨e,h'⟩|⟨e,_⟩
    ·exact I1 ct ca h' h
    ·obtain⟨z,z1,z2⟩:=h;have:=h' z;omega
    ·omega
   obtain⟨r,r1,r2⟩:=ih (λx hx=>hV x (Qg _ hx)) hhi λz z1 z2=>by
    have hz:Fq t z≠1:=λh=>hle ⟨z,z1,h⟩
    have hzl:t.lo<z:=by
     rcases Gm z t.lo with e|e
     ·refine absurd ?_ hz;rw[ect];exact Ag e
     ·exact e
    exact ht'.eq_hi hzl z2 (by rw[<-ect];exact hz)
   refine⟨r,r1,?_⟩;cases r with
   |none=>exact r2
   |some x=>exact⟨Qg _ r2.1,r2.2⟩
theorem Qti{c:Rat->Int}(hc:Cut c):∀(n:Nat) (f:Ut),HD f n->∃s,s≠0/\RS f c s
 |
  n,f,h=>by
  rcases JO hc f with hv|⟨s,hs,hn⟩
  ·cases n with
   |
    zero =>
    exfalso;obtain⟨q,hq,_⟩:=rC hc (hv (Fl (f.getD 0 0)) (Cv h.1));cases f with
    |nil=>exact h.1 (by simp)
    |
     cons a l =>
     have:=Lf (p:=l) λk=>by have:=h.2 (k+1) (by omega);rwa[Q5]at this
     simp only[ev,this,Zu]at hq;grind
   |
    succ n =>
    have hd:HD (Bn f) n:=by
     have key:∀(f:Ut) (k:Nat),(Bn f).getD k 0=((k+1:Nat):Rat)*f.getD (k+1) 0:=by
      intro f
      induction f with
      |nil=>intro k;simp only[Bn,Kw];grind
      |
       cons a f ih =>
       intro k;simp only[Bn];rw[Rp,Q5];cases k with
       |zero=>rw[Zu];push_cast;grind
       |succ k=>rw[Q5,ih];push_cast;grind
     refine⟨λh0=>?_,λk hk=>by rw[key,h.2 (k+1) (by omega)];grind⟩;rw[key]at h0;rcases Y3.1 h0 with h1|h1
     ·have:=nat_pos (show 0<n+1 by omega);grind
     ·exact h.1 h1
    obtain⟨s,hs,h1⟩:=Qti hc n (Bn f) hd;exact⟨s,hs,kK hc hv h1 hs⟩
  ·exact⟨s,hs,xY hc hn⟩
theorem Qlf{c:Rat->Int}(hc:Cut c){f p q:Ut}{s s':Int}(hf:∀t,ev f t=ev p t*ev q t)(h:RS p c s)(h':RS q c s'):RS f c (s*s'):=by
 obtain⟨y,h1,h2⟩:=h;obtain⟨y',h3,h4⟩:=h';refine⟨if y<=y' then y else y',by split <;> assumption,λz z1 z2=>?_⟩;rw[hf,S0,h2 z z1 (by clear h2 h4;grind),h4 z z1 (by clear h2 h4;grind)]
theorem Qlg{c:Rat->Int}(hc:Cut c){f o S:Ut}{k:Rat}(hk:k≠0)(hf:∀t,ev f t=k*(ev o t*(ev S t*ev S t)))(hnz:¬∀t,ev f t=0){s:Int}(h:RS o c s):RS f c (Fh k*s):=by
 obtain⟨n,_,hn⟩:∃n,n<S.length/\HD S n:=by
  rcases LD S with h1|h1
  ·exact absurd (λt=>by rw[hf,h1];grind) hnz
  ·exact h1
 obtain⟨s',hs',h'⟩:=Qti hc n S hn;have h1:=Qlf hc (f:=G9 S S) (λt=>Fi t _ _) h' h';have h2:=Qlf hc (f:=G9 o (G9 S S)) (λt=>Fi t _ _) h h1;have hsq:s'*s'=1:=by
  obtain⟨y,y1,y2⟩:=h';have:=y2 y y1 Qp;rcases Ge (ev S y)with⟨e,_⟩|⟨e,_⟩|⟨e,_⟩
  ·rw[<-this,e];rfl
  ·omega
  ·rw[<-this,e];rfl
 rw[hsq,Uf]at h2;obtain⟨y,y1,y2⟩:=h2;exact⟨y,y1,λz z1 z2=>by
  have:=y2 z z1 z2;rw[Fi,Fi]at this;rw[hf,S0,this]⟩
structure Cp(p:List Int):Prop where
 t:Fe p
 l:p.length<=9
 b:Bd 1110 p
theorem Cp.dp{p:Uq}(h:Cp p):Dp p:=⟨h.t,h.l,U7 h.b (by omega)⟩
theorem Cp.ok{p:Uq}(h:Cp p)(h0:p.length≠0):Okp 9 1180 p:=h.dp.ok h0
def Leq(a:Tm)(c:Rat->Int):Prop:=∀q,c q=-1->Fq a q=-1
def S9(p:Uq)(a:Tm):Option Tm->Prop
 |none=>p=[]\/∃s,s≠0/\∀c,Cut c->Leq a c->RS (cz p) c s
 |some t=>p≠[]/\Va t/\Mh a t/\∃s,s≠0/\(∀c,Cut c->Leq a c->(∃m,c m=-1/\Fq t m=1)->RS (cz p) c s)/\RS (cz p) (Fq t) (-s)
theorem RI.len{q:Uq}{L:Uu}{lo hi:Rat}{l:List Tm}(h:RI q L lo l hi):l.length+vv L hi<=vv L lo:=by
 induction h with
 |nil h hv=>simp;omega
 |cons h hv ht hp hl ih=>have:=ht.v;simp only[Q3];omega
theorem lS(x:Rat):∀(L:Uu) (s:Int),tc x s L<=L.length
 | [],_=>Qk _
 |
  f::l,s=>by
  have h1:=lS x l;simp only[tc,Q3]
  repeat' split
  all_goals (first|(have:=h1 s;omega)|(have:=h1 (Fh (ev f x));omega))
theorem Qxw(L:Uu)(x:Rat):vv L x<=L.length:=lS x L 0
theorem JI{p:Uq}(h:Cp p):∃l,ZU p=some l/\l.length≤67/\(∀t∈l,Va t)/\∀a,Va a->∃r,KY a l=some r/\S9 p a r/\∀t,r=some t->t∈l:=by
 unfold ZU;by_cases h0:p.length=0
 ·have e:p=[]:=Qj h0;subst e;exact⟨[],rfl,by decide,(λt ht=>by cases ht),λa _=>⟨none,rfl,.inl rfl,λt ht=>by cases ht⟩⟩
 ·obtain⟨qp,o,q1,o1,hpt⟩:=cS (n:=9) (s:=1110) (p:=p) ⟨⟨by decide,by decide⟩,h.t,h0,h.l,h.b⟩;obtain⟨g,sq⟩:=hpt.sq;obtain⟨S,hS⟩:=hpt.os;obtain⟨p1,p2,p3,p4,p5,p6,p7⟩:=Mr h.t h0;have hpl:=h.l;obtain⟨hh,th,eh⟩:=hpt.oh;have bo:Bd 1179 o:=QN (p5 1110 h.b) (by omega) p1 hpt.ot th (by omega) eh;obtain⟨lo1,lo2⟩:=Ru p1 (by omega) eh;have hlen:=Mf hpt.ot th p1 eh lo1 lo2;have oko:Okp 9 1180 o:=⟨vF,hpt.ot,by omega,by omega,U7 bo (by omega)⟩;obtain⟨q,c,l,r1,r2,r3,hSt,hRI,hVa,hout⟩:=Qld oko;obtain⟨g',q',s1,s2⟩:=QQ oko;rw[r1]at s1;injection s1 with s1;subst s1;obtain⟨_,_,_,_,_,o6,o7⟩:=Mr hpt.ot (by omega);have hg1:g'=[1]:=by
   refine s2.pg.one ?_;obtain⟨E,hE⟩:=hpt.oq;have hE:∀t,Fa qp t=Fa o t*ev E t:=λt=>by have:=hE t;rwa[Fb,Fb]at this
   obtain⟨z,hz⟩:=s2.d;have hd1:∀t,Fa o t=Fa g' t*(Hr o*Fa q t):=λt=>by rw[o7,s2.e];grind
   have hdo:∀t,dv (cz o) t=Fa g' t*(Hr o*ev z t):=λt=>by
    have:=Qh8 (p:=cz o) (q:=D8 (Hr o) (cz (Fj o))) (λt=>by rw[Fb,Gw,Fb,o7]) t;rw[this,RB,hz];grind
   obtain⟨k,hk,hkk⟩:=sq.num (d:=cz g') ⟨G9 (D8 (Hr o) (cz q)) E,λt=>by rw[Fb,Fb,hE,hd1,Fi,Gw,Fb];grind⟩ ⟨Sw (G9 (D8 (Hr o) z) E) (G9 (D8 (Hr o) (cz q)) (Bn E)),λt=>by
    have:=QM (f:=cz qp) (w:=cz o) (u:=E) (λt=>by rw[Fb,Fb,hE]) t;rw[Tt,this,hdo,Fb,Fb,hd1,G5,Fi,Fi,Gw,Gw,Tt,Fb];grind⟩
   rcases Zd g'.length 2 with e|e
   ·exact e
   ·exfalso;have h1:=(PY s2.pg.t (by omega)).1;have h2:=D3 (p:=cz g') (q:=[k]) (λt=>by rw[hkk];simp only[ev];grind) (g'.length-1);rw[h2,Qi,Qw (by simp;omega)]at h1;exact h1 rfl
  have hpq:∀t,ev (cz p) t=((Hr p:Rat)*(Hr o:Rat))*(ev (cz q) t*(ev S t*ev S t)):=λt=>by
   rw[Fb,Fb,p7,hS,o7,s2.e,hg1,Ny];grind
  have hk0:(Hr p:Rat)*(Hr o:Rat)≠0:=λh=>(Y3.1 h).elim (XS p6) (XS o6)
  have hpz:¬∀t,ev (cz p) t=0:=λh'=>SI h.t (by omega) λt=>by rw[<-Fb];exact h' t
  obtain⟨k,hk⟩:=nmE (Fh ((Hr p:Rat)*(Hr o:Rat)));have hkn:k≠0:=λh=>hk0 (Gs.1 (by rw[<-hk];exact h))
  have ho:o.length≠0:=by omega
  rw[o1];show ∃l,(if o.length=0 then some []else PC o)=some l/\l.length<=67/\_;rw[if_neg ho];have hb1:=RJ (Er s2.pq.t s2.pq.n);have hll:=hRI.len;have hlv:=Qxw (c.map cz) (-Gz q);have hcl:=(Orr.chain_ok (p:=o) ⟨hpt.ot,by omega,U7 bo (by omega)⟩ r2).1;rw[Za]at hlv;refine⟨l,r3,by omega,hVa,λa ha=>?_⟩;obtain⟨r,n1,n2⟩:=Qds hSt ha hRI hVa (λz hz=>(hout _ _ hz (.inl Qp)).symm) λz _ hz=>by
   rcases Classical.em (z=-Gz q)with e|e
   ·rw[e]
   ·exact hout z _ (by grind) (.inr Qp)
  refine⟨r,n1,?_,λt ht=>by subst ht;exact n2.1⟩;cases r with
  |
   none =>
   obtain⟨s,hs,hz⟩:=n2;refine .inr ⟨k*s,Jh hkn hs,λc hc hac=>?_⟩;obtain⟨y,hy⟩:=hc.hi;have h1:RS (cz q) c s:=⟨y,hy,λz z1 _=>hz z (hac z z1)⟩;rw[hk];exact Qlg hc hk0 hpq hpz h1
  |
   some t =>
   obtain⟨hm,hlt,s,hs,hz,hrs⟩:=n2;refine⟨λe=>h0 (by rw[e];rfl),hVa t hm,hlt,k*s,Jh hkn hs,λc hc hac ⟨m,m1,m2⟩=>?_,?_⟩
   ·have h1:RS (cz q) c s:=⟨m,m1,λz z1 z2=>hz z (hac z z1) (by
     rcases Classical.em (z=m)with e|e
     ·rw[e];exact m2
     ·exact(hVa t hm).cut.mono' (q:=z) (r:=m) (by grind) (by omega))⟩
    rw[hk];exact Qlg hc hk0 hpq hpz h1
   ·have:=Qlg (hVa t hm).cut hk0 hpq hpz hrs;rw[<-hk]at this;rw[show -(k*s)=k*-s by rw[V9]];exact this
structure Sz(s n:Nat)(t:Tm):Prop where
 n:t.p.length<=n
 b:Bd (s+138) t.p
 g:∃D M k,Gr D M k t.lo/\Gr D M k t.hi/\0<M/\Fg (D:Int)<=s+138/\Fg (M:Int)<=s+139/\k<=63*s+9507
theorem Qka{p:Uq}(h:Cp p){a:Tm}(ha:Va a):∃r,PT p a=some r/\S9 p a r:=by
 obtain⟨l,l1,_,_,l3⟩:=JI h;obtain⟨r,r1,r2,_⟩:=l3 a ha;refine⟨r,?_,r2⟩;unfold PT;rw[l1];exact r1
theorem TU:∀(l:List Tm) (b:Tm),(∀t∈b::l,Va t)->∃m,QA b l=some m/\m∈b::l/\∀t∈b::l,¬Mh t m
 |
  [],b,h=>⟨b,rfl,Qy ..,λt ht h'=>by
  rw[Ql.1 ht]at h';have hb:=(h b (Qy ..)).cut;exact I1 hb hb h' h'⟩
 |
  a::l,b,h=>by
  have ha:=h a (by simp);have hb:=h b (by simp);obtain⟨c,c1,c2⟩:=UL ha hb;obtain⟨m,m1,m2,m3⟩:=TU l (if c<0 then a else b) λt ht=>by
   rcases Qm.1 ht with rfl|ht
   ·split <;> assumption
   ·exact h t (by simp[ht])
  refine⟨m,by simp only[QA];rw[c1];exact m1,?_,λt ht=>?_⟩
  ·rcases Qm.1 m2 with e|e
   ·rw[e];split <;> simp
   ·simp[e]
  ·have hm:Va m:=by
    rcases Qm.1 m2 with e|e
    ·rw[e];split <;> assumption
    ·exact h m (by simp[e])
   have hfst:=m3 _ (Qy ..);have tr:∀x y:Tm,Va x->Va y->¬Mh x y->¬Mh y m->¬Mh x m:=λx y hx hy h1 h2 h3=>by
    rcases tri hy.cut hm.cut with h4|h4|h4
    ·exact h2 h4
    ·obtain⟨q,q1,q2⟩:=h3;exact h1 ⟨q,q1,by rw[h4];exact q2⟩
    ·obtain⟨q,q1,q2⟩:=h3;obtain⟨r,r1,r2⟩:=h4;have:=hm.cut.lt q2 r1;exact h1 ⟨q,q1,hy.cut.mono' this (by omega)⟩
   rcases Qm.1 ht with rfl|ht
   ·by_cases hc:c<0
    ·rw[if_pos hc]at hfst;refine tr _ a hb ha ?_ hfst;rcases c2 with⟨_,h'⟩|⟨e,_⟩|⟨e,_⟩
     ·exact λh''=>I1 ha.cut hb.cut h' h''
     ·omega
     ·omega
    ·rw[if_neg hc]at hfst;exact hfst
   ·rcases Qm.1 ht with rfl|ht
    ·by_cases hc:c<0
     ·rw[if_pos hc]at hfst;exact hfst
     ·rw[if_neg hc]at hfst;refine tr _ b ha hb ?_ hfst;rcases c2 with⟨e,_⟩|⟨_,h'⟩|⟨_,h'⟩
      ·omega
      ·rintro⟨q,q1,q2⟩
       have:=h' q;omega
      ·exact λh''=>I1 ha.cut hb.cut h'' h'
    ·exact m3 t (by simp[ht])
end Orq
namespace Orr
open Go Go.Proofs Tryz Orq
set_option maxRecDepth 10000
theorem Dp.pb{p:Uq}(h:Dp p):Pb p:=⟨h.t,by have:=h.l;omega,U7 h.b (by have:=h.l;omega)⟩
theorem Qy2{p:Uq}{a:Tm}(hp:Dp p)(ha:Va a):Un 214 [pr p,.agg (ta a)] [.oi (Fx a p)]:=Qnn (Dp.pb hp) ha.tb (Qlm hp ha).1
theorem Qyu{p:Uq}{a:Tm}(hp:Dp p)(ha:Va a):Un 213 [pr p,.one (.sh (ta a))] [.oi (Fx a p)]:=Uk func213 rfl [.k (Qy2 hp ha)] rfl
theorem Qoj{p:Uq}{fid:Nat}{l1:Uv}{sgn:Uq->Int}(hp:Dp p)(h:∀p,Dp p->IF prog fid [pr p,.one (.sh l1)] [.oi (sgn p)]):Un 212 [pr p,.one (.fn fid [] [.sh l1])] [.oi (Tx sgn p.length p)]:=by
 have hpb:=Dp.pb hp;refine Fz func212 rfl ?_;refine Uh [.k (Hu hpb.t hpb.ln hpb.bd)] rfl ?_;refine Um (S:=Uq) 0 (λL1 s=>(0,.v (pr s))::L1) (λ_=>[]) (λs=>s.length) (λs=>Dp s/\Tx sgn s.length s=Tx sgn p.length p) p ⟨hp,rfl⟩ rfl rfl λr ⟨j1,j4⟩=>?_
 rw[<-j4];have jb:=Dp.pb j1;by_cases h0:r.length=0
 ·have e:=gG sgn h0;rw[e];exact Uj [.f (by simp;exact Qj h0)] rfl
 ·have hs:=h r j1;by_cases hz:sgn r=0
  ·have hlp:=Mn r;refine Uh [.t (by simp;omega),.k hs,.f (by simpa using hz),.k (I8 jb.ln jb.bd)] rfl ?_;exact rd (Gv r) (by omega) ⟨j1.der,by rw[<-gU sgn (by omega) hz]⟩ rfl
  ·rw[gW sgn (by omega) hz];exact Uj [.t (by simp;omega),.k hs,.t (by simpa using hz)] rfl
abbrev gmA(a:Tm)(p:Uq):Int:=Hl (Fx a) p
theorem SE{p:Uq}{a:Tm}(hp:Dp p)(ha:Va a):Un 172 [pr p,.agg (ta a)] [.oi (gmA a p)] :=
 Uk func172 rfl [.k (Qoj (sgn:=Fx a) hp λ_ h=>Qyu h ha)] rfl
theorem uS{t:Tm}{a b:Pt}{ps:Ur}(hps:∀p∈ps,Dp p)(ht:Va t)(hl:ps.length<1000):Un 247 [.agg (ta t),.agg (Ff a),.agg (Ff b),.one (.row (Pn ps))] [.one (.bool (Ea (Fx t) a b ps))]:=by
 refine Fz func247 rfl ?_;have hpl:(Pn ps).length=ps.length:=by simp[Pn]
 refine Uh [] rfl ?_;refine Um (S:=Nat) 3 (λL1 i=>(13,.v (.oi i))::L1) (λ_=>[.blk 189 (ta t),.blk 41 (Ff a),.blk 41 (Ff b)]) (λi=>ps.length-i) (λi=>i<=ps.length/\Ea (Fx t) a b (ps.drop i)=Ea (Fx t) a b ps) 0 ⟨Qh _,rfl⟩ rfl rfl λi ⟨hi,he⟩=>?_
 rw[<-he];by_cases hlt:i<ps.length
 ·obtain⟨p,hp⟩:=gxE (l:=ps) (i:=i) hlt;have hd:ps.drop i=p::ps.drop (i+1):=by
   rw[Zq hlt];rw[Qe hlt]at hp;injection hp with hp;rw[hp]
  have hpb:=hps p (Qc hp);rw[hd]at he ⊢;by_cases h0:0<p.length
  ·exact Uj [.t (by simp[hpl];omega),.x (Rt hp),.t (by simp;omega),.k (SE hpb ht)] rfl (by simp only[Ea];rw[if_pos h0]) trivial
  ·refine Ui [.t (by simp[hpl];omega),.x (Rt hp),.f (by simp;exact Qj (by omega))] rfl ?_;exact rd (i+1) (by omega) ⟨hlt,by simp only[Ea];rw[if_neg h0]⟩ rfl
 ·have hd:ps.drop i=[]:=Yw (by omega);rw[hd];exact Uj [.f (by simp[hpl];omega)] rfl
structure Sc(k:Crv):Prop where
 n:YZ k
 c:Cs 128 3 k
theorem Sc.cb{k:Crv}(h:Sc k):Cb k:=h.c.mono (by omega) (by omega)
theorem Ml{a b:Crv}(ha:Sc a)(hb:Sc b):Cp (Gd a b):=by
 refine⟨Fy _ _,?_,U7 (Dw (Gj hb.c.x ha.c.d) (Gj ha.c.x hb.c.d)) (by omega)⟩;have:=Pm (Fv b.x a.d) (Fv a.x b.d);have:=Fp b.x a.d;have:=Fp a.x b.d;have:=ha.c.lx;have:=hb.c.lx;unfold Gd;omega
theorem Mk{a b:Crv}(ha:Sc a)(hb:Sc b):Cp (Gb a b):=by
 refine⟨Fy _ _,?_,U7 (Dw (Gj hb.c.y ha.c.d) (Gj ha.c.y hb.c.d)) (by omega)⟩;have:=Pm (Fv b.y a.d) (Fv a.y b.d);have:=Fp b.y a.d;have:=Fp a.y b.d;have:=ha.c.ly;have:=hb.c.ly;unfold Gb;omega
theorem Qno{a b:Pt}{t:Tm}(ha:Sc a.c)(hb:Sc b.c)(ht:Va t):Un 204 [.agg (Ff a),.agg (Ff b),.agg (ta t)] [.one (.bool (Ce (Fx t) a b))] :=
 Uk func204 rfl [.k (UR hb.n ha.n hb.cb ha.cb),.k (US hb.n ha.n hb.cb ha.cb),.k (uS (t:=t) (a:=a) (b:=b) (ps:=[Gb b.c a.c,Gd b.c a.c]) (λp hp=>by
  simp at hp;rcases hp with rfl|rfl
  ·exact(Mk hb ha).dp
  ·exact(Ml hb ha).dp) ht (show 2<1000 by decide))] rfl
theorem Qfg{a b:Pt}{t:Tm}(ha:Sc a.c)(hb:Sc b.c)(ht:Va t):Un 203 [.agg (Ff a),.agg (Ff b),.agg (ta t)] [.one (.bool (Tv (Fx t) a b))] :=
 Uk func203 rfl [.k (US ha.n hb.n ha.cb hb.cb),.k (UR ha.n hb.n ha.cb hb.cb),.k (uS (t:=t) (a:=a) (b:=b) (ps:=[Gd a.c b.c,Gb a.c b.c]) (λp hp=>by
  simp at hp;rcases hp with rfl|rfl
  ·exact(Ml ha hb).dp
  ·exact(Mk ha hb).dp) ht (show 2<1000 by decide))] rfl
theorem Qts(q:Rat){P:Prop}(h:(tq q).point=false):P:=by
 have e:(tq q).point=true:=M8.2 Qp;rw[e]at h;cases h
theorem Qwf(q:Rat):lim (tq q)=3300000:=by unfold lim;rw[if_pos (M8.2 Rat.le_refl)]
theorem SG{q:Rat}(hq:Qs 1640000 q):Va (tq q):=by
 have hd:=q.den_nz;refine⟨.inl ⟨rfl,?_⟩,Qbi q,by show 2<=9;omega,by show 2<=2;omega,Qyh (hq.mono (by omega)),Qts q,Qts q,q.den,q.num.natAbs+1,0,?_,?_,by omega,?_⟩
 ·have e:(q.num:Rat)=q*(q.den:Rat):=by
   have:(q.num:Rat) / (((q.den:Int)):Rat)=q:=by rw[Rh,Z6]
   have h2:(q.num:Rat) / (q.den:Rat)*(q.den:Rat)=q.num:=Zl (by have:=Orq.nat_pos q.den_pos;grind);rw[show(q.num:Rat) / (q.den:Rat)=q from this]at h2;exact h2.symm
  show Fa [-q.num,(q.den:Int)] q=0;simp only[Fa];rw[Vn,e,show(((q.den:Int)):Rat)=(q.den:Rat) from rfl];grind
 all_goals first|(have h1:Fg (q.den:Int)<=1640000:=hq.2;have h2:Fg ((q.num.natAbs+1:Nat):Int)<=1640001:=Qdk hq.1;rw[Qwf];omega)|skip
 all_goals
  refine⟨⟨q.num,?_⟩,?_,q.den_pos⟩
  ·rw[Ve,Ye];have:(q.num:Rat) / (((q.den:Int)):Rat)=q:=by rw[Rh,Z6]
   have h2:(q.num:Rat) / (q.den:Rat)*(q.den:Rat)=q.num:=Zl (by have:=Orq.nat_pos q.den_pos;grind);rw[show(q.num:Rat) / (q.den:Rat)=q from this]at h2;exact h2
  ·have h1:Fl q<=Fl (q.num:Rat):=by
    have e:(q.num:Rat)=q*(q.den:Rat):=by
     have:(q.num:Rat) / (((q.den:Int)):Rat)=q:=by rw[Rh,Z6]
     have h2:(q.num:Rat) / (q.den:Rat)*(q.den:Rat)=q.num:=Zl (by have:=Orq.nat_pos q.den_pos;grind);rw[show(q.num:Rat) / (q.den:Rat)=q from this]at h2;exact h2.symm
    rw[e,Iq];have hd1:(1:Rat)<=(q.den:Rat):=by
     have:((1:Nat):Rat)<=(q.den:Rat):=Zn.2 q.den_pos;exact this
    have e2:Fl (q.den:Rat)=(q.den:Rat):=by unfold Fl;rw[if_neg (by grind)]
    rw[e2];have:=Cn (a:=Fl q) (c:=1) (Hz q) Qp (by decide) hd1;grind
   rw[S7]at h1;refine Zk h1 (Zn.2 (by omega))
theorem YS{p q:Uq}(hp:Cp p)(hq:Cp q):Cp (Ly p q):=by unfold Ly;split <;> assumption
theorem eL{a b:Pt}{t:Tm}(ha:Sc a.c)(hb:Sc b.c)(ht:Va t):Un 167 [.oi 1,.agg (ta t),.one (.row [Ff a,Ff b])] [.agg (L9 (ZZ (Fx t) a b)),.oi 0]:=by
 have h1:=Ml ha hb;have h2:=Mk ha hb;refine Fz func167 rfl ?_;refine Uh [.k Qcl,.f rfl] rfl ?_;refine Um (S:=Nat) 3 (λL1 i=>(22,.v (.oi i))::L1) (λi=>[.blk 189 (ta t),.blk 126 zCt,.blk 126 [.int .i64 1,.int .i64 (if 1<=i then a.id else 0),.int .i64 (if 2<=i then b.id else 0),.int .i64 0,.int .i64 0,.nils,.int .i64 0]]) (λi=>2-i) (λi=>i<=2) 0 (Qh _) rfl rfl λi hi=>?_
 rcases(show i=0\/i=1\/i=2 by omega)with rfl|rfl|rfl
 ·refine Uh [.t rfl,.x (i:=0) (xs:=Ff a) rfl,.i 0] rfl ?_ (by simp[U5]);exact rd 1 (by omega) (by omega) rfl
 ·refine Uh [.t rfl,.x (i:=1) (xs:=Ff b) rfl,.i 1] rfl ?_ (by simp[U5]);exact rd 2 (by omega) (by omega) rfl
 ·exact Uj [.f rfl,.t rfl,.x (i:=0) (xs:=Ff a) rfl,.x (i:=1) (xs:=Ff b) rfl,.k (US ha.n hb.n ha.cb hb.cb),.x (i:=0) (xs:=Ff a) rfl,.x (i:=1) (xs:=Ff b) rfl,.k (UR ha.n hb.n ha.cb hb.cb),.k uH,.k (SE (YS h1 h2).dp ht)] rfl
end Orr
namespace Orr
variable{α:Type}
def Eb(lt:α->α->Bool)(out:List α)(x:α):Nat->Nat
 | 0=>0
 |
  k+1=>match out[k]? with
  |some y=>if lt x y=true then Eb lt out x k else k+1
  |none=>k+1
theorem vD(lt:α->α->Bool)(out:List α)(x:α):∀k,Eb lt out x k<=k
 | 0=>Qk _
 |
  k+1=>by
  simp only[Eb]
  split
  ·split
   ·exact Nat.le_succ_of_le (vD lt out x k)
   ·exact Qk _
  ·exact Qk _
theorem Qaq{lt:α->α->Bool}{out:List α}{x y:α}{k:Nat}(hx:out[k]? = some y)(h:lt x y=true):Eb lt out x (k+1)=Eb lt out x k:=by
 simp only[Eb,hx,h,if_true]
theorem tR{lt:α->α->Bool}{out:List α}{x y:α}{k:Nat}(hx:out[k]? = some y)(h:lt x y=false):Eb lt out x (k+1)=k+1:=by
 simp[Eb,hx,h]
def Lz(lt:α->α->Bool)(out:List α)(x:α):List α:=out.take (Eb lt out x out.length)++x::out.drop (Eb lt out x out.length)
theorem Qje(lt:α->α->Bool)(out:List α)(x:α):(Lz lt out x).length=out.length+1:=by
 have:=vD lt out x out.length;simp[Lz];omega
theorem FM{lt:α->α->Bool}{out:List α}{x y:α}:y∈Lz lt out x↔y=x\/y∈out:=by
 have h:y∈out↔y∈out.take (Eb lt out x out.length)\/y∈out.drop (Eb lt out x out.length):=by
  rw[<-Qq,Zi]
 simp only[Lz,Qq,Qm,h];constructor
 ·rintro (h|h|h)
  ·exact .inr (.inl h)
  ·exact .inl h
  ·exact .inr (.inr h)
 ·rintro (h|h|h)
  ·exact .inr (.inl h)
  ·exact .inl h
  ·exact .inr (.inr h)
def Ei(lt:α->α->Bool)(l:List α):List α:=l.foldl (Lz lt) []
theorem lJ(lt:α->α->Bool)(l:List α)(x:α):Ei lt (l++[x])=Lz lt (Ei lt l) x:=by simp[Ei,Vr]
theorem lV{lt:α->α->Bool}{l:List α}{i:Nat}{x:α}(h:l[i]? = some x):Ei lt (l.take (i+1))=Lz lt (Ei lt (l.take i)) x:=by
 rw[Z3,h];exact lJ _ _ _
theorem LF(lt:α->α->Bool):∀(l acc:List α),(l.foldl (Lz lt) acc).length=acc.length+l.length
 | [],acc=>by simp
 |c::l,acc=>by simp only[Z7];rw[LF lt l (Lz lt acc c),Qje];simp;omega
theorem xP(lt:α->α->Bool)(l:List α):(Ei lt l).length=l.length:=by unfold Ei;rw[LF];simp
theorem WY(lt:α->α->Bool):∀(l acc:List α) {y:α},y∈l.foldl (Lz lt) acc↔y∈l\/y∈acc
 | [],acc,y=>by simp
 |
  c::l,acc,y=>by
  simp only[Z7];rw[WY lt l,FM,Qm];constructor
  ·rintro (h|h|h)
   ·exact .inl (.inr h)
   ·exact .inl (.inl h)
   ·exact .inr h
  ·rintro ((h|h)|h)
   ·exact .inr (.inl h)
   ·exact .inl h
   ·exact .inr (.inr h)
theorem Qed{lt:α->α->Bool}{l:List α}{y:α}:y∈Ei lt l↔y∈l:=by
 unfold Ei;rw[WY];simp
end Orr
namespace Orr
open Go Orq
structure Wt where
 c:Ct
 known:Bool
 fails:Option Tm
def f0:Option Tm->LV|none=>.row []|some t=>pl t.p
def f1:Option Tm->LV|none=>.bool false|some t=>sg t.lo.num
def f2:Option Tm->LV|none=>.row []|some t=>mg t.lo.num
def f3:Option Tm->LV|none=>.bool false|some t=>sg (t.lo.den:Int)
def f4:Option Tm->LV|none=>.row []|some t=>mg (t.lo.den:Int)
def f5:Option Tm->LV|none=>.bool false|some t=>sg t.hi.num
def f6:Option Tm->LV|none=>.row []|some t=>mg t.hi.num
def f7:Option Tm->LV|none=>.bool false|some t=>sg (t.hi.den:Int)
def f8:Option Tm->LV|none=>.row []|some t=>mg (t.hi.den:Int)
abbrev fl(o:Option Tm):Uv:=[f0 o,f1 o,f2 o,f3 o,f4 o,f5 o,f6 o,f7 o,f8 o]
abbrev wl(w:Wt):Uv:=[.int .i64 w.c.kind,.int .i64 w.c.i0,.int .i64 w.c.i1,.int .i64 w.c.i2,.int .i64 w.c.i3,pl w.c.p,.int .i64 w.c.want,.bool w.known,.bool w.fails.isSome,f0 w.fails,f1 w.fails,f2 w.fails,f3 w.fails,f4 w.fails,f5 w.fails,f6 w.fails,f7 w.fails,f8 w.fails]
def Da(l:List Wt):Uw:=l.map λw=>wl w
theorem H7{l:List Wt}{i:Nat}{w:Wt}(h:l[i]? = some w):(Da l)[i]? = some (wl w):=Hm h
theorem S5(l:List Wt):(Da l).length=l.length:=by simp[Da]
structure Cr where
 now:Tm
 l:List Wt
 ev:Int
abbrev Ho(c:Cr)(r0 r1:Uw):Uv:=.bool true::pl c.now.p::sg c.now.lo.num::mg c.now.lo.num::sg (c.now.lo.den:Int)::mg (c.now.lo.den:Int)::sg c.now.hi.num::mg c.now.hi.num::sg (c.now.hi.den:Int)::mg (c.now.hi.den:Int)::.row (Da c.l)::.int .i64 c.ev::[.row r0,.row r1]
structure WtOk(w:Wt):Prop where
 p:Cp w.c.p
 f:∀t,w.fails=some t->Va t
structure CrOk(c:Cr):Prop where
 n:Va c.now
 l:∀w∈c.l,WtOk w
 k:c.l.length<=1000
def sP(a b:Ct):Bool:=decide ([a.kind,a.i0,a.i1,a.i2,a.i3]=[b.kind,b.i0,b.i1,b.i2,b.i3])
def fresh(x:Ct):Wt:=⟨x,false,none⟩
def Ck:List Wt->Ct->Tm->Option Wt
 | [],x,_=>some (fresh x)
 |
  w::l,x,at_=>if sP w.c x=true/\w.known=true/\w.c.p=x.p then
   match w.fails with
   |none=>some ⟨x,true,none⟩
   |some t=>(UD t at_).bind λc=>if 0<c then some ⟨x,true,some t⟩else Ck l x at_
  else Ck l x at_
def Tp(old:List Wt)(at_:Tm):List Ct->Option (List Wt)
 | []=>some []
 |x::l=>(Ck old x at_).bind λw=>(Tp old at_ l).bind λr=>some (w::r)
end Orr
namespace Orr
open Go Go.Proofs Tryz Orq
set_option maxRecDepth 10000
theorem QU{T:Nat}{c:Cr}{r0 r1:Uw}(hc:Va c.now):U8 prog 376 [.one (.ow 0 0)] [.blk T (Ho c r0 r1)] [.agg (ta c.now)] [.blk T (Ho c r0 r1)]:=by
 have cl:=Pf (b:=c.now) (l:=[]) hc.tb (λt ht=>by cases ht) (by decide) rfl;refine Fz func376 rfl ?_;exact Ul [] [0] [.f rfl,.k cl] rfl
theorem Qum{T:Nat}{c:Cr}{r0 r1:Uw}{x:Ct}{at_:Tm}{w:Wt}(hc:CrOk c)(hx:Cp x.p)(ha:Va at_)(h:Ck c.l x at_=some w):U8 prog 195 [.one (.ow 0 0),.agg (L9 x),.agg (ta at_)] [.blk T (Ho c r0 r1)] [.agg (wl w)] [.blk T (Ho c r0 r1)]:=by
 have hk:=hc.k;have hw:=S5 c.l;refine Fz func195 rfl ?_;refine Uh [] rfl ?_;refine Um (S:=Nat) 4 (λL1 i=>(14,.v (.oi i))::L1) (λ_=>[.blk T (Ho c r0 r1),.blk 126 (L9 x),.blk 189 (ta at_),.blk 291 [.int .i64 0,.int .i64 0,.int .i64 0,.int .i64 0,.int .i64 0,.nils,.int .i64 0,.bool false,.bool false,.nils,.bool false,.nils,.bool false,.nils,.bool false,.nils,.bool false,.nils]]) (λi=>c.l.length-i) (λi=>i<=c.l.length/\Ck (c.l.drop i) x at_=some w) 0 ⟨Qh _,h⟩ rfl rfl λi ⟨hi,hf⟩=>?_
 by_cases hlt:i<c.l.length
 ·obtain⟨v,hv⟩:=gxE (l:=c.l) (i:=i) hlt;have hdr:c.l.drop i=v::c.l.drop (i+1):=by
   rw[Zq hlt];congr 1;have:=Qe hlt;rw[hv]at this;injection this with this;exact this.symm
  have hvo:=hc.l v (Qc hv);rw[hdr]at hf;simp only[Ck]at hf;have hl:decide ((i:Int)<((Da c.l).length:Int))=true:=by simp[hw];omega
  by_cases A:sP v.c x=true
  ·have A':(!decide ([v.c.kind,v.c.i0,v.c.i1,v.c.i2,v.c.i3]=[x.kind,x.i0,x.i1,x.i2,x.i3]))=false:=by
    unfold sP at A;rw[A];rfl
   by_cases B:v.known=true
   ·have B':(!v.known)=false:=by rw[B];rfl
    have cs:=MD (p:=v.c.p) (q:=x.p) (Dp.pb hvo.p.dp).ln (Dp.pb hx.dp).ln (Dp.pb hvo.p.dp).bd (Dp.pb hx.dp).bd;rw[hvo.p.t,hx.t]at cs;by_cases C:v.c.p=x.p
    ·have C':(!decide (v.c.p=x.p))=false:=by simp[C]
     rw[if_pos ⟨A,B,C⟩]at hf;obtain⟨vc,vk,vf⟩:=v;cases vf with
     |
      none =>
      injection hf with hf;subst hf;exact Ul [] [0] [.t hl,.x (H7 hv),.g 24 false A',.g 29 false B',.k cs,.f C',.g 41 true rfl,.t rfl] rfl
     |
      some t =>
      obtain⟨r,r1',hf⟩:=Qd.1 hf;have cc:=KP (hvo.f t rfl).tb ha.tb r1';by_cases D:0<r
      ·rw[if_pos D]at hf;injection hf with hf;subst hf;exact Ul [] [0] [.t hl,.x (H7 hv),.g 24 false A',.g 29 false B',.k cs,.f C',.g 41 false rfl,.k cc,.t (by simpa using D)] rfl
      ·rw[if_neg D]at hf;refine Ui [.t hl,.x (H7 hv),.g 24 false A',.g 29 false B',.k cs,.f C',.g 41 false rfl,.k cc,.f (by simpa using D)] rfl ?_;exact rd (i+1) (by omega) ⟨hlt,hf⟩ rfl
    ·rw[if_neg λh=>C h.2.2]at hf;refine Ui [.t hl,.x (H7 hv),.g 24 false A',.g 29 false B',.k cs,.t (by simp[C])] rfl ?_;exact rd (i+1) (by omega) ⟨hlt,hf⟩ rfl
   ·rw[if_neg λh=>B h.2.1]at hf;refine Ui [.t hl,.x (H7 hv),.g 24 false A',.g 29 true (by simpa using B),.t rfl] rfl ?_;exact rd (i+1) (by omega) ⟨hlt,hf⟩ rfl
  ·rw[if_neg λh=>A h.1]at hf;refine Ui [.t hl,.x (H7 hv),.g 24 true (by rw[show decide ([v.c.kind,v.c.i0,v.c.i1,v.c.i2,v.c.i3]=[x.kind,x.i0,x.i1,x.i2,x.i3])=false from Ww.2 A];rfl),.g 29 true rfl,.t rfl] rfl ?_;exact rd (i+1) (by omega) ⟨hlt,hf⟩ rfl
 ·obtain rfl:i=c.l.length:=by omega
  rw[Yu]at hf;simp only[Ck]at hf;injection hf with hf;subst hf;exact Ul [] [0] [.f (by simp[hw])] rfl
theorem XC{old:List Wt}{at_:Tm}:∀{l:List Ct} {ws:List Wt},Tp old at_ l=some ws->ws.length=l.length/\∀(i:Nat) (x:Ct),l[i]? = some x->∃w,Ck old x at_=some w/\ws[i]? = some w
 | [],ws,h=>by injection h with h;subst h;exact⟨rfl,λi x hx=>by simp at hx⟩
 |
  y::l,ws,h=>by
  simp only[Tp]at h;obtain⟨w,hw,h⟩:=Qd.1 h;obtain⟨r,hr,h⟩:=Qd.1 h;injection h with h;subst h;obtain⟨a,b⟩:=XC hr;refine⟨by simp[a],λi x hx=>?_⟩;cases i with
  |zero=>injection hx with hx;subst hx;exact⟨w,hw,rfl⟩
  |succ i=>exact b i x (by simpa using hx)
theorem Ac{l:List Wt}{i:Nat}{w:Wt}(h:l[i]? = some w):Da (l.take (i+1))=Da (l.take i)++[wl w]:=by
 rw[Z3,h];simp[Da]
theorem UT{T:Nat}{c:Cr}{r0 r1:Uw}{at_:Tm}{l:List Ct}{ws:List Wt}(hc:CrOk c)(ha:Va at_)(hl:∀x∈l,Cp x.p)(hn:l.length≤1000)(h:Tp c.l at_ (Ga l)=some ws):U8 prog 161 [.one (.ow 0 0),.agg (ta at_),.one (.bool true),.one (.row (Ft l))] [.blk T (Ho c r0 r1)] [] [.blk T (Ho ⟨at_,ws,c.ev⟩ r0 r1)]:=by
 have cs:=jG (l:=l) (λx hx=>Dp.pb (hl x hx).dp) (by omega);have cl:=Pf (b:=at_) (l:=[]) ha.tb (λt ht=>by cases ht) (by decide) rfl;obtain⟨h1,h2⟩:=XC h;have hs:(Ga l).length=l.length:=Dv l;refine Fz func161 rfl ?_;refine Uh [.o 8 291 18,.k cs] rfl ?_;refine Um (S:=Nat) 3 (λL1 i=>(15,.v (.oi i))::(8,.v (.one (.orow 2 18 none)))::L1) (λi=>[.blk T (Ho c r0 r1),.blk 189 (ta at_),.row false 291 18 (Da (ws.take i))]) (λi=>ws.length-i) (λi=>i<=ws.length) 0 (Qh _) rfl rfl λi hi=>?_
 by_cases hlt:i<ws.length
 ·obtain⟨x,hx⟩:=gxE (l:=(Ga l)) (i:=i) (by omega);obtain⟨w,hw,hw'⟩:=h2 i x hx;have hm:∀y∈[wl w],y.length=18:=λy hy=>by rw[Ql.1 hy];rfl
  have hlt':decide ((i:Int)<((Ft (Ga l)).length:Int))=true:=by simp[Ft];omega
  have ck:=Qum (T:=T) (r0:=r0) (r1:=r1) hc (hl x (VU (Qc hx))) ha hw;have hg:=Ac hw';obtain⟨wc,wk,wf⟩:=w;cases wf <;> (refine go tt [.t hlt',.x (WX hx),.t rfl,.c [0] ck,.s (sz:=18) hm] rfl (by simp[U5,S5];omega) ?_;exact rd (i+1) (by omega) hlt (by rw[hg];rfl))
 ·obtain rfl:i=ws.length:=by omega
  rw[Q7];have hge:decide ((ws.length:Int)<((Ft (Ga l)).length:Int))=false:=by simp[Ft];omega
  exact Ul [] [0] [.f hge,.p 2,.k cl] rfl
abbrev nR(r0 r1:LV):Uv:=[.bool false,.nils,.bool false,.nils,.bool false,.nils,.bool false,.nils,.bool false,.nils,.nils,.int .i64 0,r0,r1]
theorem Qnw{T:Nat}{r0 r1:Uw}{at_:Tm}{l:List Ct}(ha:Va at_)(hl:∀x∈l,Cp x.p)(hn:l.length≤1000):U8 prog 161 [.one (.ow 0 0),.agg (ta at_),.one (.bool false),.one (.row (Ft l))] [.blk T (nR (.row r0) (.row r1))] [] [.blk T (Ho ⟨at_,(Ga l).map fresh,0⟩ r0 r1)]:=by
 have cs:=jG (l:=l) (λx hx=>Dp.pb (hl x hx).dp) (by omega);have cl:=Pf (b:=at_) (l:=[]) ha.tb (λt ht=>by cases ht) (by decide) rfl;have hs:(Ga l).length=l.length:=Dv l;refine Fz func161 rfl ?_;refine Uh [.o 8 291 18,.k cs] rfl ?_;refine Um (S:=Nat) 3 (λL1 i=>(15,.v (.oi i))::(8,.v (.one (.orow 2 18 none)))::L1) (λi=>[.blk T (nR (.row r0) (.row r1)),.blk 189 (ta at_),.row false 291 18 (Da (((Ga l).map fresh).take i))]) (λi=>l.length-i) (λi=>i<=l.length) 0 (Qh _) rfl rfl λi hi=>?_
 by_cases hlt:i<l.length
 ·obtain⟨x,hx⟩:=gxE (l:=(Ga l)) (i:=i) (by omega);have hm:∀y∈[wl (fresh x)],y.length=18:=λy hy=>by rw[Ql.1 hy];rfl
  have hlt':decide ((i:Int)<((Ft (Ga l)).length:Int))=true:=by simp[Ft];omega
  have hg:=Ac (l:=(Ga l).map fresh) (i:=i) (w:=fresh x) (by rw[Zb,hx];rfl);refine go tt [.t hlt',.x (WX hx),.z 20,.f rfl,.s (sz:=18) hm] rfl (by simp[U5,S5];omega) ?_;exact rd (i+1) (by omega) hlt (by rw[hg];rfl)
 ·obtain rfl:i=l.length:=by omega
  rw[Qn (by simp;omega)];have hge:decide ((l.length:Int)<((Ft (Ga l)).length:Int))=false:=by simp[Ft];omega
  exact Ul [] [0] [.f hge,.p 2,.k cl] rfl
theorem YV{T:Nat}{r0 r1:Uw}{at_:Tm}{l:List Ct}(ha:Va at_)(hl:∀x∈l,Cp x.p)(hn:l.length≤1000):U8 prog 121 [.one (.ow 0 0),.agg (ta at_),.one (.row (Ft l))] [.blk T (nR (.row r0) (.row r1))] [] [.blk T (Ho ⟨at_,(Ga l).map fresh,0⟩ r0 r1)]:=by
 have cl:=Qnw (T:=T) (r0:=r0) (r1:=r1) ha hl hn;refine Fz func121 rfl ?_;exact Ul [] [0] [.g 12 false rfl,.c [0] cl] rfl
theorem eB{a b:Bool}(h:a=b):TV.one (LV.bool a)=.one (.bool b):=h ▸ rfl
theorem YK{T:Nat}{c:Cr}{r0 r1:Uw}{at_:Tm}{l:List Ct}{ws:List Wt}{k:Int}(hc:CrOk c)(ha:Va at_)(hk:UD at_ c.now=some k)(h0:0≤k)(hl:∀x∈l,Cp x.p)(hn:l.length≤1000)(h:Tp c.l at_ (Ga l)=some ws):U8 prog 121 [.one (.ow 0 0),.agg (ta at_),.one (.row (Ft l))] [.blk T (Ho c r0 r1)] [] [.blk T (Ho ⟨at_,ws,c.ev⟩ r0 r1)]:=by
 have cl:=UT (T:=T) (r0:=r0) (r1:=r1) hc ha hl hn h;have cc:=KP ha.tb hc.n.tb hk;refine Fz func121 rfl ?_;exact Ul [] [0] [.g 12 true rfl,.k cc,.r 20 (eB (show decide (0<=k)=true by simpa using h0)),.c [0] cl] rfl
theorem NR:∀{k:Nat} {g:Uq} {l:Ur},Pb g->TW k g=some l->l.length≤k/\∀p∈l,Pb p
 | 0,_,_,_,h=>by cases h
 |
  k+1,g,l,hg,h=>by
  simp only[TW]at h
  split at h
  ·injection h with h;subst h;exact⟨by simp,λp hp=>by cases hp⟩
  ·obtain⟨d,hd,h⟩:=Qd.1 h;obtain⟨rfl,hdp⟩:=ES hd;obtain⟨x,hx,h⟩:=Qd.1 h;obtain⟨q,hq,h⟩:=Qd.1 h;obtain⟨r,hr,h⟩:=Qd.1 h;injection h with h;subst h;obtain⟨i1,i2⟩:=NR (TB hg hdp hx) hr;refine⟨by simp;exact i1,λp hp=>?_⟩;rcases Qm.1 hp with rfl|hp
   ·exact cD hq
   ·exact i2 p hp
theorem Qgx{a:Uq}{l:Ur}(ha:Pb a)(h:TW 66 (Fj a)=some l):Un 389 [pr a] [.one (.row (Pn l))]:=by
 have hp:=Tf ha;refine Fz func389 rfl ?_;refine Uh [.o 3 34 1,.k (Ic ha)] rfl ?_;refine Um (S:=Nat×Ur×Uq) 1 (λL1 s=>(4,.v (pr s.2.2))::(3,.v (.one (.orow 0 1 none)))::L1) (λs=>[.row false 34 1 (Pn s.2.1)]) (λs=>s.1) (λs=>Pb s.2.2/\s.2.1.length+s.1<=66/\∃m,TW s.1 s.2.2=some m/\s.2.1++m=l) (66,[],Fj a) ⟨hp,Qk _,l,h,rfl⟩ rfl rfl λ⟨k,out,g⟩ ⟨j1,j2,m,j3,j4⟩=>?_
 dsimp only at j1 j2 j3 j4 ⊢;cases k with
 |zero=>cases j3
 |
  succ k =>
  simp only[TW]at j3
  split at j3
  ·rename_i h0;injection j3 with j3;subst j3;rw[Zv]at j4;subst j4;exact Uj [.k (Me _),.f (by simp;omega)] rfl
  ·rename_i h0;obtain⟨d,hd,j3⟩:=Qd.1 j3;obtain⟨rfl,hdp⟩:=ES hd;obtain⟨x,hx,j3⟩:=Qd.1 j3;obtain⟨q,hq,j3⟩:=Qd.1 j3;obtain⟨r,hr,j3⟩:=Qd.1 j3;injection j3 with j3;subst j3;have hxp:=TB j1 hdp hx;refine go tt [.k (Me _),.t (by simp;omega),.k (I8 j1.ln j1.bd),.k (aP j1 hdp hx),.k (Qg9 j1 hxp hq),.s (sz:=1) (l:=[[pl q]]) (λc hc=>by rw[Ql.1 hc];rfl)] rfl (by simp[U5,E9];omega) ?_;exact rd (k,out++[q],x) (by dsimp only;omega) ⟨hxp,by simp;omega,r,hr,by rw[<-j4];simp⟩ (by rw[EC];rfl)
theorem DO:∀{l r:Ur},IS l=some r->r.length=l.length/\∀i w,l[i]? = some w->(match l[i+1]? with|some v=>∃f,JH w v=some f/\r[i]? = some f|none=>r[i]? = some w)
 | [],r,h=>by injection h with h;subst h;exact⟨rfl,λi w hw=>by simp at hw⟩
 |
  [w],r,h=>by
  injection h with h;subst h;refine⟨rfl,λi x hx=>?_⟩;cases i with
  |zero=>simpa using hx
  |succ i=>simp at hx
 |
  w::v::l,r,h=>by
  simp only[IS]at h;obtain⟨f,hf,h⟩:=Qd.1 h;obtain⟨s,hs,h⟩:=Qd.1 h;injection h with h;subst h;obtain⟨i1,i2⟩:=DO hs;refine⟨by simp[i1],λi x hx=>?_⟩;cases i with
  |
   zero =>
   injection hx with hx;subst hx;exact⟨f,hf,rfl⟩
  |
   succ i =>
   have:=i2 i x (by simpa using hx);simpa using this
theorem yU:∀{l r:Ur},(∀p∈l,Pb p)->IS l=some r->∀p∈r,Pb p
 | [],r,_,h=>by injection h with h;subst h;exact λp hp=>by cases hp
 | [w],r,hl,h=>by injection h with h;subst h;exact hl
 |
  w::v::l,r,hl,h=>by
  simp only[IS]at h;obtain⟨f,hf,h⟩:=Qd.1 h;obtain⟨s,hs,h⟩:=Qd.1 h;injection h with h;subst h;intro p hp;rcases Qm.1 hp with rfl|hp
  ·exact cD hf
  ·exact yU (λp hp=>hl p (Qg _ hp)) hs p hp
theorem Qb6{a:Uq}{l r:Ur}(ha:Pb a)(h:TW 66 (Fj a)=some l)(hr:IS l=some r):Un 385 [pr a] [.one (.row (Pn r))]:=by
 obtain⟨i1,i2⟩:=NR (Tf ha) h;obtain⟨j1,j2⟩:=DO hr;have hw:=E9 l;refine Fz func385 rfl ?_;refine go tt [.k (Qgx ha h),.i (Pn l).length,.i (Pn l).length] rfl (by simp[U5,hw];omega) ?_;rw[hw,Ak λi=>[pl (r.getD i [])]];refine Um (S:=Nat) 1 (λL1 k=>(14,.v (.oi k))::L1) (λk=>[.row false 34 1 (IW (λi=>[pl (r.getD i [])]) [.nils] l.length k)]) (λk=>l.length-k) (λk=>k<=l.length) 0 (Qh _) rfl rfl λk hk=>?_
 by_cases hlt:k<l.length
 ·obtain⟨w,hx⟩:=gxE (l:=l) (i:=k) hlt;have e:=QC (λi=>[pl (r.getD i [])]) [.nils] hlt;have hg:=j2 k w hx;by_cases h2:k+1<l.length
  ·obtain⟨v,hv⟩:=gxE (l:=l) (i:=k+1) h2;rw[hv]at hg;obtain⟨f,f1,f2⟩:=hg;have e2:r.getD k []=f:=by rw[Qi,f2];rfl
   rw[e2]at e;refine go tt [.t (by simp[hw];omega),.x (Rt hx),.i k,.t (by simp[hw];omega),.x (i:=k+1) (Rt hv),.k (Qg9 (i2 w (Qc hx)) (i2 v (Qc hv)) f1),.i k] rfl (by simp[U5,Im,hw];omega) ?_;rw[List.set_set,e];exact rd (k+1) (by omega) hlt rfl
  ·have hv:l[k+1]? = none:=Qw (by omega);rw[hv]at hg;have e2:r.getD k []=w:=by rw[Qi,hg];rfl
   rw[e2]at e;refine go tt [.t (by simp[hw];omega),.x (Rt hx),.i k,.f (by simp[hw];omega)] rfl (by simp[U5,Im,hw];omega) ?_;rw[e];exact rd (k+1) (by omega) hlt rfl
 ·obtain rfl:k=l.length:=by omega
  have e:IW (λi=>[pl (r.getD i [])]) [.nils] l.length l.length=Pn r:=by
   rw[QB,<-j1];refine Xo λi=>?_
   simp only[Pn,Zb];by_cases hi:i<r.length
   ·rw[X7 hi];simp[Qi,Qe hi]
   ·rw[Qw (by simpa using hi),Qw (by simpa using hi)];rfl
  rw[e];exact Uj [.f (by simp[hw])] rfl
theorem dQ{p:Uq}(tp:Fe p):Fj (Fj p)=Fj p:=by
 by_cases h:p.length=0
 ·have e:Fj p=[]:=by unfold Fj;rw[if_pos h]
  rw[e];rfl
 ·obtain⟨h1,h2,h3,h4,_⟩:=Mr tp h;have hc:Po (Fj p)=1:=by
   have h5:Po (Fj p)∣1:=h3 _ λk=>by
    by_cases hk:k<(Fj p).length
    ·rw[Qi,Qe hk];exact E8 _ (Xw hk)
    ·rw[Qi,Qw (by omega)];exact Int.dvd_zero _
   have h6:0<=Po (Fj p):=by unfold Po;omega
   exact Int.eq_one_of_dvd_one h6 h5
  have hf:∀q:Uq,0<Fu q->Hr q=Po q:=λq hq=>by unfold Hr;rw[if_neg (by omega)]
  have hf:=(hf _ h4).trans hc;have e0:∀q:Uq,q.length≠0->Fj q=De q (Hr q):=λq hq=>by unfold Fj;rw[if_neg hq]
  have e:=e0 (Fj p) (by omega);rw[hf]at e;rw[e];unfold De;have e2:(Fj p).map (· / (1:Int))=Fj p:=by
   conv=>rhs;rw[<-List.map_id (Fj p)]
   exact Xu λz _=>by simp
  rw[e2];exact h1
theorem Qbe(i:Nat):(i:Int).tmod 2=((i % 2:Nat):Int):=rfl
theorem Qus{a:Uq}(ha:Pb a)(h:(Fj a).length=0):Un 381 [pr a] [pr []] :=
 Uk func381 rfl [.k (Ic ha),.t (by simp[Qj h])] rfl
theorem YI:∀{l:Ur} {i:Nat} {p o:Uq},Pb p->(∀f∈l,Pb f)->GV i p l=some o->Pb o
 | [],i,p,o,hp,_,h=>by simp only[GV]at h;injection h with h;subst h;exact hp
 |
  f::l,i,p,o,hp,hl,h=>by
  simp only[GV]at h
  split at h
  ·obtain⟨q,hq,h⟩:=Qd.1 h;obtain⟨rfl,hq'⟩:=QT (H6 _ _) hq;exact YI hq' (λf hf=>hl f (Qg _ hf)) h
  ·exact YI hp (λf hf=>hl f (Qg _ hf)) h
theorem Qkn:Pb [1]:=⟨rfl,by decide,λz hz=>by rw[Ql.1 hz];decide⟩
theorem Qyz{a o:Uq}(ha:Pb a)(h:cI a=some o):Un 381 [pr a] [pr o]:=by
 unfold cI at h
 split at h
 ·rename_i h0;injection h with h;subst h;exact Qus ha h0
 rename_i h0;obtain⟨l,hl,h⟩:=Qd.1 h;obtain⟨fs,hf,h⟩:=Qd.1 h;have hpa:=Tf ha;have hl':TW 66 (Fj (Fj a))=some l:=by rw[dQ ha.t];exact hl
 obtain⟨i1,i2⟩:=NR (Tf ha) hl;have i3:=yU i2 hf;obtain⟨j1,_⟩:=DO hf;have hw:=E9 fs;have co:=eO (p:=[1]) (by decide) (λz hz=>by rw[Ql.1 hz];decide);rw[show trim [1]=[1] from rfl]at co;refine Fz func381 rfl ?_;refine Uh [.k (Ic ha),.f (by simpa using h0),.k co,.k (Qb6 hpa hl' hf)] rfl ?_ (by simp[U5]);refine Um (S:=Nat×Uq) 0 (λL1 s=>(16,.v (.oi (s.1:Int)))::(3,.v (pr s.2))::L1) (λ_=>[]) (λs=>fs.length-s.1) (λs=>s.1<=fs.length/\Pb s.2/\GV s.1 s.2 (fs.drop s.1)=some o) (0,[1]) ⟨Qh _,Qkn,h⟩ rfl rfl λ⟨i,p⟩ ⟨k1,k2,k3⟩=>?_
 dsimp only at k1 k2 k3 ⊢;by_cases hlt:i<fs.length
 ·obtain⟨f,hx⟩:=gxE (l:=fs) (i:=i) hlt;have hdr:fs.drop i=f::fs.drop (i+1):=by
   rw[Zq hlt];congr 1;have:=Qe hlt;rw[hx]at this;injection this with this;exact this.symm
  rw[hdr]at k3;simp only[GV]at k3;have pf:=i3 f (Qc hx);by_cases h2:i % 2=0
  ·rw[if_pos h2]at k3;obtain⟨q,hq,k3⟩:=Qd.1 k3;obtain⟨rfl,hq'⟩:=QT (H6 _ _) hq;refine Ui [.t (by simp[hw];omega),.x (Rt hx),.t (by rw[Qbe,h2];rfl),.k (KC k2.t pf.t (Z2 k2.l (by decide)) (Z2 pf.l (by decide)) k2.b pf.b (by decide))] rfl ?_;exact rd (i+1,Gl p f) (by dsimp only;omega) ⟨hlt,hq',k3⟩ rfl
  ·rw[if_neg h2]at k3;refine Ui [.t (by simp[hw];omega),.x (Rt hx),.f (by rw[Qbe,show i % 2=1 by omega];rfl)] rfl ?_;exact rd (i+1,p) (by dsimp only;omega) ⟨hlt,k2,k3⟩ rfl
 ·obtain rfl:i=fs.length:=by omega
  rw[Yu]at k3;simp only[GV]at k3;injection k3 with k3;subst k3;exact Uj [.f (by simp[hw])] rfl
theorem QL(z:Int):Fg (z.natAbs:Int)=Fg z:=by unfold Fg;simp
theorem Qgq{x y:LV}{z:Int}(hi:Gi x y z)(hs:Fg z<=4294967295):Un 386 [.agg [x,y]] [.agg (Hg (z.natAbs:Int))]:=by
 obtain⟨b,l,rfl,rfl,hl,rfl⟩:=hi;have e:(Fc false (val l))=((Fc b (val l)).natAbs:Int):=by rw[Ta];rfl
 rw[<-e];exact Uk func386 rfl [.k (KN hl (Qa (P6 hs) (by decide))),.k (P9 _ _)] rfl
theorem Qou{n d:Int}(h0:d≠0)(hn:Fg n<=4294967295)(hd:Fg d<=4294967295):Un 145 [.agg (Hg n),.agg (Hg d)] [.agg (rl (Rat.divInt n d)),.oi 0] :=
 Uk func145 rfl [.k (M4 (U6 d) hd),.k Dl,.f (by simpa using h0),.k (M4 (U6 n) hn),.k (XQ h0 hn hd)] rfl
theorem Qdp(l:Uq)(z:Int):most (l++[z])=if most l<z.natAbs then z.natAbs else most l:=by unfold most;rw[List.foldl_append];rfl
theorem oO{s:Nat}:∀{l:Uq},Bd s l->Fg (most l:Int)<=s:=λ{l}=>by
 suffices h:∀(l:Uq) (m:Nat),Bd s l->Fg (m:Int)<=s->Fg ((l.foldl (λm z=>if m<z.natAbs then z.natAbs else m) m:Nat):Int)<=s from λhb=>h l 0 hb (by simp[Fg,sz])
 intro l
 induction l with
 |nil=>exact λm _ h=>h
 |
  cons z l ih =>
  intro m hb hm;refine ih _ (λy hy=>hb y (Qg _ hy)) ?_;show Fg ((if m<z.natAbs then z.natAbs else m:Nat):Int)<=s
  split
  ·rw[QL];exact hb z (Qy ..)
  ·exact hm
def ozi:Option Nat->Uv
 |none=>[.bool false,.nils]
 |some m=>Hg (m:Int)
def ozr:Option Nat->Uv
 |none=>[.bool false,.row []]
 |some m=>Hg (m:Int)
theorem Qnq{p:Uq}(hp:Pb p)(h0:p.length≠0):Un 382 [pr p] [.agg (rl (Gz p)),.oi 0]:=by
 have hl:=hp.l;have hll:(p.take (p.length-1)).length=p.length-1:=by simp
 have hbt:Bd 16777216 (p.take (p.length-1)):=λz hz=>hp.b z (Qo hz)
 refine Fz func382 rfl ?_;refine Ui [.k (Hu hp.t hp.ln hp.bd),.f (by simpa using h0),.r 18 (eI (b:=((p.length-1:Nat):Int)) (by simp;omega)),.i (p.length-1)] rfl ?_;rw[<-Jw];refine Um (S:=Nat×Option Nat) 2 (λL1 s=>(21,.v (.oi (s.1:Int)))::L1) (λs=>[.blk 43 [.bool false,.nils,.bool false,.nils],.blk 37 (ozi s.2)]) (λs=>p.length-1-s.1) (λs=>s.1<=p.length-1/\most ((p.take (p.length-1)).take s.1)=s.2.getD 0) (0,none) ⟨Qh _,rfl⟩ rfl rfl λ⟨i,o⟩ ⟨j1,j2⟩=>?_
 dsimp only at j1 j2 ⊢;by_cases hlt:i<p.length-1
 ·obtain⟨z,hz⟩:=gxE (l:=(p.take (p.length-1))) (i:=i) (by omega);have bz:Fg z<=16777216:=hbt z (Qc hz);have hst:most ((p.take (p.length-1)).take (i+1))=if o.getD 0<z.natAbs then z.natAbs else o.getD 0:=by
   rw[Z3,hz];show most (_++[z])=_;rw[Qdp,j2]
  have ca:=Qgq (U6 z) (Qa bz (by decide));have hl1:decide ((i:Int)<(((p.take (p.length-1)).map Hg).length:Int))=true:=by simp;omega
  have bm:Fg ((o.getD 0:Nat):Int)<=16777216:=by rw[<-j2];exact oO λy hy=>hbt y (Qo hy)
  have hcm:Ld (z.natAbs:Int) ((o.getD 0:Nat):Int)>0↔o.getD 0<z.natAbs:=by unfold Ld;split <;> (try split) <;> omega
  have cc:Un 100 [.agg (Hg (z.natAbs:Int)),.agg (ozr o)] [.oi (Ld (z.natAbs:Int) ((o.getD 0:Nat):Int))]:=by
   cases o with
   |none=>exact RU (U6 _) QD (by rw[QL];omega) (by decide)
   |some m=>exact RU (U6 _) (U6 _) (by rw[QL];omega) (Qa bm (by decide))
  by_cases hc:o.getD 0<z.natAbs
  ·rw[if_pos hc]at hst;have hd:decide (Ld (z.natAbs:Int) ((o.getD 0:Nat):Int)>0)=true:=by simpa using hcm.2 hc
   cases o <;> (refine Ui [.t hl1,.x (Hm (f:=Hg) hz),.k ca,.k cc,.t hd] rfl ?_;exact rd (i+1,some z.natAbs) (by dsimp only;omega) ⟨hlt,hst⟩ rfl)
  ·rw[if_neg hc]at hst;have hd:decide (Ld (z.natAbs:Int) ((o.getD 0:Nat):Int)>0)=false:=by
    have:=mt hcm.1 hc;simpa using this
   cases o with
   |none=>refine Ui [.t hl1,.x (Hm (f:=Hg) hz),.k ca,.k cc,.f hd] rfl ?_;exact rd (i+1,none) (by dsimp only;omega) ⟨hlt,hst⟩ rfl
   |some m=>refine Ui [.t hl1,.x (Hm (f:=Hg) hz),.k ca,.k cc,.f hd] rfl ?_;exact rd (i+1,some m) (by dsimp only;omega) ⟨hlt,hst⟩ rfl
 ·obtain rfl:i=p.length-1:=by omega
  rw[Qn (by omega)]at j2;have bl:Fg (Fu p)<=16777216:=hp.b _ (EQ h0);have ln:((Fu p).natAbs:Int)≠0:=by have:=Er hp.t h0;omega
  have cl:=Dx hp.t hp.ln hp.bd;have ca:=Qgq (U6 (Fu p)) (Qa bl (by decide));have bm:Fg ((o.getD 0:Nat):Int)<=16777216:=by rw[<-j2];exact oO hbt
  have cd:Un 185 [.agg (Hg ((Fu p).natAbs:Int)),.agg (ozr o)] [.agg (Hg (((Fu p).natAbs:Int)+(most (p.take (p.length-1)):Int)))]:=by
   rw[j2];cases o with
   |none=>exact KD (U6 _) QD (by rw[QL];omega) (by decide)
   |some m=>exact KD (U6 _) (U6 _) (by rw[QL];omega) (Qa bm (by decide))
  have cm:=Qou (n:=((Fu p).natAbs:Int)+(most (p.take (p.length-1)):Int)) ln (Qa (QE _ _) (by rw[QL,j2];omega)) (by rw[QL];omega);have hf:decide (((p.length-1:Nat):Int)<(((p.take (p.length-1)).map Hg).length:Int))=false:=by simp
  cases o <;> exact Uj [.f hf,.k cl,.k ca,.k cd,.k cm] rfl
theorem Qsp{z:Int}:Un 364 [.agg (Hg z)] [.oi (Int.sign z)]:=by
 by_cases h0:z=0
 ·subst h0;exact Uk func364 rfl [.t (by simp[U9,Hd])] rfl
 ·have hl:(Gg z.natAbs).length≠0:=λh=>h0 (Qdm.1 h)
  have hl':decide (((lm (Gg z.natAbs)).length:Int)=0)=false:=by simpa[U9]using hl
  by_cases h1:z<0
  ·rw[J8 h1];exact Uk func364 rfl [.f hl',.t (by simpa using h1)] rfl
  ·rw[Yv (by omega)];exact Uk func364 rfl [.f hl',.f (by simpa using h1)] rfl
theorem Qfo{p:Uq}(hp:Pb p):Un 391 [pr p] [.oi (ZB p),.oi (FK p)]:=by
 have hb:-1<=(Fu p).sign/\(Fu p).sign<=1:=by rcases A1 (Fu p)with h|h|h <;> omega
 by_cases h:p.length % 2=0
 ·have e:ZB p=-(Fu p).sign:=by unfold ZB;rw[if_pos h]
  rw[e];exact Uk func391 rfl [.k (Hu hp.t hp.ln hp.bd),.k (Dx hp.t hp.ln hp.bd),.k Qsp,.t (by rw[Qbe];simp[h])] rfl rfl (by simp[U5,Fu]at hb ⊢;omega)
 ·have e:ZB p=(Fu p).sign:=by unfold ZB;rw[if_neg h]
  rw[e];exact Uk func391 rfl [.k (Hu hp.t hp.ln hp.bd),.k (Dx hp.t hp.ln hp.bd),.k Qsp,.f (by rw[Qbe];simp;omega)] rfl rfl (by simp[U5])
theorem Qgz{p:Uq}(hp:Pb p):Un 390 [pr p] [.oi (ZB p)]:=Uk func390 rfl [.k (Qfo hp)] rfl
theorem Qos{p:Uq}(hp:Pb p):Un 392 [pr p] [.oi (FK p)]:=Uk func392 rfl [.k (Qfo hp)] rfl
theorem Qha{q:Rat}(hq:Qs 4294967295 q):Un 129 [.agg (rl q)] [.agg (rl (-q))]:=by
 exact Uk func129 rfl [.k (CP hq),.k (BA (U6 _) hq.1)] rfl
theorem uN{l:Ur}{fid:Nat}{sg:Uq->Int}(hl:l.length≤1000)(hs:∀p,-1≤sg p/\sg p≤1)(h:∀p∈l,IF prog fid [pr p] [.oi (sg p)]):Un 305 [.one (.sh [.row (Pn l)]),.one (.fn fid [] [])] [.oi (C5 sg l:Nat)]:=by
 have hpl:=E9 l;refine Fz func305 rfl ?_;refine Uh [] rfl ?_;refine Um (S:=Nat) 0 (λL1 i=>(15,.v (.oi i))::(5,.v (.oi ((VI sg l i).1:Int)))::(6,.v (.one (.int .i64 (VI sg l i).2)))::L1) (λ_=>[]) (λi=>l.length-i) (λi=>i<=l.length) 0 (Qh _) rfl rfl λi hi=>?_
 by_cases hlt:i<l.length
 ·obtain⟨p,hp⟩:=gxE (l:=l) (i:=i) hlt;have hst:VI sg l (i+1)=P0 sg (VI sg l i) p:=Sj _ _ _ hp;obtain⟨b1,b2,b3⟩:=kL hs l i;have b4:=hs p;by_cases h0:sg p=0
  ·refine Ui [.t (by simp[hpl];omega),.x (Rt hp),.k (h p (Qc hp)),.t (by simpa using h0)] rfl ?_;exact rd (i+1) (by omega) hlt (by rw[hst,show P0 sg (VI sg l i) p=VI sg l i from by unfold P0;rw[if_pos h0]];rfl)
  ·by_cases h1:(VI sg l i).2=-(sg p)
   ·refine Ui [.t (by simp[hpl];omega),.x (Rt hp),.k (h p (Qc hp)),.f (by simpa using h0),.t (by simpa using h1)] rfl ?_;exact rd (i+1) (by omega) hlt (by rw[hst,show P0 sg (VI sg l i) p=((VI sg l i).1+1,sg p) from by unfold P0;rw[if_neg h0,if_pos h1]];rfl)
   ·refine Ui [.t (by simp[hpl];omega),.x (Rt hp),.k (h p (Qc hp)),.f (by simpa using h0),.f (by simpa using h1)] rfl ?_;exact rd (i+1) (by omega) hlt (by rw[hst,show P0 sg (VI sg l i) p=((VI sg l i).1,sg p) from by unfold P0;rw[if_neg h0,if_neg h1]];rfl)
 ·obtain rfl:i=l.length:=by omega
  refine Uj [.f (by simp[hpl])] rfl ?_ trivial;unfold VI C5;rw[List.take_length]
theorem RL(p:Uq):(-1<=ZB p/\ZB p<=1)/\-1<=FK p/\FK p<=1:=by
 have hb:-1<=(Fu p).sign/\(Fu p).sign<=1:=by rcases A1 (Fu p)with h|h|h <;> omega
 unfold ZB FK
 split <;> omega
theorem Qnr{l:Ur}(hl:l.length≤1000)(hp:∀p∈l,Pb p):Un 384 [.one (.sh [.row (Pn l)])] [.oi (WO l)]:=by
 have c1:Un 387 [.one (.sh [.row (Pn l)])] [.oi (C5 ZB l:Nat)] :=
  Uk func387 rfl [.k (uN hl (λp=>(RL p).1) λp h=>Qgz (hp p h))] rfl
 have c2:Un 388 [.one (.sh [.row (Pn l)])] [.oi (C5 FK l:Nat)] :=
  Uk func388 rfl [.k (uN hl (λp=>(RL p).2) λp h=>Qos (hp p h))] rfl
 have b1:C5 ZB l<=l.length:=Lx (λp=>(RL p).1) l;have b2:C5 FK l<=l.length:=Lx (λp=>(RL p).2) l;exact Uk func384 rfl [.k c1,.k c2] rfl rfl (by simp[U5];omega)
theorem mW{l:Ur}{lo hi:Rat}(hl:l.length<=1000):-1000<=Ts l lo hi/\Ts l lo hi<=1000:=by
 have b1:C6 l lo<=l.length:=Lx (λp=>O4 p lo) l;have b2:C6 l hi<=l.length:=Lx (λp=>O4 p hi) l;unfold Ts;split <;> omega
abbrev tal(l:List Tm):Uw:=l.map λt=>ta t
theorem ND{p:Uq}{c:Ur}(hp:Pb p):∀{k:Nat} {lo hi:Rat} {n:Int} {r:List Tm},Qb lo->Qb hi->Ir p c k lo hi n=some r->∀t∈r,Tb t
 | 0,_,_,_,_,_,_,h=>by cases h
 |
  k+1,lo,hi,n,r,hl,hh,h=>by
  simp only[Ir]at h
  split at h
  ·injection h with h;subst h;exact λt ht=>by cases ht
  ·split at h
   ·injection h with h;subst h;intro t ht;rw[Ql.1 ht];exact⟨hp,hl,hh⟩
   ·obtain⟨m,hm,h⟩:=Qd.1 h;obtain⟨rfl,qm⟩:=CC hm;obtain⟨x,hx,h⟩:=Qd.1 h;obtain⟨y,hy,h⟩:=Qd.1 h;injection h with h;subst h;intro t ht;rcases Qq.1 ht with ht|ht
    ·exact ND hp hl qm hx t ht
    ·exact ND hp qm hh hy t ht
theorem Qxp(l:List Tm):∀c∈tal l,c.length=9:=λc hc=>by obtain⟨t,_,rfl⟩:=Q6.1 hc;rfl
theorem nU{p:Uq}{c:Ur}(hp:Pb p)(hcl:c.length≤1000)(hc:∀q∈c,Pb q):∀{k:Nat} {lo hi:Rat} {n:Int} {r:List Tm},Qb lo->Qb hi->k≤100000->-(1000*(100001-k:Nat))≤n/\n≤1000*(100001-k:Nat)->Ir p c k lo hi n=some r->r.length≤1000000->U8 prog 383 [pr p,.one (.sh [.row (Pn c)]),.agg (rl lo),.agg (rl hi),.oi n] [] [.one (.orow 0 9 none)] [.row false 189 9 (tal r)]
 | 0,_,_,_,_,_,_,_,_,h,_=>by cases h
 |
  k+1,lo,hi,n,r,hl,hh,hk,hn,h,hr=>by
  simp only[Ir]at h
  split at h
  ·rename_i h0;injection h with h;subst h;refine Fz func383 rfl ?_;exact Ul [] [2] [.t (by simpa using h0),.o 10 189 9] rfl
  ·rename_i h0
   split at h
   ·rename_i h1;injection h with h;subst h;refine Fz func383 rfl ?_;exact Ul [] [2] [.f (by simpa using h0),.t (by simpa using h1),.k (Hu hp.t hp.ln hp.bd),.k (Nw hl.s32),.k (Nw hh.s32),.lo] rfl
   ·rename_i h1;obtain⟨m,hm,h⟩:=Qd.1 h;obtain⟨rfl,qm⟩:=CC hm;obtain⟨x,hx,h⟩:=Qd.1 h;obtain⟨y,hy,h⟩:=Qd.1 h;injection h with h;subst h;have hb:=mW (l:=c) (lo:=lo) (hi:=mid lo hi) hcl;rw[Qu]at hr;have c1:=nU hp hcl hc hl qm (by omega) (by omega) hx (by omega);have c2:=nU hp hcl hc qm hh (by omega) (by omega) hy (by omega);rw[show tal (x++y)=tal x++tal y from Yi];refine Fz func383 rfl ?_;exact Ul [] [3] [.f (by simpa using h0),.f (by simpa using h1),.k (Qso hl hh),.k (OX hcl hc hl qm),.c [3] c1,.c [4] c2,.s (Qxp y)] rfl (by simp[U5];omega)
theorem Qn5{p:Uq}{r:List Tm}(hp:Pb p)(h:PC p=some r)(hr:r.length<=1000000):Un 380 [pr p] [.one (tas r),.oi 0]:=by
 unfold PC at h;obtain⟨c,h1,h⟩:=Qd.1 h;obtain⟨q,h2,h⟩:=Qd.1 h;obtain⟨b,h3,h⟩:=Qd.1 h;obtain⟨rfl,hb⟩:=CC h3;obtain⟨k1,k2⟩:=chain_ok hp h1;have hq:=TN hp h2;have q0:q.length≠0:=by
  unfold Db at h1;obtain⟨a,a1,h1⟩:=Qd.1 h1;rw[h2]at a1;injection a1 with a1;subst a1
  split at h1
  ·cases h1
  ·assumption
 have qn:Qb (-Gz q):=⟨by rw[Rat.neg_num,Hp];exact hb.1,by rw[Rat.neg_den];exact hb.2⟩;have bb1:C5 ZB c<=c.length:=Lx (λp=>(RL p).1) c;have bb2:C5 FK c<=c.length:=Lx (λp=>(RL p).2) c;have hn:-(1000*(100001-100000:Nat):Int)<=WO c/\WO c<=1000*(100001-100000:Nat):=by unfold WO;omega
 have cr:=nU hq (by omega) k2 qn hb (Qk _) hn h hr;refine Fz func380 rfl ?_;exact Ul [1] [] [.k (Qgh hp h1),.f rfl,.k (CX hp h2),.k (Qnq hq q0),.k (Qha hb.s32),.k (Qnr (by omega) k2),.c [1] cr] rfl
def U4(l:List Pt):Uw:=l.map Ff
theorem S8{l:List Pt}{i:Nat}{c:Pt}(h:l[i]? = some c):(U4 l)[i]? = some (Ff c):=Hm h
theorem G8(l:List Pt):(U4 l).length=l.length:=by simp[U4]
theorem VY(l:List Pt):∀c∈U4 l,c.length=5:=λc hc=>by
 obtain⟨x,_,rfl⟩:=Q6.1 hc;rfl
abbrev zPt:Uv:=[.nils,.nils,.bool false,.nils,.int .i64 0]
theorem iE{lt:Pt->Pt->Bool}{O:List Pt}{z:Uv}{c:Pt}{k m:Nat}{l2:Uw}(hk:k<=O.length)(hp:Eb lt O c O.length=k)(hm:m=O.length-k)(h2:l2.take m=((U4 O++[z]).drop k).take m) :
 ((U4 O++[z]).take (k+1)++(l2.take m++(U4 O++[z]).drop (k+1+m))).set k (Ff c)=U4 (Lz lt O c):=by
 rw[h2,<-Ze,gI (U4 O) z (Ff c) (by rw[G8];omega) (by rw[G8];omega)];simp[Lz,hp,U4,Jw,Vi]
def Sy(t:Tm)(l:List Pt):List Pt:=Ei (Tv (Fx t)) l
theorem uU{l:List Pt}{t:Tm}(hl:∀p∈l,Sc p.c)(hn:l.length≤1000000)(ht:Va t):Un 163 [.agg (ta t),.one (pts l)] [.one (pts (Sy t l))]:=by
 have hcl:=G8 l;show Un 163 [.agg (ta t),.one (.row (U4 l))] [.one (.row (U4 (Sy t l)))];obtain⟨lt,hlt0⟩:=nmE (Tv (Fx t));unfold Sy;rw[<-hlt0];refine Fz func163 rfl ?_;refine Uh [.o 5 41 5] rfl ?_;refine Um (S:=Nat) 2 (λL1 i=>(11,.v (.oi i))::(5,.v (.one (.orow 1 5 none)))::L1) (λi=>[.blk 189 (ta t),.row false 41 5 (U4 (Ei lt (l.take i)))]) (λi=>l.length-i) (λi=>i<=l.length) 0 (Qh _) rfl rfl λi hi=>?_
 by_cases hlt:i<l.length
 ·obtain⟨c,hc⟩:=gxE (l:=l) (i:=i) hlt;have hst:Ei lt (l.take (i+1))=Lz lt (Ei lt (l.take i)) c:=lV hc;have hcp:=hl c (Qc hc);obtain⟨O,hO⟩:=nmE (Ei lt (l.take i));have hOl:O.length=i:=by rw[hO,xP,Qr];omega
  have hOm:∀x∈O,Sc x.c:=λx hx=>by rw[hO,Qed]at hx;exact hl x (Qo hx)
  rw[<-hO]at hst ⊢;refine Uh [.t (by simp[hcl];omega),.x (S8 hc)] rfl ?_;refine Um (S:=Nat) 3 (λL1 k=>(8,.v (.oi k))::L1) (λk=>[.blk 189 (ta t),.row false 41 5 (U4 O),.blk 41 (Ff c)]) id (λk=>k<=O.length/\Eb lt O c k=Eb lt O c O.length) (U4 O).length ⟨by rw[G8];exact Qk _,by rw[G8]⟩ rfl rfl λk ⟨hk,hp⟩=>?_
  have hz:∀y∈[zPt],y.length=5:=λy hy=>by rw[Ql.1 hy];rfl
  have h77:∀y∈U4 O++[zPt],y.length=5:=λy hy=>by
   rcases Qq.1 hy with hy|hy
   ·exact VY O y hy
   ·exact hz y hy
  cases k with
  |
   zero =>
   have hp:Eb lt O c O.length=0:=by rw[<-hp];rfl
   refine go tt [.g 19 false (by simp),.f rfl,.s (sz:=5) hz,.r 37 (eI (b:=((0+1:Nat):Int)) (by simp)),.i (0+1),.i (0),.s (sz:=5) (λy hy=>h77 y (Qo hy)),.i (O.length),.i (0)] rfl (by simp[U5,G8];omega) ?_;exact rd (i+1) (by omega) hlt (by rw[hst,<-iE (z:=zPt) (l2:=(U4 O++[zPt]).take ((U4 O++[zPt]).length-0)) (k:=0) (m:=O.length) (by omega) hp (by omega) (by congr 1;exact Qn (by simp))];rfl)
  |
   succ k =>
   obtain⟨x,hx⟩:=gxE (l:=O) (i:=k) (by omega);have cb:=Qfg hcp (hOm x (Qc hx)) ht;rw[<-hlt0]at cb;by_cases hlc:lt c x=true
   ·refine go tt [.g 19 true (by simp),.r 23 (eI (b:=(k:Int)) (by simp)),.i k,.x (S8 hx),.k cb,.t hlc,.r 30 (eI (b:=(k:Int)) (by simp))] rfl (by simp[U5,G8];omega) ?_;exact rd k (by simp) ⟨by omega,by rw[<-hp,Qaq hx hlc]⟩ rfl
   ·have hlc:lt c x=false:=by simpa using hlc
    have hp:Eb lt O c O.length=k+1:=by rw[<-hp,tR hx hlc]
    refine go tt [.g 19 true (by simp),.r 23 (eI (b:=(k:Int)) (by simp)),.i k,.x (S8 hx),.k cb,.f hlc,.s (sz:=5) hz,.r 37 (eI (b:=((k+1+1:Nat):Int)) (by simp)),.i (k+1+1),.i (k+1),.s (sz:=5) (λy hy=>h77 y (Qz (Qo hy))),.i (O.length-(k+1)),.i (k+1)] rfl (by simp[U5,G8];omega) ?_;exact rd (i+1) (by omega) hlt (by rw[hst,<-iE (z:=zPt) (l2:=((U4 O++[zPt]).drop (k+1)).take ((U4 O++[zPt]).length-(k+1))) (k:=k+1) (m:=O.length-(k+1)) (by omega) hp (by omega) (by congr 1;exact Qn (by simp))];rfl)
 ·obtain rfl:i=l.length:=by omega
  rw[Q7];exact Uj [.f (by simp[hcl])] rfl
def Pa(sg:Uq->Int):List Pt->List Ct
 |a::b::l=>ZZ sg a b::Pa sg (b::l)
 |_=>[]
theorem B5(sg:Uq->Int):∀l:List Pt,(Pa sg l).length=l.length-1
 | []=>rfl
 | [_]=>rfl
 |a::b::l=>by simp only[Pa,Q3,B5 sg (b::l)];omega
theorem TO(sg:Uq->Int):∀{l:List Pt} {i:Nat} {a b:Pt},l[i]? = some a->l[i+1]? = some b->(Pa sg l).take (i+1)=(Pa sg l).take i++[ZZ sg a b]
 | [],i,a,b,h,_=>by simp at h
 | [x],i,a,b,_,h=>by cases i <;> simp at h
 |x::y::l,0,a,b,h1,h2=>by simp at h1 h2;subst h1;subst h2;simp[Pa]
 |
  x::y::l,i+1,a,b,h1,h2=>by
  have ih:=TO sg (l:=y::l) (i:=i) (a:=a) (b:=b) (by simpa using h1) (by simpa using h2);simp only[Pa,Vf]at ih ⊢;rw[ih];rfl
theorem CZ{l:List Pt}{t:Tm}(hl:∀p∈l,Sc p.c)(hn:l.length≤1000000)(ht:Va t):Un 165 [.agg (ta t),.one (pts l)] [.one (.row (Ft (Pa (Fx t) l)))]:=by
 have hcl:=G8 l;show Un 165 [.agg (ta t),.one (.row (U4 l))] [.one (.row (Ft (Pa (Fx t) l)))];refine Fz func165 rfl ?_;refine Uh [.o 5 126 7] rfl ?_;refine Um (S:=Nat) 2 (λL1 i=>(6,.v (.oi ((i+1:Nat):Int)))::(5,.v (.one (.orow 1 7 none)))::L1) (λi=>[.blk 189 (ta t),.row false 126 7 (Ft ((Pa (Fx t) l).take i))]) (λi=>l.length-i) (λi=>i<=l.length-1) 0 (Qh _) rfl rfl λi hi=>?_
 by_cases hlt:i+1<l.length
 ·obtain⟨a,ha⟩:=gxE (l:=l) (i:=i) (by omega);obtain⟨b,hb⟩:=gxE (l:=l) (i:=i+1) hlt;have hg:=TO (Fx t) ha hb;have hm:∀y∈[L9 (ZZ (Fx t) a b)],y.length=7:=λy hy=>by rw[Ql.1 hy];rfl
  refine go tt [.t (by simp[hcl];omega),.r 19 (eI (b:=(i:Int)) (by simp)),.x (S8 ha),.x (S8 hb),.k (eL (hl a (Qc ha)) (hl b (Qc hb)) ht),.s (sz:=7) hm,.r 14 (eI (b:=((i+1+1:Nat):Int)) (by simp))] rfl (by simp[U5,G8,Bb,B5];omega) ?_;exact rd (i+1) (by omega) (by omega) (by rw[hg];simp[Ft];rfl)
 ·have e:(Pa (Fx t) l).take i=Pa (Fx t) l:=Qn (by rw[B5];omega);rw[e];exact Uj [.f (by simp[hcl];omega)] rfl
theorem Qn7:Un 253 [pr []] [.one .nilp,.oi 2]:=by
 have h:Pd []=some []:=rfl;exact Uk func253 rfl [.k (CX TM h),.t rfl] rfl
theorem Qgf:Un 380 [pr []] [.one (.row []),.oi 2] :=
 Uk func380 rfl [.k Qn7,.t rfl] rfl
theorem Qwv{a o:Uq}(ha:Pb a)(h:cI a=some o):Pb o:=by
 unfold cI at h
 split at h
 ·injection h with h;subst h;exact TM
 ·obtain⟨l,hl,h⟩:=Qd.1 h;obtain⟨fs,hf,h⟩:=Qd.1 h;exact YI Qkn (yU (NR (Tf ha) hl).2 hf) h
theorem Qfq{p:Uq}{l:List Tm}(hp:Pb p)(h:ZU p=some l)(hl:l.length<=1000000):Un 379 [pr p] [.one (tas l)]:=by
 unfold ZU at h;obtain⟨q,hq,h⟩:=Qd.1 h;have qp:=Qwv hp hq;have co:=Qyz hp hq
 split at h
 ·rename_i h0;injection h with h;subst h;obtain rfl:=Qj h0;exact Uk func379 rfl [.k co,.k Qgf,.t rfl] rfl
 ·exact Uk func379 rfl [.k co,.k (Qn5 qp h hl),.f rfl] rfl
def ota:Option Tm->Uv
 |none=>zTr
 |some t=>ta t
theorem Qnu{p:Uq}{a:Tm}{l:List Tm}{r:Option Tm}(hp:Pb p)(ha:Tb a)(h:ZU p=some l)(hl:l.length≤1000000)(ht:∀t∈l,Tb t)(hr:KY a l=some r):Un 378 [pr p,.agg (ta a)] [.agg (ota r),.one (.bool r.isSome)]:=by
 have hll:(l.map λt=>ta t).length=l.length:=by simp
 refine Fz func378 rfl ?_;refine Uh [.k (Qfq hp h hl)] rfl ?_;refine Um (S:=Nat) 2 (λL1 i=>(11,.v (.oi i))::L1) (λ_=>[.blk 189 (ta a),.blk 189 zTm]) (λi=>l.length-i) (λi=>i<=l.length/\KY a (l.drop i)=some r) 0 ⟨Qh _,hr⟩ rfl rfl λi ⟨hi,hf⟩=>?_
 by_cases hlt:i<l.length
 ·obtain⟨t,hx⟩:=gxE (l:=l) (i:=i) hlt;have hdr:l.drop i=t::l.drop (i+1):=by
   rw[Zq hlt];congr 1;have:=Qe hlt;rw[hx]at this;injection this with this;exact this.symm
  rw[hdr]at hf;simp only[KY]at hf;obtain⟨c,c1,hf⟩:=Qd.1 hf;have cc:=KP (ht t (Qc hx)) ha c1;by_cases hc:0<c
  ·rw[if_pos hc]at hf;injection hf with hf;subst hf;exact Uj [.t (by simp;omega),.x (BY hx),.k cc,.t (by simpa using hc)] rfl
  ·rw[if_neg hc]at hf;refine Ui [.t (by simp;omega),.x (BY hx),.k cc,.f (by simpa using hc)] rfl ?_;exact rd (i+1) (by omega) ⟨hlt,hf⟩ rfl
 ·obtain rfl:i=l.length:=by omega
  rw[Yu]at hf;simp only[KY]at hf;injection hf with hf;subst hf;exact Uj [.f (by simp)] rfl
def Ol(now:Tm):List Wt->Option (List Wt)
 | []=>some []
 |w::l=>(if w.known=true then some w else(PT w.c.p now).bind λr=>some ⟨w.c,true,r⟩).bind λw'=>(Ol now l).bind λr=>some (w'::r)
theorem YE{now:Tm}:∀{l ws:List Wt},Ol now l=some ws->ws.length=l.length/\∀(i:Nat) (w:Wt),l[i]? = some w->∃v,ws[i]? = some v/\(w.known=true/\v=w\/w.known=false/\∃r,PT w.c.p now=some r/\v=⟨w.c,true,r⟩)
 | [],ws,h=>by injection h with h;subst h;exact⟨rfl,λi x hx=>by simp at hx⟩
 |
  y::l,ws,h=>by
  simp only[Ol]at h;obtain⟨v,hv,h⟩:=Qd.1 h;obtain⟨r,hr,h⟩:=Qd.1 h;injection h with h;subst h;obtain⟨a,b⟩:=YE hr;refine⟨by simp[a],λi x hx=>?_⟩;cases i with
  |
   zero =>
   injection hx with hx;subst hx;refine⟨v,rfl,?_⟩
   split at hv
   ·rename_i hk;injection hv with hv;exact .inl ⟨hk,hv.symm⟩
   ·rename_i hk;obtain⟨q,hq,hv⟩:=Qd.1 hv;injection hv with hv;exact .inr ⟨by simpa using hk,q,hq,hv.symm⟩
  |succ i=>exact b i x (by simpa using hx)
theorem uJ{p:Uq}{a:Tm}{r:Option Tm}(hp:Cp p)(ha:Va a)(h:PT p a=some r):Un 378 [pr p,.agg (ta a)] [.agg (ota r),.one (.bool r.isSome)]:=by
 obtain⟨l,l1,l2,l3,_⟩:=JI hp;unfold PT at h;rw[l1]at h;exact Qnu (Dp.pb hp.dp) ha.tb l1 (by omega) (λt ht=>(l3 t ht).tb) h
theorem Qnx{T:Nat}{c:Cr}{r0 r1:Uw}{ws:List Wt}(hc:CrOk c)(h:Ol c.now c.l=some ws):U8 prog 371 [.one (.ow 0 0)] [.blk T (Ho c r0 r1)] [] [.blk T (Ho { c with l:=ws } r0 r1)]:=by
 have hk:=hc.k;have hw:=S5 c.l;obtain⟨h1,h2⟩:=YE h;refine Fz func371 rfl ?_;refine Uh [.o 2 291 18,.c [0] (QU hc.n)] rfl ?_;refine Um (S:=Nat) 3 (λL1 i=>(13,.v (.oi i))::(2,.v (.one (.orow 1 18 none)))::L1) (λi=>[.blk T (Ho c r0 r1),.row false 291 18 (Da (ws.take i)),.blk 189 (ta c.now)]) (λi=>c.l.length-i) (λi=>i<=c.l.length) 0 (Qh _) rfl rfl λi hi=>?_
 by_cases hlt:i<c.l.length
 ·obtain⟨w,hx⟩:=gxE (l:=c.l) (i:=i) hlt;obtain⟨v,hv,h3⟩:=h2 i w hx;have hm:∀y∈[wl v],y.length=18:=λy hy=>by rw[Ql.1 hy];rfl
  have hg:=Ac hv;have hl:decide ((i:Int)<((Da c.l).length:Int))=true:=by simp[hw];omega
  rcases h3 with⟨k1,rfl⟩|⟨k1,r,k2,rfl⟩
  ·obtain⟨vc,vk,vf⟩:=v;cases vf <;> (refine go tt [.t hl,.x (H7 hx),.f (by rw[show vk=true from k1];rfl),.s (sz:=18) hm] rfl (by simp[U5,S5];omega) ?_;exact rd (i+1) (by omega) hlt (by rw[hg];rfl))
  ·have cg:=uJ (hc.l w (Qc hx)).p hc.n k2;obtain⟨wc,wk,wf⟩:=w;cases r <;> cases wf <;> (refine go tt [.t hl,.x (H7 hx),.t (by rw[show wk=false from k1];rfl),.k cg,.s (sz:=18) hm] rfl (by simp[U5,S5];omega) ?_;exact rd (i+1) (by omega) hlt (by rw[hg];rfl))
 ·obtain rfl:i=c.l.length:=by omega
  rw[<-h1,Q7];exact Ul [1] [0] [.f (by simp[hw,h1])] rfl
def ID(ws:List Wt):Option (Option Tm):=match ws.filterMap (·.fails)with
 | []=>some none
 |b::l=>(QA b l).map some
theorem Et{c:Cr}{ws:List Wt}(hc:CrOk c)(h:Ol c.now c.l=some ws):CrOk { c with l:=ws }:=by
 obtain⟨h1,h2⟩:=YE h;refine⟨hc.n,λv hv=>?_,by show ws.length<=1000;rw[h1];exact hc.k⟩;obtain⟨i,hi⟩:=X1 hv;have hil:i<c.l.length:=by rw[<-h1];exact(Qf.1 hi).1
 obtain⟨v',h3,h4⟩:=h2 i _ (Qe hil);rw[hi]at h3;injection h3 with h3;subst h3;have hw:=hc.l _ (Xw hil);rcases h4 with⟨_,rfl⟩|⟨_,r,k2,rfl⟩
 ·exact hw
 ·obtain⟨r',r1,r2⟩:=Qka hw.p hc.n;rw[k2]at r1;injection r1 with r1;subst r1;refine⟨hw.p,λt ht=>?_⟩;have ht:r=some t:=ht;subst ht;exact r2.2.1
theorem MC{T:Nat}{c:Cr}{r0 r1:Uw}{ws:List Wt}{r:Option Tm}(hc:CrOk c)(h:Ol c.now c.l=some ws)(hr:ID ws=some r):U8 prog 377 [.one (.ow 0 0)] [.blk T (Ho c r0 r1)] [.agg (ota r),.one (.bool r.isSome)] [.blk T (Ho { c with l:=ws } r0 r1)]:=by
 have hcl:=Qnx (T:=T) (r0:=r0) (r1:=r1) hc h;have hc':=Et hc h;have hk:=hc'.k;have hw:=S5 ws;have hvb:∀t∈ws.filterMap (·.fails),Tb t:=λt ht=>by
  obtain⟨w,w1,w2⟩:=Jk.1 ht;exact((hc'.l w w1).f t w2).tb
 refine Fz func377 rfl ?_;refine Uh [.c [0] hcl,.o 4 189 9] rfl ?_;refine Um (S:=Nat) 3 (λL1 i=>(14,.v (.oi i))::(4,.v (.one (.orow 2 9 none)))::L1) (λi=>[.blk T (Ho { c with l:=ws } r0 r1),.blk 189 zTm,.row false 189 9 (tal ((ws.take i).filterMap (·.fails)))]) (λi=>ws.length-i) (λi=>i<=ws.length) 0 (Qh _) rfl rfl λi hi=>?_
 by_cases hlt:i<ws.length
 ·obtain⟨w,hx⟩:=gxE (l:=ws) (i:=i) hlt;have hl:decide ((i:Int)<((Da ws).length:Int))=true:=by simp[hw];omega
  have hfl:((ws.take i).filterMap (·.fails)).length<=i:=Qa (Vd _ _) (by rw[Qr];omega);have hg:(ws.take (i+1)).filterMap (·.fails)=(ws.take i).filterMap (·.fails)++(match w.fails with|none=>[]|some t=>[t]):=by
   rw[Z3,hx,List.filterMap_append];show _++List.filterMap (·.fails) [w]=_;cases hwf:w.fails <;> simp[hwf]
  obtain⟨wc,wk,wf⟩:=w;have hk:ws.length<=1000:=hk;cases wf with
  |
   none =>
   refine Ui [.t hl,.x (H7 hx),.f rfl] rfl ?_;exact rd (i+1) (by omega) hlt (by rw[hg];simp;rfl)
  |
   some t =>
   refine Ui [.t hl,.x (H7 hx),.t rfl,.s (l:=[ta t]) (sz:=9) (λc hc=>by rw[Ql.1 hc];rfl)] rfl ?_;exact rd (i+1) (by omega) hlt (by rw[hg];simp[tal];rfl)
 ·obtain rfl:i=ws.length:=by omega
  rw[Q7];have hf:decide ((ws.length:Int)<((Da ws).length:Int))=false:=by simp[hw]
  have hln:(ws.filterMap (·.fails)).length<=1000:=Qa (Vd _ _) hk;unfold ID at hr;cases hfm:ws.filterMap (·.fails)with
  |
   nil =>
   rw[hfm]at hr;injection hr with hr;subst hr;exact Ul [] [0] [.f hf,.p 2,.k uY] rfl
  |
   cons b l =>
   rw[hfm]at hr hvb hln;obtain⟨m,m1,rfl⟩:=Yx.1 hr;have cl:=Pf (hvb b (Qy ..)) (λt ht=>hvb t (Qg _ ht)) (by simp at hln;omega) m1;exact Ul [] [0] [.f hf,.p 2,.k cl] rfl
theorem LO{at_:Tm}{x:Ct}:∀{l:List Wt} {w:Wt},Ck l x at_=some w->w=fresh x\/∃v∈l,v.known=true/\v.c.p=x.p/\w=⟨x,true,v.fails⟩/\∀t,v.fails=some t->∃c,UD t at_=some c/\0<c
 | [],w,h=>by simp only[Ck]at h;injection h with h;exact .inl h.symm
 |
  v::l,w,h=>by
  simp only[Ck]at h;have tl:Ck l x at_=some w->w=fresh x\/∃v'∈v::l,v'.known=true/\v'.c.p=x.p/\w=⟨x,true,v'.fails⟩/\∀t,v'.fails=some t->∃c,UD t at_=some c/\0<c:=λh=>by
   rcases LO h with h|⟨v',h1,h2⟩
   ·exact .inl h
   ·exact .inr ⟨v',Qg _ h1,h2⟩
  split at h
  ·rename_i hk;cases hf:v.fails with
   |
    none =>
    rw[hf]at h;injection h with h;exact .inr ⟨v,Qy ..,hk.2.1,hk.2.2,by rw[hf];exact h.symm,λt ht=>by rw[hf]at ht;cases ht⟩
   |
    some t =>
    rw[hf]at h;obtain⟨c,c1,h⟩:=Qd.1 h
    split at h
    ·rename_i h0;injection h with h;exact .inr ⟨v,Qy ..,hk.2.1,hk.2.2,by rw[hf];exact h.symm,λu hu=>by rw[hf]at hu;injection hu with hu;subst hu;exact⟨c,c1,h0⟩⟩
    ·exact tl h
  ·exact tl h
theorem lay_ok{c:Cr}{at_:Tm}{l:List Ct}{ws:List Wt}(ev:Int)(hc:CrOk c)(ha:Va at_)(hl:∀x∈l,Cp x.p)(hn:l.length≤1000)(h:Tp c.l at_ (Ga l)=some ws):CrOk ⟨at_,ws,ev⟩:=by
 obtain⟨h1,h2⟩:=XC h;refine⟨ha,λw hw=>?_,by show ws.length<=1000;rw[h1,Dv];exact hn⟩;obtain⟨i,hi⟩:=X1 hw;have hil:i<(Ga l).length:=by rw[<-h1];exact(Qf.1 hi).1
 obtain⟨v,h3,h4⟩:=h2 i _ (Qe hil);rw[hi]at h4;injection h4 with h4;subst h4;have hx:=hl _ (VU (Xw hil));rcases LO h3 with e|⟨v,v1,_,v3,e,_⟩
 ·rw[e];exact⟨hx,λt ht=>by cases ht⟩
 ·rw[e];exact⟨hx,λt ht=>(hc.l v v1).f t ht⟩
def HC{β:Type}(Bc:Tm->List Ct)(Br:Tm->β)(t:Rat):Nat->Cr->β->Int->Option (Cr×β×Int)
 | 0,_,_,_=>none
 |
  k+1,c,r,n=>(Ol c.now c.l).bind λws=>(ID ws).bind λo=>match o with
  |none=>some (⟨tq t,ws,c.ev⟩,r,n)
  |some a=>if 0<Fq a t then some (⟨tq t,ws,c.ev⟩,r,n)else(Tp ws a (Ga (Bc a))).bind λw2=>HC Bc Br t k ⟨a,w2,c.ev+1⟩ (Br a) (n+1)
theorem Qkd{ws:List Wt}{a:Tm}(h:ID ws=some (some a))(hv:∀t∈ws.filterMap (·.fails),Va t):a∈ws.filterMap (·.fails)/\∀t∈ws.filterMap (·.fails),¬Mh t a:=by
 unfold ID at h;cases hf:ws.filterMap (·.fails)with
 |nil=>rw[hf]at h;injection h with h;cases h
 |
  cons b l =>
  rw[hf]at h hv;obtain⟨m,m1,m2⟩:=Yx.1 h;injection m2 with m2;subst m2;obtain⟨m',n1,n2,n3⟩:=TU l b hv;rw[m1]at n1;injection n1 with n1;subst n1;exact⟨n2,n3⟩
theorem EW{c:Cr}{ws:List Wt}{a:Tm}(hc:CrOk c)(h:Ol c.now c.l=some ws)(hr:ID ws=some (some a)):Va a:=by
 have hc':=Et hc h;have hv:∀t∈ws.filterMap (·.fails),Va t:=λt ht=>by
  obtain⟨w,w1,w2⟩:=Jk.1 ht;exact(hc'.l w w1).f t w2
 exact hv a (Qkd hr hv).1
structure BuildOk(Bc:Tm->List Ct):Prop where
 p:∀a,Va a->∀x∈Bc a,Cp x.p
 n:∀a,Va a->(Bc a).length<=1000
theorem Qyx{T:Nat}{t:Rat}{Bc:Tm->List Ct}{Br:Tm->Uw}{r0:Uw}(ht:Qs 1640000 t)(hB:BuildOk Bc)
 (hb:∀a c r1,Va a->CrOk c->U8 prog 122 [.one (.ow 0 0),.agg (ta a)] [.blk T (Ho c r0 r1)] [.one (.row (Ft (Bc a)))] [.blk T (Ho c r0 (Br a))])
 {K:Nat} {c c':Cr} {r1 r1':Uw} {n:Int} (hc:CrOk c) (hev:0<=c.ev/\c.ev+K<=1000000000000000000) (h:Fq c.now t<=0) (hg:HC Bc Br t K c r1 0=some (c',r1',n)) :
 U8 prog 372 [.one (.ow 0 0),.agg (rl t),.one (.ofn 122 [.ow 0 0] [])] [.blk T (Ho c r0 r1)] [.oi n,.oi 0] [.blk T (Ho c' r0 r1')]:=by
 have qt:Qb t:=ht.mono (by decide);have c1:=Dk hc.n.tb qt;refine Fz func372 rfl ?_;refine Uh [.c [0] (QU hc.n),.k c1,.f (by simpa using h)] rfl ?_;refine Um (S:=Nat×Cr×Uw×Int) 2 (λL1 s=>(8,.v (.oi s.2.2.2))::L1) (λs=>[.blk T (Ho s.2.1 r0 s.2.2.1),.blk 43 (rl t)]) (λs=>s.1) (λs=>CrOk s.2.1/\(0<=s.2.1.ev/\s.2.1.ev+s.1<=1000000000000000000)/\(0<=s.2.2.2/\s.2.2.2+s.1<=1000000000000000000)/\HC Bc Br t s.1 s.2.1 s.2.2.1 s.2.2.2=some (c',r1',n)) (K,c,r1,0) ⟨hc,hev,⟨Int.le_refl 0,by dsimp only;omega⟩,hg⟩ rfl rfl λ⟨k,x,r,m⟩ ⟨j1,j2,j3,j4⟩=>?_
 dsimp only at j1 j2 j3 j4 ⊢;cases k with
 |zero=>cases j4
 |
  succ k =>
  simp only[HC]at j4;obtain⟨ws,w1,j4⟩:=Qd.1 j4;obtain⟨o,o1,j4⟩:=Qd.1 j4;have cn:=MC (T:=T) (r0:=r0) (r1:=r) j1 w1 o1;have ca:=KZ (U6 t.num) (U6 (t.den:Int)) (Qa ht.1 (by decide)) (Qa ht.2 (by decide)) (by rw[Sx];exact ht.mono (by decide));rw[Sx]at ca;cases o with
  |
   none =>
   injection j4 with j4;injection j4 with e1 j4;injection j4 with e2 e3;subst e1;subst e2;subst e3;exact Ul [] [0] [.c [0] cn,.g 25 true rfl,.t rfl,.k ca] rfl
  |
   some a =>
   have ha:=EW j1 w1 o1;dsimp only at j4;have cc:=Dk ha.tb qt;by_cases h0:0<Fq a t
   ·rw[if_pos h0]at j4;injection j4 with j4;injection j4 with e1 j4;injection j4 with e2 e3;subst e1;subst e2;subst e3;exact Ul [] [0] [.c [0] cn,.g 25 false rfl,.k cc,.t (by simpa using h0),.k ca] rfl
   ·rw[if_neg h0]at j4;obtain⟨w2,l1,j4⟩:=Qd.1 j4;have j1':=Et j1 w1;have cl:=Pf (b:=a) (l:=[]) ha.tb (λt ht=>by cases ht) (by decide) rfl;have cb:=hb a { x with l:=ws } r ha j1';have cy:=UT (T:=T) (r0:=r0) (r1:=Br a) j1' ha (hB.p a ha) (hB.n a ha) l1;have hf:decide (0<Fq a t)=false:=by simpa using h0
    refine Ui [.c [0] cn,.g 25 false rfl,.k cc,.f hf,.k cl,.c [0] cb,.c [0] cy] rfl ?_;exact rd (k,⟨a,w2,x.ev+1⟩,Br a,m+1) (by dsimp only;omega) ⟨lay_ok _ j1' ha (hB.p a ha) (hB.n a ha) l1,by dsimp only;omega,by dsimp only;omega,j4⟩ rfl
theorem YW{T:Nat}{c:Cr}{r0 r1:Uw}:U8 prog 368 [.one (.ow 0 0)] [.blk T (Ho c r0 r1)] [.oi c.ev] [.blk T (Ho c r0 r1)]:=by
 refine Fz func368 rfl ?_;exact Ul [] [0] [] rfl
end Orr
namespace Orq
open Orr Go
theorem Qzr{a b c:Tm}(hb:Cut (Fq b))(hc:Cut (Fq c))(h:Mh a b)(h':Mh b c):Mh a c:=by
 obtain⟨q,q1,q2⟩:=h;obtain⟨r,r1,r2⟩:=h';exact⟨q,q1,hc.mono' (hb.lt q2 r1) (by omega)⟩
theorem TG{a b:Tm}(ha:Cut (Fq a))(hb:Cut (Fq b))(h:¬Mh b a):Leq a (Fq b):=λq hq=>by
 rcases ha.val q with e|e|e
 ·exact absurd ⟨q,hq,e⟩ h
 ·obtain⟨r,r1,r2⟩:=hb.dn q hq;exact absurd ⟨r,r2,ha.mono' r1 (by omega)⟩ h
 ·exact e
theorem oU{a b c:Tm}(_:Cut (Fq a))(hb:Cut (Fq b))(hc:Cut (Fq c))(h:Mh a b)(h':¬Mh c b):Mh a c:=by
 obtain⟨q,q1,q2⟩:=h;refine⟨q,q1,?_⟩;have hl:=TG hb hc h';rcases hc.val q with e|e|e
 ·exact e
 ·obtain⟨r,r1,r2⟩:=hb.up q q2;have h1:=hc.mono q r r1 (by omega);have:=hl r h1;omega
 ·have:=hl q e;omega
theorem yI{a b:Tm}(ha:Cut (Fq a))(hb:Cut (Fq b))(h:Mh a b):¬Mh b a:=λh'=>I1 ha hb h h'
theorem Ot{p:Uq}{a b:Tm}{o:Option Tm}(ha:Cut (Fq a))(hb:Cut (Fq b))(hab:¬Mh b a)(h:S9 p a o)(ho:∀t,o=some t->Mh b t):S9 p b o:=by
 have hl:=TG ha hb hab;cases o with
 |
  none =>
  rcases h with h|⟨s,s0,h⟩
  ·exact .inl h
  ·exact .inr ⟨s,s0,λc hc hbc=>h c hc λq hq=>hl q (hbc q hq)⟩
 |
  some t =>
  obtain⟨h1,h2,_,s,s0,h4,h5⟩:=h;exact⟨h1,h2,ho t rfl,s,s0,λc hc hbc hm=>h4 c hc (λq hq=>hl q (hbc q hq)) hm,h5⟩
theorem qN{p:Uq}{a b:Tm}{o:Option Tm}(hp:Dp p)(ha:Va a)(hb:Va b)(hab:¬Mh b a)(h:S9 p a o)(ho:∀t,o=some t->Mh b t):Hl (Fx b) p=Hl (Fx a) p:=by
 by_cases h0:p.length=0
 ·obtain rfl:=Qj h0;rfl
 obtain⟨ra,_⟩:=Ep ha hp h0;obtain⟨rb,_⟩:=Ep hb hp h0;have hl:=TG ha.cut hb.cut hab;cases o with
 |
  none =>
  rcases h with h|⟨s,s0,h⟩
  ·exact absurd (by rw[h];rfl) h0
  ·exact(GA rb (h _ hb.cut hl)).trans (GA ra (h _ ha.cut λ_ h=>h)).symm
 |
  some t =>
  obtain⟨h1,h2,h3,s,s0,h4,h5⟩:=h;exact(GA rb (h4 _ hb.cut hl (ho t rfl))).trans (GA ra (h4 _ ha.cut (λ_ h=>h) h3)).symm
theorem IZ(t q:Rat):Fq (tq t) q=Hk t q:=If (t:=tq t) rfl q
theorem KO{a:Tm}{t:Rat}(ha:Cut (Fq a)):0<Fq a t↔Mh (tq t) a:=by
 constructor
 ·intro h;have h1:Fq a t=1:=by rcases ha.val t with e|e|e <;> omega
  obtain⟨r,r1,r2⟩:=ha.up t h1;exact⟨r,by rw[IZ];rcases Pg t r with⟨e,e'⟩|⟨e,e'⟩|⟨e,e'⟩ <;> first|exact e|(exfalso;grind),r2⟩
 ·rintro⟨q,q1,q2⟩
  rw[IZ]at q1;have:t<q:=by rcases Pg t q with⟨e,e'⟩|⟨e,e'⟩|⟨e,e'⟩ <;> first|exact e'|omega
  have:=ha.mono' this (by omega);omega
open Classical in
noncomputable def mu(T:List Tm)(a:Tm):Nat:=(T.filter λt=>decide (Mh a t)).length
theorem qY{α:Type}{p q:α->Bool}(h:∀x,p x=true->q x=true):∀l:List α,(l.filter p).length<=(l.filter q).length
 | []=>Qk _
 |
  x::l=>by
  have ih:=qY h l;by_cases hp:p x=true
  ·rw[X9 hp,X9 (h x hp)];simp;exact ih
  ·rw[Jz hp];by_cases hq:q x=true
   ·rw[X9 hq];simp;omega
   ·rw[Jz hq];exact ih
theorem qV{α:Type}{p q:α->Bool}(h:∀x,p x=true->q x=true){y:α}(hp:p y=false)(hq:q y=true):∀{l:List α},y∈l->(l.filter p).length<(l.filter q).length
 | [],hy=>by cases hy
 |
  x::l,hy=>by
  rcases Qm.1 hy with rfl|hy
  ·rw[Jz (by simp[hp]),X9 hq];have:=qY h l;simp;omega
  ·have ih:=qV h hp hq hy;by_cases hp:p x=true
   ·rw[X9 hp,X9 (h x hp)];simp;exact ih
   ·rw[Jz hp];by_cases hq:q x=true
    ·rw[X9 hq];simp;omega
    ·rw[Jz hq];exact ih
open Classical in
theorem Qj3{T:List Tm}{a b:Tm}(ha:Cut (Fq a))(hb:Cut (Fq b))(hT:∀t∈T,Cut (Fq t))(h:Mh a b)(hm:b∈T):mu T b<mu T a:=by
 have key:∀l:List Tm,(∀t∈l,Cut (Fq t))->l.filter (λt=>decide (Mh b t))=l.filter (λt=>decide (Cut (Fq t)/\Mh b t)):=λl hl=>Wy λx hx=>by simp[hl x hx]
 have key2:∀l:List Tm,(∀t∈l,Cut (Fq t))->l.filter (λt=>decide (Mh a t))=l.filter (λt=>decide (Cut (Fq t)/\Mh a t)):=λl hl=>Wy λx hx=>by simp[hl x hx]
 unfold mu;rw[key T hT,key2 T hT];refine qV (λx hx=>?_) (y:=b) ?_ ?_ hm
 ·have hx:=of_decide_eq_true hx;exact decide_eq_true ⟨hx.1,Qzr hb hx.1 h hx.2⟩
 ·exact decide_eq_false λhx=>I1 hb hb hx.2 hx.2
 ·exact decide_eq_true ⟨hb,h⟩
def VG(p:Uq):List Tm:=(ZU p).getD []
structure KInv(c:Cr):Prop where
 ok:CrOk c
 k:∀w∈c.l,w.known=true->S9 w.c.p c.now w.fails/\∀t,w.fails=some t->t∈VG w.c.p
theorem WH{p:Uq}(h:Cp p){a:Tm}(ha:Va a):∃r,PT p a=some r/\S9 p a r/\∀t,r=some t->t∈VG p:=by
 obtain⟨l,l1,_,_,l3⟩:=JI h;obtain⟨r,r1,r2,r3⟩:=l3 a ha;refine⟨r,?_,r2,λt ht=>by unfold VG;rw[l1];exact r3 t ht⟩;unfold PT;rw[l1];exact r1
theorem Qmb{p:Uq}(h:Cp p):∀t∈VG p,Va t:=by
 obtain⟨l,l1,_,l2,_⟩:=JI h;unfold VG;rw[l1];exact l2
theorem oS{now:Tm}(hn:Va now):∀{l:List Wt},(∀w∈l,WtOk w)->(∀w∈l,w.known=true->S9 w.c.p now w.fails/\∀t,w.fails=some t->t∈VG w.c.p) ->
 ∃ws,Ol now l=some ws/\ws.map (·.c)=l.map (·.c)/\∀w∈ws,w.known=true/\S9 w.c.p now w.fails/\∀t,w.fails=some t->t∈VG w.c.p
 | [],_,_=>⟨[],rfl,rfl,λw hw=>by cases hw⟩
 |
  w::l,h,h'=>by
  obtain⟨ws,w1,w2,w3⟩:=oS hn (λv hv=>h v (Qg _ hv)) (λv hv=>h' v (Qg _ hv));by_cases hk:w.known=true
  ·refine⟨w::ws,by simp only[Ol,hk,if_true,w1];rfl,by simp[w2],λv hv=>?_⟩;rcases Qm.1 hv with rfl|hv
   ·exact⟨hk,h' v (by simp) hk⟩
   ·exact w3 v hv
  ·obtain⟨r,r1,r2,r3⟩:=WH (h w (by simp)).p hn;refine⟨⟨w.c,true,r⟩::ws,by simp only[Ol];rw[if_neg hk,r1,w1];rfl,by simp[w2],λv hv=>?_⟩;rcases Qm.1 hv with rfl|hv
   ·exact⟨rfl,r2,r3⟩
   ·exact w3 v hv
theorem oJ{at_:Tm}(ha:Va at_){x:Ct}:∀{l:List Wt},(∀w∈l,WtOk w)->∃w,Ck l x at_=some w/\w.c=x
 | [],_=>⟨fresh x,rfl,rfl⟩
 |
  v::l,h=>by
  obtain⟨w,w1,w2⟩:=oJ ha (x:=x) λv hv=>h v (Qg _ hv)
  simp only[Ck]
  split
  ·cases hf:v.fails with
   |none=>exact⟨_,rfl,rfl⟩
   |
    some t =>
    obtain⟨c,c1,_⟩:=UL ((h v (by simp)).f t hf) ha;dsimp only;rw[c1];show ∃w,(if 0<c then some ⟨x,true,some t⟩else Ck l x at_)=some w/\w.c=x
    split
    ·exact⟨_,rfl,rfl⟩
    ·exact⟨w,w1,w2⟩
  ·exact⟨w,w1,w2⟩
theorem bL{at_:Tm}(ha:Va at_){ol:List Wt}(ho:∀w∈ol,WtOk w):∀l:List Ct,∃ws,Tp ol at_ l=some ws/\ws.map (·.c)=l
 | []=>⟨[],rfl,rfl⟩
 |
  x::l=>by
  obtain⟨w,w1,w2⟩:=oJ ha (x:=x) ho;obtain⟨ws,s1,s2⟩:=bL ha ho l;exact⟨w::ws,by simp only[Tp,w1,s1];rfl,by simp[w2,s2]⟩
theorem Qdg{out:List Ct}{c x:Ct}:x∈WW out c↔x=c\/x∈out:=by
 have h:x∈out↔x∈out.take (JG out c out.length)\/x∈out.drop (JG out c out.length):=by
  rw[<-Qq,Zi]
 simp only[WW,Qq,Qm,h];constructor
 ·rintro (h|h|h)
  ·exact .inr (.inl h)
  ·exact .inl h
  ·exact .inr (.inr h)
 ·rintro (h|h|h)
  ·exact .inr (.inl h)
  ·exact .inl h
  ·exact .inr (.inr h)
theorem qF:∀(l acc:List Ct) {y:Ct},y∈l.foldl WW acc↔y∈l\/y∈acc
 | [],acc,y=>by simp
 |
  c::l,acc,y=>by
  simp only[Z7];rw[qF l,Qdg,Qm];constructor
  ·rintro (h|h|h)
   ·exact .inl (.inr h)
   ·exact .inl (.inl h)
   ·exact .inr h
  ·rintro ((h|h)|h)
   ·exact .inr (.inl h)
   ·exact .inl h
   ·exact .inr (.inr h)
theorem xT{l:List Ct}{x:Ct}:x∈Ga l↔x∈l:=by unfold Ga;rw[qF];simp
theorem Qwu{ws:List Wt}(hw:∀w∈ws,WtOk w):∃o,ID ws=some o/\match o with
 |none=>∀w∈ws,w.fails=none
 |some a=>Va a/\(∃w∈ws,w.fails=some a)/\∀w∈ws,∀t,w.fails=some t->¬Mh t a:=by
 have hv:∀t∈ws.filterMap (·.fails),Va t:=λt ht=>by
  obtain⟨w,w1,w2⟩:=Jk.1 ht;exact(hw w w1).f t w2
 unfold ID;cases hf:ws.filterMap (·.fails)with
 |
  nil =>
  refine⟨none,rfl,λw h=>?_⟩;cases e:w.fails with
  |none=>rfl
  |
   some t =>
   have:t∈ws.filterMap (·.fails):=Jk.2 ⟨w,h,e⟩;rw[hf]at this;cases this
 |
  cons b l =>
  rw[hf]at hv;obtain⟨m,m1,m2,m3⟩:=TU l b hv;refine⟨some m,by show(QA b l).map some=_;rw[m1];rfl,hv m m2,?_,λw h t e=>?_⟩
  ·rw[<-hf]at m2;exact Jk.1 m2
  ·exact m3 t (by rw[<-hf];exact Jk.2 ⟨w,h,e⟩)
theorem Qvf{t a:Tm}(ht:Va t)(ha:Va a){c:Int}(h:UD t a=some c)(h0:0<c):Mh a t:=by
 obtain⟨c',c1,c2⟩:=UL ht ha;rw[h]at c1;injection c1 with c1;subst c1;rcases c2 with⟨e,_⟩|⟨e,_⟩|⟨_,e⟩
 ·omega
 ·omega
 ·exact e
theorem oK{ol ws:List Wt}{now a:Tm}{l:List Ct}(hn:Va now)(ha:Va a)(hna:¬Mh a now)(ho:∀w∈ol,WtOk w)(hk:∀w∈ol,w.known=true->S9 w.c.p now w.fails/\∀t,w.fails=some t->t∈VG w.c.p)(h:Tp ol a l=some ws) :
 ∀w∈ws,w.known=true->S9 w.c.p a w.fails/\∀t,w.fails=some t->t∈VG w.c.p:=by
 obtain⟨h1,h2⟩:=XC h;intro w hw hkn;obtain⟨i,hi⟩:=X1 hw;have hil:i<l.length:=by rw[<-h1];exact(Qf.1 hi).1
 obtain⟨v,h3,h4⟩:=h2 i _ (Qe hil);rw[hi]at h4;injection h4 with h4;subst h4;rcases LO h3 with e|⟨v,v1,v2,v3,e,v5⟩
 ·rw[e]at hkn;cases hkn
 ·obtain⟨k1,k2⟩:=hk v v1 v2;rw[e];show S9 (l[i]).p a v.fails/\∀t,v.fails=some t->t∈VG (l[i]).p;rw[<-v3];refine⟨Ot hn.cut ha.cut hna k1 λt ht=>?_,k2⟩;obtain⟨c,c1,c2⟩:=v5 t ht;exact Qvf ((ho v v1).f t ht) ha c1 c2
structure Stab{β:Type}(Bc:Tm->List Ct)(Br:Tm->β):Prop where
 ok:BuildOk Bc
 fin:∃Ps:List (List Int),(∀p∈Ps,Cp p)/\∀a,Va a->∀x∈Bc a,x.p∈Ps
 st:∀a b,Va a->Va b->(∀x∈Bc a,Hl (Fx b) x.p=Hl (Fx a) x.p)->Bc b=Bc a/\Br b=Br a
structure KSt{β:Type}(Bc:Tm->List Ct)(Br:Tm->β)(c:Cr)(r1:β):Prop where
 inv:KInv c
 cs:c.l.map (·.c)=Ga (Bc c.now)
 r:r1=Br c.now
inductive Evs (Bc:Tm->List Ct) (t:Rat):Tm->List Tm->Prop
 |nil {a:Tm} (h:∀x∈Bc a,∃o,S9 x.p a o/\∀u,o=some u->Mh (tq t) u):Evs Bc t a []
 |cons {a e:Tm} {E:List Tm} (he:Va e) (h1:Mh a e) (h2:¬Mh (tq t) e) (h3:∀x∈Bc a,∃o,S9 x.p a o/\∀u,o=some u->¬Mh u e) (h4:∃x∈Bc a,S9 x.p a (some e)) (h5:Evs Bc t e E):Evs Bc t a (e::E)
theorem Qs5{β:Type}{Bc:Tm->List Ct}{Br:Tm->β}(S:Stab Bc Br){t:Rat}(ht:Qs 1640000 t){Ps:Ur}(hP:∀p∈Ps,Cp p)(hPs:∀a,Va a->∀x∈Bc a,x.p∈Ps) :
 ∀(m:Nat) (c:Cr) (r1:β) (n:Int),mu (Ps.flatMap VG) c.now<=m->KSt Bc Br c r1->¬Mh (tq t) c.now ->
 ∃c' r' E,HC Bc Br t (m+1) c r1 n=some (c',r',n+(E.length:Nat))/\c'.now=tq t/\KSt Bc Br c' r'/\c'.ev=c.ev+(E.length:Nat)/\E.length<=m/\Evs Bc t c.now E:=by
 have hT:∀t∈Ps.flatMap VG,Cut (Fq t):=λu hu=>by
  obtain⟨p,p1,p2⟩:=Zc.1 hu;exact(Qmb (hP p p1) u p2).cut
 have hq:=SG ht;intro m
 induction m with
 |zero=>?_
 |succ m ih=>?_
 all_goals
  intro c r1 n hm hS hnow;obtain⟨⟨ok,kk⟩,hcs,hr⟩:=hS;obtain⟨ws,w1,w2,w3⟩:=oS ok.n ok.l kk;have ok':=Et ok w1;rw[hcs]at w2;have hc_w:∀x∈Bc c.now,∃w∈ws,w.c=x:=λx hx=>by
   have:x∈ws.map (·.c):=by rw[w2];exact xT.2 hx
   exact Q6.1 this
  have hw_c:∀w∈ws,w.c∈Bc c.now:=λw hw=>xT.1 (by rw[<-w2];exact Wm hw)
  obtain⟨o,o1,o2⟩:=Qwu ok'.l;have fin:(∀w∈ws,∀u,w.fails=some u->Mh (tq t) u)->KSt Bc Br ⟨tq t,ws,c.ev⟩ r1/\Evs Bc t c.now []:=λhall=>by
   have hg:∀x∈Bc c.now,Hl (Fx (tq t)) x.p=Hl (Fx c.now) x.p:=λx hx=>by
    obtain⟨w,hw,rfl⟩:=hc_w x hx;exact qN (S.ok.p _ ok.n _ hx).dp ok.n hq hnow (w3 w hw).2.1 (hall w hw)
   obtain⟨s1,s2⟩:=S.st _ _ ok.n hq hg;refine⟨⟨⟨⟨hq,ok'.l,ok'.k⟩,λw hw _=>⟨Ot ok.n.cut hq.cut hnow (w3 w hw).2.1 (hall w hw),(w3 w hw).2.2⟩⟩,?_,?_⟩,.nil λx hx=>?_⟩
   ·show ws.map (·.c)=Ga (Bc (tq t));rw[w2,s1]
   ·show r1=Br (tq t);rw[s2,hr]
   ·obtain⟨w,hw,rfl⟩:=hc_w x hx;exact⟨_,(w3 w hw).2.1,hall w hw⟩
 ·cases o with
  |
   none =>
   obtain⟨f1,f2⟩:=fin λw hw u hu=>by rw[o2 w hw]at hu;cases hu
   exact⟨_,_,[],by simp only[HC];rw[w1];simp only[Xy];rw[o1];simp,rfl,f1,by simp,by simp,f2⟩
  |
   some a =>
   obtain⟨va,⟨w,hw,hwa⟩,hmin⟩:=o2;by_cases h0:0<Fq a t
   ·obtain⟨f1,f2⟩:=fin λv hv u hu=>by
     have hu':=(ok'.l v hv).f u hu;exact oU hq.cut va.cut hu'.cut ((KO va.cut).1 h0) (hmin v hv u hu)
    exact⟨_,_,[],by simp only[HC];rw[w1];simp only[Xy];rw[o1];simp[h0],rfl,f1,by simp,by simp,f2⟩
   ·exfalso;obtain⟨k1,k2,k3⟩:=w3 w hw;rw[hwa]at k2;have:a∈Ps.flatMap VG:=Zc.2 ⟨_,hPs _ ok.n _ (hw_c w hw),k3 a hwa⟩;have:=Qj3 ok.n.cut va.cut hT k2.2.2.1 this;omega
 ·cases o with
  |
   none =>
   obtain⟨f1,f2⟩:=fin λw hw u hu=>by rw[o2 w hw]at hu;cases hu
   exact⟨_,_,[],by simp only[HC];rw[w1];simp only[Xy];rw[o1];simp,rfl,f1,by simp,by simp,f2⟩
  |
   some a =>
   obtain⟨va,⟨w,hw,hwa⟩,hmin⟩:=o2;by_cases h0:0<Fq a t
   ·obtain⟨f1,f2⟩:=fin λv hv u hu=>by
     have hu':=(ok'.l v hv).f u hu;exact oU hq.cut va.cut hu'.cut ((KO va.cut).1 h0) (hmin v hv u hu)
    exact⟨_,_,[],by simp only[HC];rw[w1];simp only[Xy];rw[o1];simp[h0],rfl,f1,by simp,by simp,f2⟩
   ·obtain⟨k1,k2,k3⟩:=w3 w hw;rw[hwa]at k2;have hna:=yI ok.n.cut va.cut k2.2.2.1;have hmem:a∈Ps.flatMap VG:=Zc.2 ⟨_,hPs _ ok.n _ (hw_c w hw),k3 a hwa⟩;have hlt:=Qj3 ok.n.cut va.cut hT k2.2.2.1 hmem;obtain⟨w2',l1,l2⟩:=bL va ok'.l (Ga (Bc a));have hl:=oK ok.n va hna ok'.l (λv hv _=>(w3 v hv).2) l1;have hS':KSt Bc Br ⟨a,w2',c.ev+1⟩ (Br a):=⟨⟨Orr.lay_ok _ ok' va (S.ok.p a va) (S.ok.n a va) l1,hl⟩,l2,rfl⟩;obtain⟨c',r',E,g1,g2,g3,g4,g5,g6⟩:=ih ⟨a,w2',c.ev+1⟩ (Br a) (n+1) (by show mu _ a<=m;omega) hS' (λh=>h0 ((KO va.cut).2 h));refine⟨c',r',a::E,?_,g2,g3,by rw[g4];simp;omega,by simp;omega,.cons va k2.2.2.1 (λh=>h0 ((KO va.cut).2 h)) (λx hx=>?_) ⟨w.c,hw_c w hw,k2⟩ g6⟩
    ·conv=>lhs;unfold HC
     rw[w1];simp only[Xy];rw[o1];simp only[Xy];rw[if_neg h0,l1];simp only[Xy];rw[g1];simp;omega
    ·obtain⟨v,hv,rfl⟩:=hc_w x hx;exact⟨_,(w3 v hv).2.1,hmin v hv⟩
end Orq
namespace Orq
open Orr Go
theorem vK{p:Uq}{a a':Tm}(h:∀q,Fq a q=Fq a' q){o:Option Tm}(hn:S9 p a o):S9 p a' o:=by
 have e:Fq a=Fq a':=funext h;unfold S9 Leq Mh at *;rw[<-e];exact hn
theorem lP{a b:Tm}(ha:Cut (Fq a))(hb:Cut (Fq b))(h:¬Mh a b)(h':¬Mh b a):∀q,Fq a q=Fq b q:=by
 rcases tri ha hb with h1|h1|h1
 ·exact absurd h1 h
 ·exact h1
 ·exact absurd h1 h'
theorem Qbd{a b b':Tm}(h:∀q,Fq b q=Fq b' q):Mh a b↔Mh a b':=by
 unfold Mh;simp only[h]
theorem JL{a b b':Tm}(h:∀q,Fq b q=Fq b' q):Mh b a↔Mh b' a:=by
 unfold Mh;simp only[h]
theorem I3{p:Uq}{a:Tm}(ha:Va a){t t':Tm}(h:S9 p a (some t))(h':S9 p a (some t')):∀q,Fq t q=Fq t' q:=by
 obtain⟨_,v,l,s,s0,h4,h5⟩:=h;obtain⟨_,v',l',s',s0',h4',h5'⟩:=h';have es:s=s':=GA (h4 _ ha.cut (λ_ h=>h) l) (h4' _ ha.cut (λ_ h=>h) l');refine lP v.cut v'.cut (λhlt=>?_) λhlt=>?_
 ·have:=GA (h4' _ v.cut (TG ha.cut v.cut (yI ha.cut v.cut l)) hlt) h5;omega
 ·have:=GA (h4 _ v'.cut (TG ha.cut v'.cut (yI ha.cut v'.cut l')) hlt) h5';omega
theorem Py{p:Uq}{a:Tm}(ha:Va a){t:Tm}(h:S9 p a (some t))(h':S9 p a none):False:=by
 obtain⟨h1,v,l,s,s0,h4,h5⟩:=h;rcases h' with h'|⟨s',s0',h'⟩
 ·exact h1 h'
 ·have e1:=GA (h' _ ha.cut λ_ h=>h) (h4 _ ha.cut (λ_ h=>h) l);have e2:=GA (h' _ v.cut (TG ha.cut v.cut (yI ha.cut v.cut l))) h5;omega
structure Quiet{β:Type}(Bc:Tm->List Ct)(Br:Tm->β)(a b:Tm):Prop where
 va:Va a
 vb:Va b
 le:¬Mh b a
 n:∀x∈Bc a,∃o,S9 x.p a o/\∀u,o=some u->Mh b u
section
variable{β:Type}{Bc:Tm->List Ct}{Br:Tm->β}(S:Stab Bc Br)
include S
theorem Quiet.same{a b:Tm}(h:Quiet Bc Br a b):Bc b=Bc a/\Br b=Br a:=by
 refine S.st a b h.va h.vb λx hx=>?_
 obtain⟨o,o1,o2⟩:=h.n x hx;exact qN (S.ok.p _ h.va _ hx).dp h.va h.vb h.le o1 o2
theorem SV{a b:Tm}(ha:Va a)(hb:Va b)(h:∀q,Fq a q=Fq b q):Quiet Bc Br a b:=by
 refine⟨ha,hb,λh'=>I1 hb.cut hb.cut ((Qbd h).1 h') ((Qbd h).1 h'),λx hx=>?_⟩;obtain⟨r,_,r2,_⟩:=WH (S.ok.p _ ha _ hx) ha;refine⟨r,r2,λu hu=>?_⟩;subst hu;obtain⟨q,q1,q2⟩:=r2.2.2.1;exact⟨q,by rw[<-h];exact q1,q2⟩
theorem OO{t:Rat}{a:Tm}{E:List Tm}(hE:Evs Bc t a E):∀{b:Tm} {E':List Tm},Quiet Bc Br a b->Evs Bc t b E'->E.length=E'.length:=by
 induction hE with
 |
  @nil a h =>
  intro b E' hq hE';have hs:=(Quiet.same S hq).1;cases hE' with
  |nil _=>rfl
  |
   cons he h1 h2 h3 h4 h5 =>
   exfalso;obtain⟨x,hx,hx2⟩:=h4;rw[hs]at hx;obtain⟨o,o1,o2⟩:=h x hx;obtain⟨o',o1',o2'⟩:=hq.n x hx;cases o with
   |
    none =>
    cases o' with
    |none=>exact Py hq.vb hx2 (Ot hq.va.cut hq.vb.cut hq.le o1' o2')
    |some u=>exact Py hq.va o1' o1
   |
    some u =>
    cases o' with
    |none=>exact Py hq.va o1 o1'
    |
     some u' =>
     have e1:=I3 hq.va o1 o1';have e2:=I3 hq.vb (Ot hq.va.cut hq.vb.cut hq.le o1' o2') hx2;obtain⟨q,q1,q2⟩:=o2 u rfl;exact h2 ⟨q,q1,by rw[<-e2,<-e1];exact q2⟩
 |
  @cons a e E he h1 h2 h3 h4 h5 ih =>
  intro b E' hq hE';have hs:=(Quiet.same S hq).1;have nx:∀x∈Bc a,∀u,S9 x.p a (some u)->Mh b u/\S9 x.p b (some u):=λx hx u hu=>by
   obtain⟨o',o1',o2'⟩:=hq.n x hx;cases o' with
   |none=>exact(Py hq.va hu o1').elim
   |
    some u' =>
    have e1:=I3 hq.va o1' hu;have hb':=o2' u' rfl;have hb2:Mh b u:=by obtain⟨q,q1,q2⟩:=hb';exact⟨q,q1,by rw[<-e1];exact q2⟩
    exact⟨hb2,Ot hq.va.cut hq.vb.cut hq.le hu λv hv=>by injection hv with hv;subst hv;exact hb2⟩
  obtain⟨x0,hx0,hn0⟩:=h4;obtain⟨hb0,hnb0⟩:=nx x0 hx0 e hn0;cases hE' with
  |
   nil h' =>
   exfalso;obtain⟨o,o1,o2⟩:=h' x0 (by rw[hs];exact hx0);cases o with
   |none=>exact Py hq.vb hnb0 o1
   |
    some u =>
    have e1:=I3 hq.vb o1 hnb0;obtain⟨q,q1,q2⟩:=o2 u rfl;exact h2 ⟨q,q1,by rw[<-e1];exact q2⟩
  |
   @cons _ e' E'' he' h1' h2' h3' h4' h5' =>
   obtain⟨x1,hx1,hn1⟩:=h4';rw[hs]at hx1;have a1:¬Mh e' e:=λhlt=>by
    obtain⟨o,o1,o2⟩:=h3 x1 hx1;cases o with
    |
     none =>
     obtain⟨o',o1',o2'⟩:=hq.n x1 hx1;cases o' with
     |none=>exact Py hq.vb hn1 (Ot hq.va.cut hq.vb.cut hq.le o1' o2')
     |some u=>exact Py hq.va o1' o1
    |
     some u =>
     have e2:=I3 hq.vb (nx x1 hx1 u o1).2 hn1;exact o2 u rfl ((JL e2).2 hlt)
   have a2:¬Mh e e':=λhlt=>by
    obtain⟨o,o1,o2⟩:=h3' x0 (by rw[hs];exact hx0);cases o with
    |none=>exact Py hq.vb hnb0 o1
    |
     some u =>
     have e2:=I3 hq.vb o1 hnb0;exact o2 u rfl ((JL e2).2 hlt)
   have:=ih (SV S he he' (lP he.cut he'.cut a2 a1)) h5';simp[this]
theorem Qvz{t:Rat}{a:Tm}(ha:Va a){E E':List Tm}(h:Evs Bc t a E)(h':Evs Bc t a E'):E.length=E'.length:=OO S h (SV S ha ha λ_=>rfl) h'
theorem Qpm{t1 t2:Rat}(h12:t1<=t2)(ht:Va (tq t1)){a:Tm}{E1:List Tm}(h:Evs Bc t1 a E1):∀{E2 E:List Tm},Va a->¬Mh (tq t1) a->Evs Bc t2 (tq t1) E2->Evs Bc t2 a E->E.length=E1.length+E2.length:=by
 have lt12:∀{u:Tm},Mh (tq t2) u->Mh (tq t1) u:=λ⟨q,q1,q2⟩=>⟨q,by
  rw[IZ]at q1 ⊢;rcases Pg t1 q with⟨e,h⟩|⟨e,h⟩|⟨e,h⟩ <;> rcases Pg t2 q with⟨e',h'⟩|⟨e',h'⟩|⟨e',h'⟩ <;> grind,q2⟩
 induction h with
 |
  @nil a h =>
  intro E2 E ha hle h2 h';have:=OO S h' ⟨ha,ht,hle,h⟩ h2;simp[this]
 |
  @cons a e E1 he b1 b2 b3 b4 b5 ih =>
  intro E2 E ha hle h2 h';obtain⟨x0,hx0,hn0⟩:=b4;cases h' with
  |
   nil g =>
   exfalso;obtain⟨o,o1,o2⟩:=g x0 hx0;cases o with
   |none=>exact Py ha hn0 o1
   |
    some u =>
    have e1:=I3 ha o1 hn0;obtain⟨q,q1,q2⟩:=lt12 (o2 u rfl);exact b2 ⟨q,q1,by rw[<-e1];exact q2⟩
  |
   @cons _ e' E'' he' c1 c2 c3 c4 c5 =>
   obtain⟨x1,hx1,hn1⟩:=c4;have a1:¬Mh e' e:=λhlt=>by
    obtain⟨o,o1,o2⟩:=b3 x1 hx1;cases o with
    |none=>exact Py ha hn1 o1
    |some u=>exact o2 u rfl ((JL (I3 ha o1 hn1)).2 hlt)
   have a2:¬Mh e e':=λhlt=>by
    obtain⟨o,o1,o2⟩:=c3 x0 hx0;cases o with
    |none=>exact Py ha hn0 o1
    |some u=>exact o2 u rfl ((JL (I3 ha o1 hn0)).2 hlt)
   have eq:=lP he'.cut he.cut a1 a2;have hE:∃E3,Evs Bc t2 e E3/\E3.length=E''.length:=by
    have hs:=(Quiet.same S (SV S he' he eq)).1;cases c5 with
    |nil g=>exact⟨[],.nil λx hx=>by
     rw[hs]at hx;obtain⟨o,o1,o2⟩:=g x hx;exact⟨o,vK eq o1,o2⟩,rfl⟩
    |
     @cons _ f F hf d1 d2 d3 d4 d5 =>
     refine⟨f::F,.cons hf ((JL eq).1 d1) d2 (λx hx=>?_) ?_ d5,rfl⟩
     ·rw[hs]at hx;obtain⟨o,o1,o2⟩:=d3 x hx;exact⟨o,vK eq o1,o2⟩
     ·obtain⟨x,hx,hxn⟩:=d4;exact⟨x,by rw[hs];exact hx,vK eq hxn⟩
   obtain⟨E3,h3,h4⟩:=hE;have:=ih he b2 h2 h3;simp only[Q3];omega
end
theorem Qrt{p:Uq}(h:Cp p):(VG p).length<=67:=by
 obtain⟨l,l1,l2,_⟩:=JI h;unfold VG;rw[l1];exact l2
theorem Qbf:∀{Ps:Ur},(∀p∈Ps,Cp p)->(Ps.flatMap VG).length≤67*Ps.length
 | [],_=>Qh _
 |
  p::Ps,h=>by
  have h1:=Qrt (h p (by simp));have h2:=Qbf (Ps:=Ps) λq hq=>h q (Qg _ hq)
  rw[Jp,Qu,Q3];omega
theorem Qtd(T:List Tm)(a:Tm):mu T a<=T.length:=Y0 _ _
theorem Qfe{β:Type}{Bc:Tm->List Ct}{Br:Tm->β}(S:Stab Bc Br){a:Tm}(ha:Va a):KSt Bc Br ⟨a,(Ga (Bc a)).map fresh,0⟩ (Br a):=by
 refine⟨⟨⟨ha,λw hw=>?_,?_⟩,λw hw hk=>?_⟩,?_,rfl⟩
 ·obtain⟨x,hx,rfl⟩:=Q6.1 hw;exact⟨S.ok.p _ ha x (VU hx),λt ht=>by cases ht⟩
 ·show((Ga (Bc a)).map fresh).length<=1000;rw[Za,Dv];exact S.ok.n _ ha
 ·obtain⟨x,hx,rfl⟩:=Q6.1 hw;cases hk
 ·show((Ga (Bc a)).map fresh).map (·.c)=Ga (Bc a);rw[List.map_map];show(Ga (Bc a)).map (λx=>x)=_;rw[List.map_id']
end Orq
namespace Orr
open Go Go.Proofs Tryz Orq
set_option maxRecDepth 10000
theorem Qhu{a b:Pt}(ha:Sc a.c)(hb:Sc b.c):Cp (Av a b):=YS (Ml ha hb) (Mk ha hb)
def ZM(l:List Pt)(a:Tm):List Ct:=Pa (Fx a) (Sy a l)
abbrev mT(l:List Pt)(a:Tm):Uw:=U4 (Sy a l)
theorem sF{sg:Uq->Int}:∀{l:List Pt},(∀p∈l,Sc p.c)->∀x∈Pa sg l,Cp x.p
 | [],_,x,hx=>by cases hx
 | [_],_,x,hx=>by cases hx
 |
  a::b::l,h,x,hx=>by
  simp only[Pa]at hx;rcases Qm.1 hx with rfl|hx
  ·exact Qhu (h a (by simp)) (h b (by simp))
  ·exact sF (λp hp=>h p (Qg _ hp)) x hx
theorem Ht{t:Tm}{l:List Pt}{p:Pt}:p∈Sy t l↔p∈l:=by
 unfold Sy Ei;rw[WY];simp
theorem Cw(t:Tm)(l:List Pt):(Sy t l).length=l.length:=xP _ _
theorem mX{l:List Pt}(hl:∀p∈l,Sc p.c)(hn:l.length≤1000):BuildOk (ZM l) :=
 ⟨λa _ x hx=>sF (λp hp=>hl p (Ht.1 hp)) x hx,λa _=>by unfold ZM;rw[B5,Cw];omega⟩
theorem OW{l:List Pt}{a:Tm}{c:Cr}{r1:Uw}(hl:∀p∈l,Sc p.c)(hn:l.length≤1000)(ha:Va a):U8 prog 122 [.one (.ow 0 0),.agg (ta a)] [.blk 196 (Ho c (U4 l) r1)] [.one (.row (Ft (ZM l a)))] [.blk 196 (Ho c (U4 l) (mT l a))]:=by
 have cr:=uU hl (by omega) ha;have cc:=CZ (l:=Sy a l) (t:=a) (λp hp=>hl p (Ht.1 hp)) (by rw[Cw];omega) ha;refine Fz func122 rfl ?_;exact Ul [] [0] [.k Iv,.k cr,.k cc] rfl
theorem Qce{l:List Pt}{a:Tm}(hl:∀p∈l,Sc p.c)(hn:l.length≤1000)(ha:Va a):U8 prog 122 [.one (.ow 0 0),.agg (ta a)] [.blk 196 (nR (.row (U4 l)) .nils)] [.one (.row (Ft (ZM l a)))] [.blk 196 (nR (.row (U4 l)) (.row (mT l a)))]:=by
 have cr:=uU hl (by omega) ha;have cc:=CZ (l:=Sy a l) (t:=a) (λp hp=>hl p (Ht.1 hp)) (by rw[Cw];omega) ha;refine Fz func122 rfl ?_;exact Ul [] [0] [.k Iv,.k cr,.k cc] rfl
def Qym(l:List Pt)(a:Tm):Cr:=⟨a,(Ga (ZM l a)).map fresh,0⟩
end Orr
namespace Orq
open Orr Go
theorem XR{a:Tm}(ha:Va a):∀(L:Ur),(∀p∈L,Dp p)->∃y,Fq a y=-1/\∀q,Fq a q=-1->q≤y->∀p∈L,Hl (Fx a) p=Fh (Fa p q)
 |
  [],_=>by
  obtain⟨y,hy⟩:=ha.cut.hi;exact⟨y,hy,λq _ _ p hp=>by cases hp⟩
 |
  p::L,h=>by
  obtain⟨y,y1,y2⟩:=XR ha L (λq hq=>h q (Qg _ hq));by_cases h0:p.length=0
  ·obtain rfl:=Qj h0;refine⟨y,y1,λq q1 q2 r hr=>?_⟩;rcases Qm.1 hr with rfl|hr
   ·rw[XH];exact(Gs.2 rfl).symm
   ·exact y2 q q1 q2 r hr
  ·obtain⟨⟨z,z1,z2⟩,_⟩:=Ep ha (h p (by simp)) h0;refine⟨if y<=z then y else z,by split <;> assumption,λq q1 q2 r hr=>?_⟩;rcases Qm.1 hr with rfl|hr
   ·rw[<-Fb];exact(z2 q q1 (by grind)).symm
   ·exact y2 q q1 (by grind) r hr
section Srt
variable{α:Type}{lt:α->α->Bool}{R:α->α->Prop}
theorem zE(irr:∀x,¬R x x)(tr:∀x y z,R x y->R y z->R x z):∀{l m:List α},l.Pairwise R->m.Pairwise R->(∀x,x∈l↔x∈m)->l=m
 | [],[],_,_,_=>rfl
 | [],y::m,_,_,h=>by have:=(h y).2 (by simp);cases this
 |x::l,[],_,_,h=>by have:=(h x).1 (by simp);cases this
 |
  x::l,y::m,hl,hm,h=>by
  rw[Zh]at hl hm;have e:x=y:=by
   rcases Qm.1 ((h x).1 (by simp))with e|h1
   ·exact e
   ·rcases Qm.1 ((h y).2 (by simp))with e|h2
    ·exact e.symm
    ·exact absurd (tr _ _ _ (hl.1 y h2) (hm.1 x h1)) (irr x)
  subst e;rw[zE irr tr hl.2 hm.2 λz=>?_];constructor
  ·intro hz;rcases Qm.1 ((h z).1 (Qg _ hz))with e|h1
   ·subst e;exact absurd (hl.1 z hz) (irr z)
   ·exact h1
  ·intro hz;rcases Qm.1 ((h z).2 (Qg _ hz))with e|h1
   ·subst e;exact absurd (hm.1 z hz) (irr z)
   ·exact h1
theorem zM{out:List α}{x:α}:∀k,k<=out.length->(∀j y,Eb lt out x k<=j->j<k->out[j]? = some y->lt x y=true)/\(0<Eb lt out x k->∃y,out[Eb lt out x k-1]? = some y/\lt x y=false)
 | 0,_=>⟨λj y _ h=>by omega,λh=>by simp[Eb]at h⟩
 |
  k+1,hk=>by
  obtain⟨y,hy⟩:=gxE (l:=out) (i:=k) (by omega);by_cases h:lt x y=true
  ·rw[Qaq hy h];obtain⟨h1,h2⟩:=zM (out:=out) (x:=x) k (by omega);refine⟨λj z a1 a2 a3=>?_,h2⟩;by_cases e:j=k
   ·subst e;rw[hy]at a3;injection a3 with a3;subst a3;exact h
   ·exact h1 j z a1 (by omega) a3
  ·have h:lt x y=false:=by simpa using h
   rw[tR hy h];exact⟨λj z a1 a2 _=>by omega,λ_=>⟨y,by simpa using hy,h⟩⟩
theorem Qpu(tr:∀x y z,R x y->R y z->R x z){out:List α}{x:α}(ho:out.Pairwise R)(h1:∀y∈out,lt x y=true->R x y)(h2:∀y∈out,lt x y=false->R y x):(Lz lt out x).Pairwise R:=by
 obtain⟨s1,s2⟩:=zM (lt:=lt) (out:=out) (x:=x) out.length (Qk _);have hle:=vD lt out x out.length;unfold Lz;obtain⟨k,hk⟩:=nmE (Eb lt out x out.length);rw[<-hk]at s1 s2 hle ⊢;have hd:(out.take k++out.drop k).Pairwise R:=by rw[Zi];exact ho
 obtain⟨d1,d2,d3⟩:=X2.1 hd;have hR:∀y∈out.drop k,R x y:=λy hy=>by
  obtain⟨i,hi⟩:=X1 hy;rw[Xe]at hi;have:k+i<out.length:=(Qf.1 hi).1;exact h1 y (Qz hy) (s1 (k+i) y (by omega) this hi)
 have hL:∀y∈out.take k,R y x:=λy hy=>by
  obtain⟨i,hi⟩:=X1 hy;have hik:i<k:=by have:=(Qf.1 hi).1;simp at this;omega
  rw[Kh hik]at hi;obtain⟨z,z1,z2⟩:=s2 (by omega);have hz:=h2 z (Qc z1) z2;by_cases e:i=k-1
  ·subst e;rw[hi]at z1;injection z1 with z1;subst z1;exact hz
  ·have hp:=Yd.1 ho i (k-1) (by omega) (by omega) (by omega);obtain⟨_,e1⟩:=Qf.1 hi;obtain⟨_,e2⟩:=Qf.1 z1;rw[e1,e2]at hp;exact tr _ _ _ hp hz
 refine X2.2 ⟨d1,Zh.2 ⟨hR,d2⟩,λy hy z hz=>?_⟩;rcases Qm.1 hz with rfl|hz
 ·exact hL y hy
 ·exact d3 y hy z hz
theorem LU(tr:∀x y z,R x y->R y z->R x z){S:α->Prop}(h1:∀x y,S x->S y->lt x y=true->R x y){D:α->α->Prop}(h2:∀x y,S x->S y->D y x->lt x y=false->R y x) :
 ∀(l acc:List α),acc.Pairwise R->(∀x∈acc,S x)->(∀x∈l,S x)->l.Pairwise D->(∀x∈acc,∀y∈l,D x y)->(l.foldl (Lz lt) acc).Pairwise R
 | [],acc,ha,_,_,_,_=>ha
 |
  x::l,acc,ha,hs,hl,hd,hx=>by
  rw[Zh]at hd;refine LU tr h1 h2 l (Lz lt acc x) ?_ ?_ (λy hy=>hl y (Qg _ hy)) hd.2 ?_
  ·exact Qpu tr ha (λy hy=>h1 x y (hl x (by simp)) (hs y hy)) (λy hy=>h2 x y (hl x (by simp)) (hs y hy) (hx y hy x (by simp)))
  ·intro y hy;rcases FM.1 hy with rfl|hy
   ·exact hl _ (by simp)
   ·exact hs y hy
  ·intro y hy z hz;rcases FM.1 hy with rfl|hy
   ·exact hd.1 z hz
   ·exact hx y hy z (Qg _ hz)
theorem zL:∀{l:List α},l.Pairwise R->∀{u v:α},u∈l->v∈l->u≠v->R u v\/R v u
 | [],_,_,_,h,_,_=>by cases h
 |
  x::l,hp,u,v,hu,hv,hne=>by
  rw[Zh]at hp;rcases Qm.1 hu with e|hu
  ·rcases Qm.1 hv with e'|hv
   ·exact absurd (e.trans e'.symm) hne
   ·rw[e];exact .inl (hp.1 v hv)
  ·rcases Qm.1 hv with e'|hv
   ·rw[e'];exact .inr (hp.1 u hu)
   ·exact zL hp.2 hu hv hne
end Srt
def px(p:Pt)(q:Rat):Rat:=Fa p.c.x q / (p.c.d:Rat)
def py(p:Pt)(q:Rat):Rat:=Fa p.c.y q / (p.c.d:Rat)
def C9(q:Rat)(x y:Pt):Prop:=px x q<px y q\/px x q=px y q/\(py x q<py y q\/py x q=py y q/\x.id<y.id)
theorem XE(q:Rat)(x:Pt):¬C9 q x x:=by unfold C9;grind
theorem YL(q:Rat)(x y z:Pt)(h:C9 q x y)(h':C9 q y z):C9 q x z:=by unfold C9 at *;grind
theorem rV{q:Rat}{x y:Pt}(h:x.id≠y.id)(h':¬C9 q x y):C9 q y x:=by unfold C9 at *;grind
theorem xR{u v:Rat}{c d:Int}(hc:0<c)(hd:0<d):Fh (v*(c:Rat)-u*(d:Rat))=Fh (v / (d:Rat)-u / (c:Rat)):=by
 have hc':(0:Rat)<(c:Rat):=by exact_mod_cast hc
 have hd':(0:Rat)<(d:Rat):=by exact_mod_cast hd
 have e:v*(c:Rat)-u*(d:Rat)=((c:Rat)*(d:Rat))*(v / (d:Rat)-u / (c:Rat)):=by
  rw[J7,J7];have h1:=Wv (c:Rat) (by grind);have h2:=Wv (d:Rat) (by grind);grind
 rw[e,Cy (Xv hc' hd')]
theorem SJ{x y:Pt}(hx:Sc x.c)(hy:Sc y.c)(q:Rat):Fh (Fa (Gd x.c y.c) q)=Fh (px y q-px x q):=by
 unfold Gd px;rw[Ss,Rr,Rr];exact xR hx.n.2.2.1 hy.n.2.2.1
theorem SX{x y:Pt}(hx:Sc x.c)(hy:Sc y.c)(q:Rat):Fh (Fa (Gb x.c y.c) q)=Fh (py y q-py x q):=by
 unfold Gb py;rw[Ss,Rr,Rr];exact xR hx.n.2.2.1 hy.n.2.2.1
theorem BN{a:Tm}(ha:Va a){x y:Pt}(hx:Sc x.c)(hy:Sc y.c){q:Rat}(h1:Hl (Fx a) (Gd x.c y.c)=Fh (Fa (Gd x.c y.c) q))(h2:Hl (Fx a) (Gb x.c y.c)=Fh (Fa (Gb x.c y.c) q)):Tv (Fx a) x y=true↔C9 q x y:=by
 rw[SJ hx hy]at h1;rw[SX hx hy]at h2;have d1:=(Ml hx hy).dp;have d2:=(Mk hx hy).dp;unfold Tv;simp only[Ea];have t1:=Ge (px y q-px x q);have t2:=Ge (py y q-py x q);by_cases e1:(Gd x.c y.c).length=0
 ·rw[if_neg (by omega)];rw[Qj e1,XH]at h1;have:px x q=px y q:=by grind
  by_cases e2:(Gb x.c y.c).length=0
  ·rw[if_neg (by omega)];rw[Qj e2,XH]at h2;unfold C9;simp only[decide_eq_true_eq];grind
  ·rw[if_pos (by omega)];have:=(Ep ha d2 e2).2;unfold C9;simp only[decide_eq_true_eq];grind
 ·rw[if_pos (by omega)];have:=(Ep ha d1 e1).2;unfold C9;simp only[decide_eq_true_eq];grind
def Ek(l:List Pt):Ur:=l.flatMap λx=>l.flatMap λy=>[Gd x.c y.c,Gb x.c y.c]
theorem Sl{l:List Pt}{x y:Pt}(hx:x∈l)(hy:y∈l):Gd x.c y.c∈Ek l/\Gb x.c y.c∈Ek l :=
 ⟨Zc.2 ⟨x,hx,Zc.2 ⟨y,hy,by simp⟩⟩,Zc.2 ⟨x,hx,Zc.2 ⟨y,hy,by simp⟩⟩⟩
theorem QY{l:List Pt}(hl:∀p∈l,Sc p.c):∀p∈Ek l,Cp p:=λp hp=>by
 obtain⟨x,hx,hp⟩:=Zc.1 hp;obtain⟨y,hy,hp⟩:=Zc.1 hp;simp at hp;rcases hp with rfl|rfl
 ·exact Ml (hl x hx) (hl y hy)
 ·exact Mk (hl x hx) (hl y hy)
theorem Qa4{l:List Pt}(hl:∀p∈l,Sc p.c)(hd:l.Pairwise λx y=>x.id≠y.id){a:Tm}(ha:Va a):∃y,Fq a y=-1/\∀q,Fq a q=-1->q≤y->(∀u∈l,∀v∈l,(Tv (Fx a) u v=true↔C9 q u v))/\(Sy a l).Pairwise (C9 q):=by
 obtain⟨y,y1,y2⟩:=XR ha (Ek l) λp hp=>(QY hl p hp).dp
 refine⟨y,y1,λq q1 q2=>?_⟩;have h:=y2 q q1 q2;have hb:∀u∈l,∀v∈l,(Tv (Fx a) u v=true↔C9 q u v):=λu hu v hv=>BN ha (hl u hu) (hl v hv) (h _ (Sl hu hv).1) (h _ (Sl hu hv).2)
 refine⟨hb,?_⟩;exact LU (S:=λx=>x∈l) (D:=λx y=>x.id≠y.id) (YL q) (λu v hu hv h=>(hb u hu v hv).1 h) (λu v hu hv hne h=>rV (λe=>hne e.symm) λh'=>by
  rw[(hb u hu v hv).2 h']at h;cases h) l [] .nil (λx hx=>by cases hx) (λx hx=>hx) hd (λx hx=>by cases hx)
theorem cM{a b:Tm}{x y:Pt}(h:Hl (Fx b) (Av x y)=Hl (Fx a) (Av x y)):Tv (Fx b) x y=Tv (Fx a) x y:=by
 unfold Av Ly at h;unfold Tv;simp only[Ea];by_cases e1:0<(Gd x.c y.c).length
 ·rw[if_pos e1,if_pos e1];rw[if_pos e1]at h;rw[h]
 ·rw[if_neg e1,if_neg e1];rw[if_neg e1]at h;rw[h]
theorem CB{a b:Tm}{q r:Rat}:∀(l:List Pt),(∀u∈l,∀v∈l,(Tv (Fx a) u v=true↔C9 q u v))->(∀u∈l,∀v∈l,(Tv (Fx b) u v=true↔C9 r u v))->l.Pairwise (C9 q)->(∀x∈Pa (Fx a) l,Hl (Fx b) x.p=Hl (Fx a) x.p)->l.Pairwise (C9 r)/\Pa (Fx b) l=Pa (Fx a) l
 | [],_,_,_,_=>⟨.nil,rfl⟩
 | [x],_,_,_,_=>⟨Kn _ _,rfl⟩
 |
  x::y::l,ha,hb,hp,hc=>by
  rw[Zh]at hp;obtain⟨i1,i2⟩:=CB (a:=a) (b:=b) (q:=q) (r:=r) (y::l) (λu hu v hv=>ha u (Qg _ hu) v (Qg _ hv)) (λu hu v hv=>hb u (Qg _ hu) v (Qg _ hv)) hp.2 (λz hz=>hc z (by simp only[Pa];exact Qg _ hz));have h0:Hl (Fx b) (Av x y)=Hl (Fx a) (Av x y):=hc (ZZ (Fx a) x y) (by simp[Pa]);have h1:C9 r x y:=(hb x (by simp) y (by simp)).1 (by rw[cM h0];exact(ha x (by simp) y (by simp)).2 (hp.1 y (by simp)));refine⟨Zh.2 ⟨λz hz=>?_,i1⟩,?_⟩
  ·rcases Qm.1 hz with rfl|hz
   ·exact h1
   ·exact YL r x y z h1 ((Zh.1 i1).1 z hz)
  ·simp only[Pa];rw[i2];congr 1;unfold ZZ;rw[h0]
theorem SQ{sg:Uq->Int}:∀{l:List Pt},∀x∈Pa sg l,∃u∈l,∃v∈l,x.p=Av u v
 | [],x,hx=>by cases hx
 | [_],x,hx=>by cases hx
 |
  a::b::l,x,hx=>by
  simp only[Pa]at hx;rcases Qm.1 hx with rfl|hx
  ·exact⟨a,by simp,b,by simp,rfl⟩
  ·obtain⟨u,hu,v,hv,e⟩:=SQ (l:=b::l) x hx;exact⟨u,Qg _ hu,v,Qg _ hv,e⟩
theorem zW{l:List Pt}{u v:Pt}(hu:u∈l)(hv:v∈l):Av u v∈Ek l:=by
 unfold Av Ly;split
 ·exact(Sl hu hv).1
 ·exact(Sl hu hv).2
theorem eH{l:List Pt}{a:Tm}:∀x∈ZM l a,x.p∈Ek l:=λx hx=>by
 obtain⟨u,hu,v,hv,e⟩:=SQ x hx;rw[e];exact zW (Ht.1 hu) (Ht.1 hv)
theorem Qe6(l:List Pt):(Ek l).length=l.length*(l.length*2):=by
 have h1:∀(x:Pt) (m:List Pt),(m.flatMap λy=>[Gd x.c y.c,Gb x.c y.c]).length=m.length*2:=λx m=>by
  induction m with
  |nil=>rfl
  |cons y m ih=>rw[Jp,Qu,ih,Q3];simp;omega
 have h2:∀m:List Pt,(m.flatMap λx=>l.flatMap λy=>[Gd x.c y.c,Gb x.c y.c]).length=m.length*(l.length*2):=λm=>by
  induction m with
  |nil=>simp
  |cons y m ih=>rw[Jp,Qu,ih,Q3,h1,Xn,Ku,Jv]
 exact h2 l
theorem sR{l:List Pt}(hl:∀p∈l,Sc p.c)(hd:l.Pairwise λx y=>x.id≠y.id){a b:Tm}(ha:Va a)(hb:Va b)(h:∀x∈ZM l a,Hl (Fx b) x.p=Hl (Fx a) x.p):Sy b l=Sy a l/\ZM l b=ZM l a:=by
 obtain⟨q,q1,q2⟩:=Qa4 hl hd ha;obtain⟨r,r1,r2⟩:=Qa4 hl hd hb;obtain⟨a1,a2⟩:=q2 q q1 Qp;obtain⟨b1,b2⟩:=r2 r r1 Qp;obtain⟨c1,c2⟩:=CB (a:=a) (b:=b) (Sy a l) (λu hu v hv=>a1 u (Ht.1 hu) v (Ht.1 hv)) (λu hu v hv=>b1 u (Ht.1 hu) v (Ht.1 hv)) a2 h;have e:Sy b l=Sy a l:=zE (XE r) (YL r) b2 c1 λx=>by rw[Ht,Ht]
 exact⟨e,by unfold ZM;rw[e,c2]⟩
theorem Q0c{l:List Pt}(hl:∀p∈l,Sc p.c)(hn:l.length≤1000)(hd:l.Pairwise λx y=>x.id≠y.id):Stab (ZM l) (mT l):=by
 refine⟨mX hl hn,⟨Ek l,QY hl,λa _ x hx=>?_⟩,λa b ha hb h=>?_⟩
 ·obtain⟨u,hu,v,hv,e⟩:=SQ x hx;rw[e];exact zW (Ht.1 hu) (Ht.1 hv)
 ·obtain⟨e1,e2⟩:=sR hl hd ha hb h;exact⟨e2,by unfold mT;rw[e1]⟩
end Orq
namespace Orq
theorem ang{ux uy vx vy wx wy:Rat}(hu:0<ux\/ux=0/\0<uy)(hv:0<vx\/vx=0/\0<vy)(hw:0<wx\/wx=0/\0<wy)
 (h1:0<=ux*vy-vx*uy) (h2:0<=vx*wy-wx*vy):0<=ux*wy-wx*uy/\(0<ux*vy-vx*uy\/0<vx*wy-wx*vy->0<ux*wy-wx*uy):=by
 have ux0:0<=ux:=by grind
 have wx0:0<=wx:=by grind
 rcases hv with hv|⟨hv,hv2⟩
 ·have e:vx*(ux*wy-wx*uy)=ux*(vx*wy-wx*vy)+wx*(ux*vy-vx*uy):=by grind
  have hux:0<ux:=by
   rcases hu with h|⟨h,h'⟩
   ·exact h
   ·have:=Xv hv h';rw[h]at h1;grind
  have p1:=Vz ux0 h2;have p2:=Vz wx0 h1;have key:∀z:Rat,vx*z=ux*(vx*wy-wx*vy)+wx*(ux*vy-vx*uy)->0<=z:=λz hz=>by
   refine W0.1 λhn=>?_
   have:=Xv hv (show 0 < -z by grind);grind
  refine⟨key _ e,λhs=>?_⟩;rcases hw with hw|⟨hw,hw2⟩
  ·have hpos:0<vx*(ux*wy-wx*uy):=by
    rcases hs with hs|hs
    ·have:=Xv hw hs;grind
    ·have:=Xv hux hs;grind
   have h0:=key _ e;refine Js.1 λhn=>?_
   have:ux*wy-wx*uy=0:=by grind
   rw[this]at hpos;grind
  ·have:=Xv hux hw2;rw[hw];grind
 ·rw[hv]at h1 h2;have hw0:wx=0:=by
   rcases hw with hw|hw
   ·have:=Xv hw hv2;grind
   ·exact hw.1
  have hwy:0<wy:=by grind
  have p:=Vz ux0 (Qt hwy);refine⟨by rw[hw0];grind,λhs=>?_⟩;rw[hv,hw0]at hs;have hux:0<ux:=by
   rcases hs with hs|hs
   ·refine Js.1 λhn=>?_
    have:ux=0:=by grind
    rw[this]at hs;grind
   ·grind
  have:=Xv hux hwy;rw[hw0];grind
section
variable{α:Type}(X Y:α->Rat)
def lx(a b:α):Prop:=X a<X b\/X a=X b/\Y a<Y b
def Bl(a b c:α):Rat:=(X b-X a)*(Y c-Y a)-(X c-X a)*(Y b-Y a)
variable{X Y}
theorem L6(a:α):¬lx X Y a a:=by unfold lx;grind
theorem rF{a b c:α}(h:lx X Y a b)(h':lx X Y b c):lx X Y a c:=by unfold lx at *;grind
theorem L8{a b:α}(h:lx X Y a b):0<X b-X a\/X b-X a=0/\0<Y b-Y a:=by unfold lx at h;grind
theorem GK(a b:α):Bl X Y a b a=0/\Bl X Y a b b=0:=by unfold Bl;grind
theorem rI(a b c:α):Bl X Y a c b=- Bl X Y a b c:=by unfold Bl;grind
theorem vR(a b c:α):Bl X Y a b c=(X b-X a)*(Y c-Y b)-(X c-X b)*(Y b-Y a):=by unfold Bl;grind
def Edg(Q:α->α->Prop):List α->Prop
 |a::b::r=>Q a b/\Edg Q (b::r)
 |_=>True
def Cnv(R:α->α->α->Prop):List α->Prop
 |a::b::c::r=>R a b c/\Cnv R (b::c::r)
 |_=>True
theorem Edg.tail{Q:α->α->Prop}{a:α}{l:List α}(h:Edg Q (a::l)):Edg Q l:=by
 cases l with
 |nil=>trivial
 |cons b l=>exact h.2
theorem Cnv.tail{R:α->α->α->Prop}{a:α}{l:List α}(h:Cnv R (a::l)):Cnv R l:=by
 match l,h with
 | [],_=>trivial
 | [_],_=>trivial
 |b::c::l,h=>exact h.2
def Lt(s:α->α->α->Bool)(c:α):List α->List α
 |b::a::r=>if s a b c=true then b::a::r else Lt s c (a::r)
 |l=>l
def Ma(s:α->α->α->Bool):List α->List α->List α
 |acc,[]=>acc
 |acc,c::l=>Ma s (c::Lt s c acc) l
structure Stk(X Y:α->Rat)(P:List α)(st:List α):Prop where
 srt:st.Pairwise λb a=>lx X Y a b
 mem:∀p∈st,p∈P
 edg:Edg (λb a=>∀p∈P,0≤Bl X Y a b p) st
 cnv:Cnv (λc b a=>0<Bl X Y a b c) st
theorem Stk.tail{P:List α}{a:α}{st:List α}(h:Stk X Y P (a::st)):Stk X Y P st:=⟨(Zh.1 h.srt).2,λp hp=>h.mem p (Qg _ hp),h.edg.tail,h.cnv.tail⟩
theorem Qkt{P:List α}{s:α->α->α->Bool}{c:α}(hs:∀a∈P,∀b∈P,(s a b c=true↔0<Bl X Y a b c))(hc:∀p∈P,lx X Y p c) :
 ∀(st:List α) (t:α),Stk X Y P (t::st)->(∀p∈P,lx X Y t p->0≤Bl X Y t c p) ->
 ∃t' st',Lt s c (t::st)=t'::st'/\Stk X Y P (t'::st')/\(∀p∈P,lx X Y t' p->0≤Bl X Y t' c p)/\(∀a r,st'=a::r->0<Bl X Y a t' c)/\(t'::st').getLast? = (t::st).getLast?
 | [],t,h,h2=>⟨t,[],rfl,h,h2,λa r e=>(by cases e),rfl⟩
 |
  a::r,t,h,h2=>by
  have ht:=h.mem t (by simp);have ha:=h.mem a (by simp);by_cases e:s a t c=true
  ·refine⟨t,a::r,by simp only[Lt];rw[if_pos e],h,h2,λa' r' e'=>?_,rfl⟩;injection e' with e1 _
   rw[<-e1];exact(hs a ha t ht).1 e
  ·have hle:Bl X Y a t c<=0:=W0.1 λh'=>e ((hs a ha t ht).2 h')
   have hat:lx X Y a t:=(Zh.1 h.srt).1 a (by simp);obtain⟨t',st',g1,g2,g3,g4,g5⟩:=Qkt hs hc r a h.tail λp hp hap=>by
    have e1:=h.edg.1 p hp;have k:=ang (L8 (hc a ha)) (L8 hat) (L8 hap) (by rw[rI]at *;unfold Bl at *;grind) (by unfold Bl at *;grind);unfold Bl;grind
   exact⟨t',st',by simp only[Lt];rw[if_neg e];exact g1,g2,g3,g4,by rw[g5];rfl⟩
theorem qQ{P:List α}{c:α}:∀(st:List α) (t:α),Stk X Y P (t::st)->lx X Y t c->(∀a r,st=a::r->0<Bl X Y a t c)->Edg (λb a=>0<Bl X Y a b c) (t::st)
 | [],_,_,_,_=>trivial
 | [a],t,_,_,h=>⟨h a [] rfl,trivial⟩
 |
  a::q::r,t,hS,htc,h=>by
  have h1:=h a (q::r) rfl;have h0:0<Bl X Y q a t:=hS.cnv.1;have p1:=Zh.1 hS.srt;have p2:=Zh.1 p1.2;have hat:lx X Y a t:=p1.1 a (by simp);have hqa:lx X Y q a:=p2.1 q (by simp);refine⟨h1,qQ (q::r) a hS.tail (rF hat htc) λa' r' e=>?_⟩;injection e with e _;rw[<-e];rw[vR]at h0 h1 ⊢;have k:=(ang (L8 hqa) (L8 hat) (L8 htc) (Qt h0) (Qt h1)).2 (.inl h0);grind
theorem Qqu{P:List α}{t:α}{st:List α}{c:α}(h:Stk X Y P (t::st))(hc:∀p∈P,lx X Y p c)(hP:∀p∈P,p=t\/lx X Y p t\/lx X Y t p)(hb:∀p∈P,(t::st).getLast? = some p\/∃b,(t::st).getLast? = some b/\lx X Y b p)(h2:∀p∈P,lx X Y t p->0≤Bl X Y t c p)(h3:∀a r,st=a::r->0<Bl X Y a t c):Stk X Y (P++[c]) (c::t::st):=by
 have ht:=h.mem t (by simp);have htc:=hc t ht;have hf:=qQ st t h htc h3;refine⟨Zh.2 ⟨λp hp=>hc p (h.mem p hp),h.srt⟩,λp hp=>?_,⟨λp hp=>?_,?_⟩,?_⟩
 ·rcases Qm.1 hp with rfl|hp
  ·simp
  ·exact Z8 _ (h.mem p hp)
 ·rcases Qq.1 hp with hp|hp
  ·rcases hP p hp with rfl|hpt|htp
   ·rw[(GK p c).1];exact Qp
   ·cases st with
    |
     nil =>
     exfalso;rcases hb p hp with e|⟨b,e,hb⟩
     ·injection e with e;subst e;exact L6 _ hpt
     ·injection e with e;subst e;exact L6 _ (rF hpt hb)
    |
     cons a r =>
     have e1:=h.edg.1 p hp;have h3:=h3 a r rfl;have hat:lx X Y a t:=(Zh.1 h.srt).1 a (by simp);have k:=(ang (L8 hpt) (L8 hat) (L8 htc) (by unfold Bl at *;grind) (by unfold Bl at *;grind)).1;unfold Bl;grind
   ·exact h2 p hp htp
  ·rw[Ql.1 hp,(GK t c).2];exact Qp
 ·cases st with
  |nil=>trivial
  |
   cons a r =>
   have key:∀l:List α,Edg (λb a=>∀p∈P,0≤Bl X Y a b p) l->Edg (λb a=>0<Bl X Y a b c) l->Edg (λb a=>∀p∈P++[c],0≤Bl X Y a b p) l:=by
    intro l
    induction l with
    |nil=>intros;trivial
    |
     cons x l ih =>
     cases l with
     |nil=>intros;trivial
     |
      cons y l =>
      intro k1 k2;refine⟨λp hp=>?_,ih k1.2 k2.2⟩;rcases Qq.1 hp with hp|hp
      ·exact k1.1 p hp
      ·rw[Ql.1 hp];exact Qt k2.1
   exact key _ h.edg hf
 ·cases st with
  |nil=>trivial
  |cons a r=>exact⟨h3 a r rfl,h.cnv⟩
theorem OR{s:α->α->α->Bool}{row:List α}(hs:∀a∈row,∀b∈row,∀c∈row,(s a b c=true↔0<Bl X Y a b c))(hrow:row.Pairwise (lx X Y)) :
 ∀(l P:List α) (t:α) (st:List α),row=P++l->Stk X Y P (t::st)->P.getLast? = some t->(t::st).getLast? = P.head? ->
 ∃t' st',Ma s (t::st) l=t'::st'/\Stk X Y row (t'::st')/\row.getLast? = some t'/\(t'::st').getLast? = row.head?
 |
  [],P,t,st,e,h,h1,h2=>by
  rw[Zv]at e;subst e;exact⟨t,st,rfl,h,h1,h2⟩
 |
  c::l,P,t,st,e,h,h1,h2=>by
  have hPm:∀p∈P,p∈row:=λp hp=>by rw[e];exact Z8 _ hp
  have hcm:c∈row:=by rw[e];simp
  have hpw:=hrow;rw[e]at hpw;obtain⟨w1,w2,w3⟩:=X2.1 hpw;have hc:∀p∈P,lx X Y p c:=λp hp=>w3 p hp c (by simp)
  have htop:∀p∈P,p=t\/lx X Y p t:=λp hp=>by
   obtain⟨P1,rfl⟩:∃P1,P=P1++[t]:=by
    have:=Y8.1 h1;exact this
   rcases Qq.1 hp with hp|hp
   ·exact .inr ((X2.1 w1).2.2 p hp t (by simp))
   ·exact .inl (Ql.1 hp)
  obtain⟨t',st',g1,g2,g3,g4,g5⟩:=Qkt (λa ha b hb=>hs a (hPm a ha) b (hPm b hb) c hcm) hc st t h λp hp htp=>by
   rcases htop p hp with rfl|h'
   ·exact absurd htp (L6 _)
   ·exact absurd (rF htp h') (L6 _)
  have tot:∀p∈P,p=t'\/lx X Y p t'\/lx X Y t' p:=λp hp=>by
   obtain⟨i,hi,rfl⟩:=V2.1 hp;obtain⟨j,hj,e2⟩:=V2.1 (g2.mem t' (by simp));rcases Kq i j with h'|h'|h'
   ·exact .inr (.inl (by rw[<-e2];exact Yd.1 w1 i j hi hj h'))
   ·subst h';exact .inl e2
   ·exact .inr (.inr (by rw[<-e2];exact Yd.1 w1 j i hj hi h'))
  have hPne:P≠[]:=λh'=>by rw[h']at h1;cases h1
  have hb:∀p∈P,(t'::st').getLast? = some p\/∃b,(t'::st').getLast? = some b/\lx X Y b p:=λp hp=>by
   rw[g5,h2];cases P with
   |nil=>exact absurd rfl hPne
   |
    cons f P' =>
    rcases Qm.1 hp with rfl|hp
    ·exact .inl rfl
    ·exact .inr ⟨f,rfl,(Zh.1 w1).1 p hp⟩
  have hpush:=Qqu g2 hc tot hb g3 g4;obtain⟨t2,st2,k1,k2,k3,k4⟩:=OR hs hrow l (P++[c]) c (t'::st') (by rw[e];simp) hpush (by simp) (by
   rw[J1,g5,h2];cases P with
   |nil=>exact absurd rfl hPne
   |cons f P'=>rfl)
  exact⟨t2,st2,by simp only[Ma];rw[g1];exact k1,k2,k3,k4⟩
theorem Qhn{P:List α}(tot:∀p∈P,∀q∈P,p=q\/lx X Y p q\/lx X Y q p){z:α} :
 ∀(L L':List α) (f:α),(f::L).Pairwise (lx X Y)->(f::L').Pairwise (lx X Y)->(∀p∈f::L,p∈P)->(∀p∈f::L',p∈P) ->
 Edg (λa b=>∀p∈P,0≤Bl X Y a b p) (f::L)->Edg (λa b=>∀p∈P,0≤Bl X Y a b p) (f::L') ->
 Cnv (λa b c=>0<Bl X Y a b c) (f::L)->Cnv (λa b c=>0<Bl X Y a b c) (f::L')->(f::L).getLast? = some z->(f::L').getLast? = some z->L=L':=by
 have one:∀(L L':List α) (f b b':α),(f::b::L).Pairwise (lx X Y)->(f::b'::L').Pairwise (lx X Y)->(∀p∈f::b::L,p∈P)->b'∈P ->
  Edg (λa b=>∀p∈P,0≤Bl X Y a b p) (f::b::L)->0≤Bl X Y f b' b->Cnv (λa b c=>0<Bl X Y a b c) (f::b::L)->(f::b::L).getLast? = some z->(f::b'::L').getLast? = some z->¬lx X Y b b':=by
  intro L L' f b b' s s' m m' e e' c l l' hlt;have s1:=Zh.1 s;have hfb:lx X Y f b:=s1.1 b (by simp);have hcol:Bl X Y f b b'=0:=by
   have:=e.1 b' m';rw[rI]at e';grind
  cases L with
  |
   nil =>
   simp at l;subst l;have hz:b'=b\/lx X Y b' b:=by
    have:b∈f::b'::L':=V3 l';have s2:=(Zh.1 s').2;rcases Qm.1 this with rfl|h
    ·exact absurd hfb (L6 _)
    ·rcases Qm.1 h with h|h
     ·exact .inl h.symm
     ·exact .inr ((Zh.1 s2).1 b h)
   rcases hz with rfl|hz
   ·exact L6 _ hlt
   ·exact L6 _ (rF hlt hz)
  |
   cons d M =>
   have h1:0<Bl X Y f b d:=c.1;have h2:=e.2.1 b' m';have s2:=Zh.1 s1.2;have hbd:lx X Y b d:=s2.1 d (by simp);have k:=(ang (L8 hlt) (L8 hfb) (L8 hbd) (by unfold Bl at hcol;grind) (by rw[vR]at h1;exact Rat.le_of_lt h1)).2 (.inr (by rw[vR]at h1;exact h1));unfold Bl at h2;grind
 intro L
 induction L with
 |
  nil =>
  intro L' f s s' m m' e e' c c' l l';simp at l;cases L' with
  |nil=>rfl
  |
   cons b' M' =>
   exfalso;subst l;have h1:=(Zh.1 s').1 f (by
    rw[J1]at l';exact V3 l')
   exact L6 _ h1
 |
  cons b M ih =>
  intro L' f s s' m m' e e' c c' l l';cases L' with
  |
   nil =>
   exfalso;simp at l';subst l';have h1:=(Zh.1 s).1 f (by
    rw[J1]at l;exact V3 l)
   exact L6 _ h1
  |
   cons b' M' =>
   have hb:=m b (by simp);have hb':=m' b' (by simp);have heq:b=b':=by
    rcases tot b hb b' hb' with h|h|h
    ·exact h
    ·exact absurd h (one M M' f b b' s s' m hb' e (e'.1 b hb) c l l')
    ·exact absurd h (one M' M f b' b s' s m' hb e' (e.1 b' hb') c' l' l)
   subst heq;rw[J1]at l l';rw[ih M' b (Zh.1 s).2 (Zh.1 s').2 (λp hp=>m p (Qg _ hp)) (λp hp=>m' p (Qg _ hp)) e.2 e'.2 c.tail c'.tail l l']
end
end Orq
namespace Orr
open Go
structure RawInt where
 b:Bool
 l:List Nat
structure RawPt where
 x:List RawInt
 y:List RawInt
 d:RawInt
 id:Int
abbrev Ed(z:RawInt):Uv:=[.bool z.b,Q14 z.l]
structure RawInt.Ok(z:RawInt):Prop where
 u:∀u∈z.l,u<4294967296
structure RawPt.Ok(z:RawPt):Prop where
 x:∀a∈z.x,a.Ok
 y:∀a∈z.y,a.Ok
 d:z.d.Ok
 id:-9223372036854775808<=z.id/\z.id<=9223372036854775807
def H8(most:Int)(z:RawInt):Int:=match z.l with
 | []=>0
 |u::_=>if z.b=true then -((u:Int) % (most+1))else(u:Int) % (most+1)
theorem WG{most:Int}(h:0<=most)(z:RawInt):-most<=H8 most z/\H8 most z<=most:=by
 unfold H8
 split
 ·omega
 ·rename_i u _ _;have h1:=Yf (u:Int) (b:=most+1) (by omega);have h2:=Jt (u:Int) (b:=most+1) (by omega)
  split <;> omega
def Gu(most:Int)(l:List RawInt):Uq:=(l.take 3).map (H8 most)
def Qpz(most:Int)(x y:List RawInt)(d:RawInt):Crv:=⟨Gu most x,Gu most y,H8 3 d⟩
theorem PG(most:Int)(l:List RawInt):(Gu most l).length<=3:=by unfold Gu;rw[List.length_map,List.length_take];omega
theorem yA{most:Int}{l:List RawInt}{i:Nat}{z:RawInt}(hi:i<3)(h:l[i]? = some z):Gu most (l.take (i+1))=Gu most (l.take i)++[H8 most z]:=by
 unfold Gu;rw[List.take_take,List.take_take,V5 (by omega),V5 (by omega),Z3,h];simp
theorem PU(most:Int){l:List RawInt}{i:Nat}(h:l.length<=i\/3<=i):Gu most (l.take i)=Gu most l:=by
 unfold Gu;rw[List.take_take];rcases Nat.le_total 3 i with h3|h3
 ·rw[Zx h3]
 ·rcases h with h|h
  ·rw[V5 h3,Qn (l:=l) (i:=i) (by omega),Qn (l:=l) (i:=3) (by omega)]
  ·rw[V5 h3,show i=3 by omega]
theorem PH{most:Int}{l:List RawInt}{z:Int}(hm:0<=most)(h:z∈Gu most l):-most<=z/\z<=most:=by
 obtain⟨a,_,rfl⟩:=Q6.1 h;exact WG hm a
theorem Qcx{most:Int}(hm:0<=most/\most<=999)(x y:List RawInt)(d:RawInt):Cs 10 3 (Qpz most x y d):=by
 have key:∀z:Int,-999<=z/\z<=999->Fg z<=10:=λz h=>S6.2 (by omega)
 refine⟨λz hz=>?_,λz hz=>?_,?_,PG _ _,PG _ _⟩
 ·have:=PH hm.1 hz;exact key _ (by omega)
 ·have:=PH hm.1 hz;exact key _ (by omega)
 ·have:=WG (most:=3) (by decide) d;show Fg (H8 3 d)<=10;exact key _ (by omega)
end Orr
namespace Orr
def Cc(l:List Pt):Prop:=l.Pairwise λa b=>a.id<b.id
theorem Qja(p:Pt)(l:List Pt)(id:Int):has (p::l) id=if p.id<id then has l id else decide (p.id=id):=by
 by_cases h:p.id<id
 ·rw[if_pos h];unfold has;simp only[Tc];rw[if_pos h];simp
 ·rw[if_neg h];unfold has;simp only[Tc];rw[if_neg h];simp
theorem Qky(p:Pt)(l:List Pt)(q:Pt):put (p::l) q=if p.id<q.id then p::put l q else q::p::l:=by
 unfold put;simp only[Tc]
 split <;> simp
theorem AX:∀{l:List Pt} {q:Pt},Cc l->has l q.id=false->Cc (put l q)
 | [],q,_,_=>by simp[put,Tc,Cc]
 |
  p::l,q,h,hn=>by
  have h1:=Zh.1 h;rw[Qja]at hn;rw[Qky]
  split
  ·rename_i hlt;rw[if_pos hlt]at hn;refine Zh.2 ⟨λx hx=>?_,AX h1.2 hn⟩;rcases NC hx with rfl|hx
   ·exact hlt
   ·exact h1.1 x hx
  ·rename_i hge;rw[if_neg hge,decide_eq_false_iff_not]at hn;refine Zh.2 ⟨λx hx=>?_,h⟩;rcases Qm.1 hx with rfl|hx
   ·omega
   ·have:=h1.1 x hx;omega
end Orr
namespace Orr
open Go
section
variable{α:Type}{lt:α->α->Bool}
theorem Qdh(out:List α)(c:α):(Lz lt out c).Perm (c::out):=by
 unfold Lz;exact(List.perm_middle).trans (by rw[Zi])
theorem LK:∀(l acc:List α),(l.foldl (Lz lt) acc).Perm (l++acc)
 | [],acc=>List.Perm.refl _
 |
  c::l,acc=>by
  simp only[Z7];exact(LK l _).trans (((Qdh acc c).append_left l).trans List.perm_middle)
theorem lZ(l:List α):(Ei lt l).Perm l:=by
 have:=LK (lt:=lt) l [];rwa[Zv]at this
end
end Orr
namespace Orr
open Go
theorem Qix(c:Int)(l:Uq):Tg (l.map (· * c))=Tg l*c.natAbs:=by
 have key:∀(l:Uq) (g:Nat),(l.map (· * c)).foldl (λg z=>Nat.gcd g z.natAbs) (g*c.natAbs)=l.foldl (λg z=>Nat.gcd g z.natAbs) g*c.natAbs:=by
  intro l
  induction l with
  |nil=>intro g;rfl
  |
   cons z l ih =>
   intro g;simp only[Zz,Z7,Ya,Nat.gcd_mul_right];exact ih _
 have:=key l 0;rwa[Ym]at this
theorem Qz5{M:List Pt}(hs:Cc M){i j:Nat}{p r:Pt}(hij:i<j)(hi:M[i]? = some p)(hj:M[j]? = some r):p.id<r.id:=by
 obtain⟨h1,e1⟩:=Qf.1 hi;obtain⟨h2,e2⟩:=Qf.1 hj;rw[<-e1,<-e2];exact Yd.1 hs i j h1 h2 hij
theorem Qi6{M:List Pt}{i:Nat}(hi:i<M.length):(M.take i++M.drop (i+1)).length+1=M.length:=by
 rw[Qu,Qr,Q9];omega
end Orr
namespace Orr
def Rq(a b:Crv):Uq:=A7 (Gl (Gd a b) (Gd a b)) (Gl (Gb a b) (Gb a b))
def Hh(a b c d:Crv):Uq:=Ni (Fv (Rq c d) ((a.d*b.d)*(a.d*b.d))) (Fv (Rq a b) ((c.d*d.d)*(c.d*d.d)))
theorem tJ{a b:Crv}(ha:Cb a)(hb:Cb b):Fe (Rq a b)/\(Rq a b).length<=31/\Bd 4194312 (Rq a b):=by
 obtain⟨_,l1,b1⟩:=tY ha hb;obtain⟨_,l2,b2⟩:=tX ha hb;have m1:=H9 (Gd a b) (Gd a b);have m2:=H9 (Gb a b) (Gb a b);have q1:=Pp (u:=5) b1 b1 (by omega);have q2:=Pp (u:=5) b2 b2 (by omega);refine⟨Fy _ _,?_,U7 (YY q1 q2) (by omega)⟩;have:=Lj (Gl (Gd a b) (Gd a b)) (Gl (Gb a b) (Gb a b));unfold Rq;omega
theorem bN{a b:Crv}(ha:Cb a)(hb:Cb b):Fg (a.d*b.d)<=2097152:=by
 have:=Gf a.d b.d;have:=ha.d;have:=hb.d;omega
theorem oQ{a b:Crv}(ha:Cb a)(hb:Cb b):Fg ((a.d*b.d)*(a.d*b.d))<=4194304:=by
 have:=Gf (a.d*b.d) (a.d*b.d);have:=bN ha hb;omega
def Bi(sg:Uq->Int)(a b c d:Pt):Ct:=⟨5,a.id,b.id,c.id,d.id,Hh a.c b.c c.c d.c,Hl sg (Hh a.c b.c c.c d.c)⟩
theorem EV(sg:Uq->Int)(a b c d:Pt):(Bi sg a b c d).p=Hh a.c b.c c.c d.c:=by rw[Bi]
def Ra:Nat->List Pt->List (Pt×Pt)
 | 0,_=>[]
 |_+1,[]=>[]
 |k+1,x::l=>l.map (λy=>(x,y))++Ra k l
def Gh(l:List Pt):List (Pt×Pt):=Ra l.length l
theorem Lq:∀(l:List Pt) (i:Nat) (x:Pt),l[i]? = some x->Ra (i+1) l=Ra i l++(l.drop (i+1)).map (λy=>(x,y))
 | [],i,x,h=>by simp at h
 |
  y::l,0,x,h=>by
  simp at h;subst h;simp[Ra]
 |
  y::l,i+1,x,h=>by
  have h:l[i]? = some x:=by simpa using h
  have ih:=Lq l i x h;show l.map (λz=>(y,z))++Ra (i+1) l=(l.map (λz=>(y,z))++Ra i l)++_;rw[ih,Ze];rfl
theorem Ty:∀(k:Nat) (l:List Pt),∀m∈Ra k l,m.1∈l/\m.2∈l
 | 0,l,m,h=>by simp[Ra]at h
 |k+1,[],m,h=>by simp[Ra]at h
 |
  k+1,x::l,m,h=>by
  rcases Qq.1 h with h|h
  ·obtain⟨y,hy,rfl⟩:=Q6.1 h;exact⟨Qy ..,Qg _ hy⟩
  ·obtain⟨h1,h2⟩:=Ty k l m h;exact⟨Qg _ h1,Qg _ h2⟩
theorem WP:∀(k:Nat) (l:List Pt),(Ra k l).length<=k*l.length
 | 0,l=>by simp[Ra]
 |k+1,[]=>by simp[Ra]
 |
  k+1,x::l=>by
  have:=WP k l;simp only[Ra,Qu,Za,Q3];have e:(k+1)*(l.length+1)=k*l.length+k+l.length+1:=by rw[Xn,Xk];omega
  omega
def Mb(sg:Uq->Int)(s m:Pt×Pt):Pt×Pt:=if Hl sg (Hh s.1.c s.2.c m.1.c m.2.c)<0 then m else s
def Hq(sg:Uq->Int)(s:Pt×Pt)(ps:List (Pt×Pt)):Pt×Pt:=ps.foldl (Mb sg) s
theorem TP(sg:Uq->Int)(s m:Pt×Pt):Mb sg s m=m\/Mb sg s m=s:=by
 unfold Mb
 split
 ·exact .inl rfl
 ·exact .inr rfl
theorem ZX(sg:Uq->Int)(s m:Pt×Pt)(ps:List (Pt×Pt)):Hq sg s (m::ps)=Hq sg (Mb sg s m) ps:=by unfold Hq;rw[List.foldl_cons]
theorem vV(sg:Uq->Int)(s:Pt×Pt)(ps:List (Pt×Pt))(m:Pt×Pt):Hq sg s (ps++[m])=Mb sg (Hq sg s ps) m:=by simp[Hq]
theorem Ln(sg:Uq->Int){l:List Pt}:∀(ps:List (Pt×Pt)) (s:Pt×Pt),s.1∈l/\s.2∈l->(∀m∈ps,m.1∈l/\m.2∈l)->(Hq sg s ps).1∈l/\(Hq sg s ps).2∈l
 | [],s,hs,_=>hs
 |
  m::ps,s,hs,h=>by
  have hn:(Mb sg s m).1∈l/\(Mb sg s m).2∈l:=by
   rcases TP sg s m with e|e
   ·rw[e];exact h m (Qy ..)
   ·rw[e];exact hs
  rw[ZX];exact Ln sg ps (Mb sg s m) hn λx hx=>h x (Qg _ hx)
def ZT(s m:Pt×Pt):Bool:=decide (m.1.id≠s.1.id) || decide (m.2.id≠s.2.id)
def Nb(sg:Uq->Int)(s:Pt×Pt)(ps:List (Pt×Pt)):List Ct:=(ps.filter (ZT s)).map λm=>Bi sg s.1 s.2 m.1 m.2
theorem Qpf{sg:Uq->Int}{s m:Pt×Pt}{ps:List (Pt×Pt)}(h:ZT s m=true):Nb sg s (ps++[m])=Nb sg s ps++[Bi sg s.1 s.2 m.1 m.2]:=by simp[Nb,Vk,h]
theorem Qpe{sg:Uq->Int}{s m:Pt×Pt}{ps:List (Pt×Pt)}(h:ZT s m=false):Nb sg s (ps++[m])=Nb sg s ps:=by simp[Nb,Vk,h]
theorem ON{sg:Uq->Int}{s:Pt×Pt}{ps:List (Pt×Pt)}{c:Ct}(h:c∈Nb sg s ps):∃x∈ps,Bi sg s.1 s.2 x.1 x.2=c:=by
 unfold Nb at h;obtain⟨x,hx,e⟩:=Q6.1 h;exact⟨x,(Yj.1 hx).1,e⟩
theorem OM(sg:Uq->Int)(s:Pt×Pt)(ps:List (Pt×Pt)):(Nb sg s ps).length<=ps.length:=by
 unfold Nb;rw[Za];exact Y0 _ _
def JK(sg:Uq->Int):List Pt->List Pt
 |a::b::l=>[(Hq sg (a,b) (Gh (a::b::l))).1,(Hq sg (a,b) (Gh (a::b::l))).2]
 |_=>[]
def Lp(sg:Uq->Int):List Pt->List Ct
 |a::b::l=>Nb sg (Hq sg (a,b) (Gh (a::b::l))) (Gh (a::b::l))
 |_=>[]
theorem Qdz(sg:Uq->Int){l:List Pt}(h:l.length<2):JK sg l=[]/\Lp sg l=[]:=by
 match l,h with
 | [],_=>exact⟨rfl,rfl⟩
 | [a],_=>exact⟨rfl,rfl⟩
theorem Qxq{l:List Pt}(h:¬l.length<2):∃a b m,l=a::b::m:=by
 match l,h with
 | [],h=>simp at h
 | [a],h=>simp at h
 |a::b::m,_=>exact⟨a,b,m,rfl⟩
theorem zG(sg:Uq->Int)(l:List Pt):(Lp sg l).length<=l.length*l.length:=by
 match l with
 | []=>simp[Lp]
 | [a]=>simp[Lp]
 |a::b::m=>exact Qa (OM _ _ _) (WP _ _)
def Ip(l:List Ur):Uw:=l.map λr=>[.row (r.map λp=>[pl p])]
abbrev JP(r:Ur):Uw:=r.map λp=>[pl p]
theorem VX(l:List Ur):(Ip l).length=l.length:=by simp[Ip]
def JQ(i:Nat)(rows:List Ur):Nat->List Ur
 | 0=>[]
 |j+1=>if j=i then JQ i rows j else JQ i rows j++[(rows.getD j []).drop 1]
def VC(rows:List Ur)(i:Nat):List Ur:=JQ i rows rows.length
def Do(f:Nat->Uq)(rows:List Ur):Nat->Uq
 | 0=>[]
 |
  i+1=>if ((rows.getD i []).getD 0 []).length=0 then Do f rows i else
  if i % 2=0 then A7 (Do f rows i) (Gl ((rows.getD i []).getD 0 []) (f i))else Ni (Do f rows i) (Gl ((rows.getD i []).getD 0 []) (f i))
def Lr:Nat->List Ur->Uq
 | 0,_=>[1]
 |k+1,rows=>Do (λi=>Lr k (VC rows i)) rows (k+1)
structure Sq(s:Nat)(ds:List Nat)(k w:Nat)(rows:List (List (List Int))):Prop where
 l:rows.length=k
 w:∀r∈rows,r.length=w
 t:∀r∈rows,∀p∈r,Fe p
 b:∀r∈rows,∀p∈r,Bd s p
 n:∀r∈rows,∀(j:Nat) (p:List Int),r[j]? = some p->p.length≤ds.getD j 0+1
theorem EY{i:Nat}{rows:List Ur}:∀{j:Nat} {r:Ur},j≤rows.length->r∈JQ i rows j->∃q∈rows,r=q.drop 1
 | 0,r,_,h=>by simp[JQ]at h
 |
  j+1,r,hj,h=>by
  simp only[JQ]at h
  split at h
  ·exact EY (by omega) h
  ·rcases Qq.1 h with h|h
   ·exact EY (by omega) h
   ·rw[Ql.1 h];exact⟨rows.getD j [],Qc (i:=j) (by rw[Qi,Qe (by omega)];rfl),rfl⟩
theorem EJ{i:Nat}{rows:List Ur}:∀(j:Nat),(JQ i rows j).length=if i<j then j-1 else j
 | 0=>rfl
 |
  j+1=>by
  have ih:=EJ (i:=i) (rows:=rows) j;simp only[JQ]
  split
  ·rename_i e;subst e;rw[ih,if_neg (by omega),if_pos (by omega)];omega
  ·rw[Qu,ih,Vv]
   split <;> split <;> omega
theorem Sq.min{s d k w:Nat}{ds:Us}{rows:List Ur}(h:Sq s (d::ds) (k+1) (w+1) rows){i:Nat}(hi:i<k+1):Sq s ds k w (VC rows i):=by
 have hl:=h.l;have hm:∀{r:Ur},r∈VC rows i->∃q∈rows,r=q.drop 1:=λh=>EY (Qk _) h
 refine⟨by unfold VC;rw[EJ,hl,if_pos hi];omega,λr hr=>?_,λr hr p hp=>?_,λr hr p hp=>?_,λr hr j p hp=>?_⟩
 ·obtain⟨q,hq,rfl⟩:=hm hr;rw[Q9,h.w q hq];omega
 all_goals obtain⟨q,hq,rfl⟩:=hm hr
 ·exact h.t q hq p (Qz hp)
 ·exact h.b q hq p (Qz hp)
 ·rw[Xe]at hp;have:=h.n q hq (1+j) p hp;rw[Jv 1 j]at this;exact this
theorem Sq.at{s d k w:Nat}{ds:Us}{rows:List Ur}(h:Sq s (d::ds) k (w+1) rows){i:Nat}(hi:i<k):∃p r,rows[i]? = some (p::r)/\(rows.getD i []).getD 0 []=p/\Fe p/\Bd s p/\p.length<=d+1:=by
 obtain⟨r,hr⟩:=gxE (l:=rows) (i:=i) (by rw[h.l];exact hi);have hm:=Qc hr;cases r with
 |nil=>have:=h.w _ hm;simp at this
 |
  cons p r =>
  have e:rows.getD i []=p::r:=by rw[Qi,hr];rfl
  refine⟨p,r,hr,by rw[e];rfl,h.t _ hm p (by simp),h.b _ hm p (by simp),h.n _ hm 0 p rfl⟩
theorem jI{s d k w:Nat}{ds:Us}{f:Nat->Uq}{rows:List Ur}{B L:Nat}(h:Sq s (d::ds) k (w+1) rows)(hn:d<31)(hf:∀i,i<k->Bd B (f i)/\(f i).length<=L+1):∀i,i<=k->Fe (Do f rows i)/\Bd (s+B+5+i) (Do f rows i)/\(Do f rows i).length<=d+L+1
 | 0,_=>⟨rfl,λz hz=>(by cases hz),Qh _⟩
 |
  i+1,hi=>by
  obtain⟨h1,h2,h3⟩:=jI h hn hf i (by omega);obtain⟨p,r,_,e,t,b,l⟩:=h.at (i:=i) (by omega);obtain⟨f1,f2⟩:=hf i (by omega);have hp1:Bd (s+B+5) (Gl p (f i)):=Pp b f1 (by omega);have hp2:=H9 p (f i);simp only[Do];rw[e]
  split
  ·exact⟨h1,U7 h2 (by omega),h3⟩
  ·split
   ·exact⟨Fy _ _,U7 (YY h2 hp1) (by omega),Qa (Lj _ _) (by omega)⟩
   ·exact⟨Fy _ _,U7 (Dw h2 hp1) (by omega),Qa (Pm _ _) (by omega)⟩
theorem VQ{s:Nat}:∀(k:Nat) (ds:Us) (rows:List Ur),k<=4->ds.length=k->ds.sum<31->Sq s ds k k rows->Fe (Lr k rows)/\Bd (k*(s+10)+1) (Lr k rows)/\(Lr k rows).length<=ds.sum+1
 | 0,ds,rows,_,_,_,_=>⟨rfl,λz hz=>(by simp[Lr]at hz;subst hz;rw[Ym];decide),by simp[Lr]⟩
 |k+1,[],rows,_,hl,_,_=>by simp at hl
 |
  k+1,d::ds,rows,hk,hl,hd,h=>by
  rw[Kx]at hd;have ih:=λi (hi:i<k+1)=>VQ k ds (VC rows i) (by omega) (by simpa using hl) (by omega) (h.min hi)
  obtain⟨h1,h2,h3⟩:=jI (f:=λi=>Lr k (VC rows i)) (B:=k*(s+10)+1) (L:=ds.sum) h (by omega) (λi hi=>⟨(ih i hi).2.1,(ih i hi).2.2⟩) (k+1) (Qk _);have e1:(k+1)*(s+10)=k*(s+10)+(s+10):=Xc ..;rw[Kx];exact⟨h1,U7 h2 (by omega),h3⟩
def EF(a b c:Crv):List Ur:=[[a.x,a.y,[a.d]],[b.x,b.y,[b.d]],[c.x,c.y,[c.d]]]
def G7(a b c:Crv):Uq:=Lr 3 (EF a b c)
end Orr
