/- T24 T25 G1 G2 SortL KinL K1 K2 F6 F7 F8 F9 G3 G4 K3 K4 KGoL SplitL S1 SortQ HullG RawL NewsL BegL TurnL PairN DetL -/
import Derived.Test.YtoohlnnpalgnaaaGreatPart06
import Derived.Test.YtoohlnnpalgnaaaGreatPart00
import Derived.Test.YtoohlnnpalgnaaaGreatPart05
import Derived.Test.YtoohlnnpalgnaaaGreatPart04
set_option linter.all false
namespace Orq
open Orr Go
theorem Qgu:∀{k:Nat} {a b:Um} {l:Un},pZ k a b=some l->∀p∈l,p.length≠0
 | 0,_,_,_,h=>by cases h
 |
  k+1,a,b,l,h=>by
  simp only[pZ]at h
  split at h
  ·injection h with h;subst h;exact λp hp=>by cases hp
  ·rename_i h0;obtain⟨r,_,h⟩:=Qd.1 h;obtain⟨l',h1,h⟩:=Qd.1 h;injection h with h;subst h;intro p hp;rcases Qn.1 hp with rfl|hp
   ·exact h0
   ·exact Qgu h1 p hp
theorem Okp.pb{n s:Nat}{p:Um}(h:Okp n s p)(hs:s<=16777216):Pb p:=⟨h.t,by have:=h.l;have:=h.z.1;omega,U6 h.b hs⟩
theorem Qb0{p:Um}{q:Um}{l:Un}(hp:Pb p)(h:Eg p=some (q::l))(hq:q.length≠0):∀r∈q::l,Fg r/\r.length≠0:=by
 have h1:=(Orr.chain_ok hp h).2;unfold Eg at h;obtain⟨a,_,h⟩:=Qd.1 h
 split at h
 ·cases h
 ·obtain⟨d,_,h⟩:=Qd.1 h;obtain⟨l',h3,h⟩:=Qd.1 h;injection h with h;injection h with e1 e2;subst e1;subst e2;intro r hr;refine⟨(h1 r hr).t,?_⟩;rcases Qn.1 hr with rfl|hr
  ·exact hq
  ·exact Qgu h3 r hr
inductive RI (q:List Int) (L:List (List Rat)):Rat->List Tm->Rat->Prop
 |nil {lo hi:Rat} (h:lo<=hi) (hv:vv L lo=vv L hi):RI q L lo [] hi
 |cons {lo hi:Rat} {t:Tm} {l:List Tm} (h:lo<=t.lo) (hv:vv L lo=vv L t.lo) (ht:Vt (cz q) L t.lo t.hi) (hp:t.p=q) (hl:RI q L t.hi l hi):RI q L lo (t::l) hi
theorem RI.app{q:Um}{L:Uq}{lo m hi:Rat}{l l':List Tm}(h:RI q L lo l m)(h':RI q L m l' hi):RI q L lo (l++l') hi:=by
 induction h with
 |
  nil h hv =>
  cases h' with
  |nil h2 hv2=>exact .nil (by grind) (by omega)
  |cons h2 hv2 ht hp hl=>exact .cons (by grind) (by omega) ht hp hl
 |cons h hv ht hp _ ih=>exact .cons h hv ht hp (ih h')
theorem Qgx{D M k:Nat}{m:Rat}(h:Gr D M k m)(hM:0<M)(hs:Ff (D:Int)+Ff (M:Int)+k<=16777216):chq m=some m:=by
 have:=qW h hM hs;unfold chq;rw[if_pos ⟨this.1,this.2⟩]
theorem NU{q:Um}{c:Un}(hS:HF (cz q) (c.map cz))(tq:Fg q)(nq:q.length<=9)(hc1:q.length<2->c=[q]){D M F:Nat}(hM:0<M):∀(k j:Nat) (lo hi:Rat),lo<hi->Gr D M j lo->Gr D M j hi->Ff (D:Int)+Ff (M:Int)+(j+k)<=16777216->(hi-lo)*((2^(Si q q+1):Nat):Rat)<=((2^k:Nat):Rat) ->
 ∃l,Iq q c (F+k+1) lo hi ((vv (c.map cz) lo:Int)-(vv (c.map cz) hi:Int))=some l/\RI q (c.map cz) lo l hi/\∀t∈l,∃k',k'≤j+k/\Gr D M k' t.lo/\Gr D M k' t.hi:=by
 intro k
 induction k with
 |
  zero =>
  intro j lo hi hl g1 g2 hs hK;have hle:=A5 hS hl;have h2:vv (c.map cz) lo<vv (c.map cz) hi+2:=by
   rcases Zb (vv (c.map cz) lo) (vv (c.map cz) hi+2)with h|h
   ·exact h
   ·exfalso;have lq:2<=q.length:=by
     rcases Zb q.length 2 with e|e
     ·have hvv:∀x,vv (c.map cz) x=vv (c.map cz) 0:=λx=>by
       rcases hS with⟨c0,hc0,hcc,hl'⟩|⟨g',l',k',hk,hg,hsc,hl'⟩
       ·rw[hl'];simp only[vv,tc,hcc]
       ·rw[hc1 e]at hl';cases hl'
      rw[hvv lo,hvv hi]at h;omega
     ·exact e
    have:=Qrd hS tq nq lq hl h;rw[Ve]at hK;have h7:((1:Nat):Rat)=1:=rfl;rw[h7]at hK;grind
  simp only[Iq];by_cases e0:vv (c.map cz) lo=vv (c.map cz) hi
  ·rw[if_pos (by omega)];exact⟨[],rfl,.nil (Qt hl) e0,λt ht=>by cases ht⟩
  ·rw[if_neg (by omega),if_pos (by omega)];refine⟨[⟨q,lo,hi⟩],rfl,.cons Qr rfl ⟨hS,hl,by show vv _ lo=vv _ hi+1;omega⟩ rfl (.nil Qr rfl),λt ht=>?_⟩;rw[Qk.1 ht];exact⟨j,by omega,g1,g2⟩
 |
  succ k ih =>
  intro j lo hi hl g1 g2 hs hK;have hle:=A5 hS hl;show ∃l,(if (vv (c.map cz) lo:Int)-(vv (c.map cz) hi:Int)=0 then some []else if (vv (c.map cz) lo:Int)-(vv (c.map cz) hi:Int)=1 then some [⟨q,lo,hi⟩]else(chq (mid lo hi)).bind λm=>(Iq q c (F+k+1) lo m (Ts c lo m)).bind λl=>(Iq q c (F+k+1) m hi ((vv (c.map cz) lo:Int)-(vv (c.map cz) hi:Int)-Ts c lo m)).bind λr=>some (l++r))=some l/\_;by_cases e0:vv (c.map cz) lo=vv (c.map cz) hi
  ·rw[if_pos (by omega)];exact⟨[],rfl,.nil (Qt hl) e0,λt ht=>by cases ht⟩
  by_cases e1:vv (c.map cz) lo=vv (c.map cz) hi+1
  ·rw[if_neg (by omega),if_pos (by omega)];refine⟨[⟨q,lo,hi⟩],rfl,.cons Qr rfl ⟨hS,hl,e1⟩ rfl (.nil Qr rfl),λt ht=>?_⟩;rw[Qk.1 ht];exact⟨j,by omega,g1,g2⟩
  ·rw[if_neg (by omega),if_neg (by omega)];obtain⟨m,hm⟩:=nmE ((lo+hi) / 2);have h2:(lo+hi) / 2*2=lo+hi:=Hg (by decide);rw[<-hm]at h2;have gm:Gr D M (j+1) m:=by rw[hm];exact Qia g1 g2
   have l1:lo<m:=by grind
   have l2:m<hi:=by grind
   rw[bW,<-hm,Qgx gm hM (by omega)];show ∃l,((Iq q c (F+k+1) lo m (Ts c lo m)).bind λl=>(Iq q c (F+k+1) m hi ((vv (c.map cz) lo:Int)-(vv (c.map cz) hi:Int)-Ts c lo m)).bind λr=>some (l++r))=some l/\_;rw[QK (Qt l1),show(vv (c.map cz) lo:Int)-(vv (c.map cz) hi:Int)-((vv (c.map cz) lo:Int)-(vv (c.map cz) m:Int))=(vv (c.map cz) m:Int)-(vv (c.map cz) hi:Int) by omega];rw[rE k]at hK;have hp:∀x y:Rat,(y-x)*2=hi-lo->(y-x)*((2^(Si q q+1):Nat):Rat)<=((2^k:Nat):Rat):=λx y h=>by
    have:(y-x)*((2^(Si q q+1):Nat):Rat)*2=(hi-lo)*((2^(Si q q+1):Nat):Rat):=by rw[<-h];grind
    grind
   obtain⟨la,a1,a2,a3⟩:=ih (j+1) lo m l1 (qU g1) gm (by omega) (hp lo m (by grind));obtain⟨lb,b1,b2,b3⟩:=ih (j+1) m hi l2 gm (qU g2) (by omega) (hp m hi (by grind));rw[a1];show ∃l,((Iq q c (F+k+1) m hi ((vv (c.map cz) m:Int)-(vv (c.map cz) hi:Int))).bind λr=>some (la++r))=some l/\_;rw[b1];refine⟨la++lb,rfl,a2.app b2,λt ht=>?_⟩;rcases Qq.1 ht with ht|ht
   ·obtain⟨k',h1,h2,h3⟩:=a3 t ht;exact⟨k',by omega,h2,h3⟩
   ·obtain⟨k',h1,h2,h3⟩:=b3 t ht;exact⟨k',by omega,h2,h3⟩
theorem Qvi{D M k:Nat}{q:Rat}(h:Gr D M k q):Gr D M k (-q):=by
 obtain⟨u,hu⟩:=h.u;exact⟨⟨-u,by rw[Vn,<-hu];grind⟩,by rw[Ew];exact h.b,h.d⟩
theorem fO{m s:Nat}(h:m<2^s):Ff ((m+1:Nat):Int)<=s+1:=by
 rw[Sj,Xh,Zr];omega
theorem Qct{z:Int}{s:Nat}(h:Ff z<=s):Ff ((z.natAbs+1:Nat):Int)<=s+1:=fO (Sj.1 h)
theorem Qq2{x:Rat}{m s g N:Nat}(hx:x<=2*((m+1:Nat):Rat))(hm:m+1<=2^s)(hN:s+1+g<=N):x*((2^g:Nat):Rat)<=((2^N:Nat):Rat):=by
 have h3:=Zm.2 hm;have e:=rE s;have h4:(0:Rat)<=((2^s:Nat):Rat):=Xi;have h1:x<=((2^(s+1):Nat):Rat):=by rw[e];grind
 have h5:(0:Rat)<=((2^g:Nat):Rat):=Xi;refine Zl (Ze h1 h5) ?_;have h6:2^(s+1)*2^g<=2^N:=by
  rw[<-Xf];exact Zs (by decide) hN
 have:=Zm.2 h6;rw[Rat.natCast_mul]at this;exact this
theorem Qmw{s:Nat}{l:Um}(h:Bd s l):most l<2^s:=by
 have key:∀(l:Um) (m:Nat),m<2^s->Bd s l->l.foldl (λm z=>if m<z.natAbs then z.natAbs else m) m<2^s:=by
  intro l
  induction l with
  |nil=>exact λm h _=>h
  |
   cons y l ih =>
   intro m hm hb;simp only[Z9];refine ih _ ?_ λz hz=>hb z (Qg _ hz)
   have:=hb y (Qy ..);rw[Sj]at this
   split <;> assumption
 exact key l 0 (Z2 (by decide)) h
theorem Qul{p q:Um}(h:OX p=some q):q=p:=by
 unfold OX at h
 split at h
 ·injection h with h;exact h.symm
 ·cases h
theorem Qdk{s N:Nat}{p:Um}(hNe:N=63*s+5160)(hs9:s≤1180)(h:Okp 9 s p):∃q c l,Pw p=some q/\Eg p=some c/\PG p=some l/\HF (cz q) (c.map cz)/\RI q (c.map cz) (-Gy q) l (Gy q)/\(∀t∈l,Va t)/\(∀x y,x<y->Gy q≤x\/y≤-Gy q->vv (c.map cz) x=vv (c.map cz) y)/\q.length≤p.length/\∀t∈l,t.p=q/\t.lo<t.hi/\Bd (s+69) q/\∃D M k,Gr D M k t.lo/\Gr D M k t.hi/\0<M/\Ff (D:Int)≤s+69/\Ff (M:Int)≤s+70/\k≤N:=by
 obtain⟨pp,hpl,hpb⟩:=h.pr;obtain⟨g,q',hq',sq⟩:=VW h;obtain⟨q,l,q1,q2,hS,hl0⟩:=chain_ok h;rw[hq']at q1;injection q1 with q1;subst q1;have e1:∀t,Fa (Fj p) t=Fa q' t*Fa g t:=λt=>by rw[sq.e];grind
 obtain⟨p1,p2⟩:=Ti pp.t pp.n e1;have hch:pZ 66 q' (Fj (Gx q'))=some l:=by
  have h2:=q2;unfold Eg at h2;rw[hq']at h2;simp only[Jd]at h2
  split at h2
  ·cases h2
  ·cases hd:OX (Gx q')with
   |none=>rw[hd]at h2;cases h2
   |
    some d =>
    rw[hd]at h2;simp only[Jd]at h2;obtain rfl:d=Gx q':=Qul hd;cases hc:pZ 66 q' (Fj (Gx q'))with
    |none=>rw[hc]at h2;cases h2
    |some l'=>rw[hc]at h2;simp at h2;rw[h2]
 have hll:=Mx sq.pq.t sq.pg.t pp.t e1 p1 p2;have hl9:=h.l;have bq:Bd (s+69) q':=XH hpb (by omega) pp.t sq.pq.t sq.pg.t pp.n e1;have hall:=Qb0 (h.pb (by omega)) q2 sq.pq.n;have hld:Fu q'≠0:=by have:=sq.pq.l;omega
 have hb1:=HN hld;obtain⟨D,hD⟩:=nmE ((Fu q').natAbs);obtain⟨m,hm⟩:=nmE (most (q'.take (q'.length-1)));have hm2:m<2^(s+69):=by rw[hm];exact Qmw (s:=s+69) λz hz=>bq z (Qo hz)
 have hD0:0<D:=by omega
 have hDs:Ff (D:Int)<=s+69:=by
  have:=Nj bq;rw[Sj]at this ⊢;rw[Xh,hD];exact this
 have hbe:=BF hld;rw[<-hD,<-hm]at hbe;have hDq:=nat_pos hD0;have hbm:Gy q'<=((m+1:Nat):Rat):=by
  have hD1:(1:Rat)<=(D:Rat):=by
   have:((1:Nat):Rat)<=(D:Rat):=Zm.2 hD0;exact this
  have hm0:(0:Rat)<=(m:Rat):=Xi;have h3:=Cw (a:=(m:Rat)) (c:=1) hm0 Qr (by decide) hD1;rcases Gi (Gy q') ((m+1:Nat):Rat)with h'|h'
  ·exact h'
  ·exfalso;have:=Vz h' hDq
   push_cast at this;grind
 have gb:Gr D (m+1) 0 (Gy q'):=by
  refine⟨⟨(D+m:Nat),?_⟩,?_,hD0⟩
  ·rw[Ve,Yw,hbe];rw[show((((D+m:Nat):Int)):Rat)=((D+m:Nat):Rat) from rfl];push_cast;rfl
  ·have:Fl (Gy q')=Gy q':=by unfold Fl;rw[if_neg (by grind)]
   rw[this];exact hbm
 have hMs:Ff ((m+1:Nat):Int)<=s+69+1:=fO (s:=s+69) hm2;have hK:(Gy q' - -Gy q')*((2^(Si q' q'+1):Nat):Rat)<=((2^N:Nat):Rat):=by
  have hps:=O5 bq;have hg:Si q' q'<=(2*s+164)*31:=by
   unfold Si;exact Zc (by omega) (by omega)
  exact Qq2 (s:=s+69) (g:=Si q' q'+1) (N:=N) (by grind) hm2 (by omega)
 have hN:Ff (D:Int)+Ff ((m+1:Nat):Int)+(0+N)<=16777216:=by omega
 obtain⟨F,hFe⟩:=nmE (99999-N);obtain⟨ls,r1,r2,r3⟩:=NU (F:=F) hS sq.pq.t (by omega) (λh=>by rw[hl0 h]) (W6 m) N 0 (-Gy q') (Gy q') (by grind) (Qvi gb) gb hN hK;rw[show F+N+1=100000 by omega]at r1;have hchq:chq (Gy q')=some (Gy q'):=Qgx gb (W6 m) (by omega);have key:∀t∈ls,Va t/\t.p=q'/\t.lo<t.hi/\Bd (s+69) q'/\∃D M k,Gr D M k t.lo/\Gr D M k t.hi/\0<M/\Ff (D:Int)≤s+69/\Ff (M:Int)≤s+70/\k≤N:=λt ht=>by
  obtain⟨k',k1,k2,k3⟩:=r3 t ht;have hmem:∀{lo hi:Rat} {ls:List Tm},RI q' ((q'::l).map cz) lo ls hi->t∈ls->Vt (cz q') ((q'::l).map cz) t.lo t.hi/\t.p=q':=λh=>by
   induction h with
   |nil=>intro ht;cases ht
   |
    cons h hv ht' hp hl ih =>
    intro ht;rcases Qn.1 ht with rfl|ht
    ·exact⟨ht',hp⟩
    ·exact ih ht
  obtain⟨v1,v2⟩:=hmem r2 ht;have lq2:2<=q'.length:=by
   rcases Zb q'.length 2 with e|e
   ·exfalso;have hvv:∀x,vv ((q'::l).map cz) x=0:=λx=>by
     rw[hl0 e,sq.pq.one e];have hv1:∀x:Rat,ev (cz [1]) x=1:=λx=>by rw[Fb,Bb]
     simp only[Z0,X9,vv,tc,hv1];have:Fh 1=1:=by decide
     rw[this];decide
    have:=v1.v;rw[hvv,hvv]at this;omega
   ·exact e
  exact⟨⟨.inr ⟨_,by rw[v2];exact v1⟩,by rw[v2];exact sq.pq.t,by rw[v2];omega,by rw[v2];exact lq2,by rw[v2];exact U6 bq (by omega),λ_=>by rw[v2];exact U6 bq (by omega),λ_=>by rw[v2];exact⟨l,_,g,hch,sq,v1⟩,D,m+1,k',k2,k3,W6 m,Qa (show _<=1000000 by omega) (Qvn t)⟩,v2,v1.l,bq,D,m+1,k',k2,k3,W6 m,hDs,Qa hMs (Ql (s+70)),by rw[Zz]at k1;exact k1⟩
 refine⟨q',q'::l,ls,hq',q2,?_,hS,r2,λt ht=>(key t ht).1,λx y hxy hb=>dD hS sq.pq.t sq.pq.n hxy hb (by grind),by omega,λt ht=>(key t ht).2⟩
 ·unfold PG;rw[q2,hq'];show(chq (Gy q')).bind _=_;rw[hchq];simp only[Jd];rw[Qdj hS hall];exact r1
theorem Qkl{s:Nat}{p:Um}(hs9:s≤1180)(h:Okp 9 s p):∃q c l,Pw p=some q/\Eg p=some c/\PG p=some l/\HF (cz q) (c.map cz)/\RI q (c.map cz) (-Gy q) l (Gy q)/\(∀t∈l,Va t)/\(∀x y,x<y->Gy q≤x\/y≤-Gy q->vv (c.map cz) x=vv (c.map cz) y)/\q.length≤p.length/\∀t∈l,t.p=q/\t.lo<t.hi/\Bd (s+69) q/\∃D M k,Gr D M k t.lo/\Gr D M k t.hi/\0<M/\Ff (D:Int)≤s+69/\Ff (M:Int)≤s+70/\k≤63*s+5160:=Qdk rfl hs9 h
theorem Qkk{p:Um}(h:Okp 9 1180 p):∃q c l,Pw p=some q/\Eg p=some c/\PG p=some l/\HF (cz q) (c.map cz)/\RI q (c.map cz) (-Gy q) l (Gy q)/\(∀t∈l,Va t)/\(∀x y,x<y->Gy q≤x\/y≤-Gy q->vv (c.map cz) x=vv (c.map cz) y):=by
 obtain⟨q,c,l,h1,h2,h3,h4,h5,h6,h7,_⟩:=Qkl (Ql _) h;exact⟨q,c,l,h1,h2,h3,h4,h5,h6,h7⟩
theorem En{q:Um}{L:Uq}(hS:HF (cz q) L){c:Rat->Int}(hc:Cut c){lo:Rat}(hH:∀z,c z=-1->z<=lo->vv L z=vv L lo){y0:Rat}(hy:c y0=-1)(hv:∀z,lo<z->z<=y0->vv L z=vv L lo):∃s,s≠0/\∀z,c z=-1->z<=y0->Fh (ev (cz q) z)=s:=by
 have hall:∀z,c z=-1->z<=y0->vv L z=vv L lo:=λz h1 h2=>by
  rcases Gi z lo with e|e
  ·exact hH z h1 e
  ·exact hv z e h2
 have hne:∀z,c z=-1->z<=y0->Fh (ev (cz q) z)≠0:=λz h1 h2=>by
  obtain⟨w,w1,w2⟩:=hc.dn z h1;have:=kU hS w1 (by rw[hall w w2 (by grind),hall z h1 h2]);rw[this.s];exact this.n
 refine⟨Fh (ev (cz q) y0),hne y0 hy Qr,λz h1 h2=>?_⟩;rcases Classical.em (z=y0)with e|e
 ·rw[e]
 ·have:=kU hS (x:=z) (y:=y0) (by grind) (by rw[hall z h1 h2,hall y0 hy Qr]);rw[this.s,Aq (hne z h1 h2)]
structure Fst(o:List Int)(a t:Tm):Prop where
 lt:Bh a t
 s:∃s,s≠0/\(∀z,Ft a z=-1->Ft t z=1->Fh (ev (cz o) z)=s)/\RS (cz o) (Ft t) (-s)
def Non(o:Um)(a:Tm):Prop:=∃s,s≠0/\∀z,Ft a z=-1->Fh (ev (cz o) z)=s
theorem Qc0{q:Um}{L:Uq}(hS:HF (cz q) L){a:Tm}(ha:Va a){lo hi:Rat}{l:List Tm}(hR:RI q L lo l hi):(∀t∈l,Va t)->(∀z,hi<z->vv L z=vv L hi)->(∀z,Ft a z=-1->z≤lo->vv L z=vv L lo)->∃r,KX a l=some r/\match r with
 |none=>Non q a
 |some t=>t∈l/\Fst q a t:=by
 have ca:=ha.cut
 induction hR with
 |
  @nil lo hi h hv =>
  intro _ hhi hH;refine⟨none,rfl,?_⟩;obtain⟨y1,hy1⟩:=ca.hi;have hall:∀z,lo<z->vv L z=vv L lo:=λz hz=>by
   rcases Gi z hi with e|e
   ·have h1:=A5 hS hz;have h2:vv L hi<=vv L z:=by
     rcases Classical.em (z=hi)with e'|e'
     ·rw[e'];exact Ql _
     ·exact A5 hS (by grind)
    omega
   ·rw[hhi z e,hv]
  obtain⟨s,s0,hs⟩:=En hS ca hH hy1 λz h1 _=>hall z h1
  refine⟨s,s0,λz hz=>?_⟩;rcases Gi z y1 with e|e
  ·exact hs z hz e
  ·obtain⟨s',s0',hs'⟩:=En hS ca hH hz λz h1 _=>hall z h1
   rw[hs' z hz Qr,<-hs' y1 hy1 (Qt e),hs y1 hy1 Qr]
 |
  @cons lo hi t l h hv ht hp hl ih =>
  intro hV hhi hH;have hvt:=hV t (Qy ..);have ct:=hvt.cut;have ht':=ht;rw[<-hp]at ht';have ect:∀z,Ft t z=cq (cz t.p) t.lo t.hi z:=Cm ht.l;obtain⟨c,c1,c2⟩:=UN hvt ha;show ∃r,((UM t a).bind λc=>if 0<c then some (some t)else KX a l)=some r/\_;rw[c1];show ∃r,(if 0<c then some (some t)else KX a l)=some r/\_;have hlo1:Ft t t.lo=1:=by rw[ect];exact Aj Qr
  have hlow:∀z,lo<z->Ft t z=1->vv L z=vv L lo:=λz h1 h2=>by
   rcases Gi z t.lo with e|e
   ·have a1:=A5 hS h1;have a2:vv L t.lo<=vv L z:=by
     rcases Classical.em (z=t.lo)with e'|e'
     ·rw[e'];exact Ql _
     ·exact A5 hS (by grind)
    omega
   ·rw[ect]at h2;have hz:z<=t.hi:=by
     rcases Gi z t.hi with e'|e'
     ·exact e'
     ·rw[UC ht.l e']at h2;omega
    rw[ht'.eq_lo e hz h2,hv]
  by_cases hc:0<c
  ·rw[if_pos hc];refine⟨some t,rfl,Qy ..,?_⟩;have hlt:Bh a t:=by
    rcases c2 with⟨e,_⟩|⟨e,_⟩|⟨_,h⟩
    ·omega
    ·omega
    ·exact h
   refine⟨hlt,?_⟩;obtain⟨m,m1,m2⟩:=hlt;obtain⟨s,s0,hs⟩:=En hS ca hH m1 λz h1 h2=>hlow z h1 (by
    rcases Classical.em (z=m)with e|e
    ·rw[e];exact m2
    ·exact ct.mono' (q:=z) (r:=m) (by grind) (by omega))
   have hall:∀z,Ft a z=-1->Ft t z=1->Fh (ev (cz q) z)=s:=λz h1 h2=>by
    rcases Gi z m with e|e
    ·exact hs z h1 e
    ·obtain⟨s',s0',hs'⟩:=En hS ca hH h1 λw w1 w2=>hlow w w1 (by
      rcases Classical.em (w=z)with e|e
      ·rw[e];exact h2
      ·exact ct.mono' (q:=w) (r:=z) (by grind) (by omega))
     rw[hs' z h1 Qr,<-hs' m m1 (Qt e),hs m m1 Qr]
   refine⟨s,s0,hall,?_⟩;obtain⟨w,w1,w2,w3⟩:=CP ct m2 hlo1;have hwa:Ft a w=-1:=ca.mono m w w2 (by omega);have hsw:=hall w hwa w1;have hwh:w<t.hi:=by
    rw[ect]at w1;rcases Gi t.hi w with e|e
    ·have:=ht'.hi1;rcases Classical.em (t.hi=w)with e'|e'
     ·rw[<-e']at w1;exact absurd w1 this
     ·rw[UC ht.l (by grind)]at w1;omega
    ·exact e
   have hww:vv L w=vv L t.lo:=ht'.eq_lo w3 (Qt hwh) (by rw[<-ect];exact w1);have hvv:=ht.v;have hone:=kW hS hwh (by omega);have hlw:Py (cz q) w=s:=by rw[Aq (by rw[hsw];exact s0),hsw]
   rw[hlw]at hone;have hd:∀z,w<z->z<=t.hi->Ft t z=-1->Fh (ev (cz q) z)=-s:=λz z1 z2 z3=>by
    rw[ect]at z3;have e1:=ht'.eq_hi (by grind) z2 (by omega);have e2:=kW hS z1 (by omega);rw[hlw]at e2;have hz0:Fh (ev (cz q) z)≠0:=by
     rw[Iv (by grind) z2,hp]at z3;intro h0;rw[if_pos h0]at z3;omega
    rw[Aq hz0]at e2;exact e2.2
   rcases ct.val t.hi with e|e|e
   ·rw[ect]at e;exact absurd e ht'.hi1
   ·obtain⟨d,dp,hd'⟩:=Qyr (p:=cz q) (x:=t.hi) (by rw[hone.2];omega);refine⟨t.hi+d,ct.mono t.hi _ (by grind) (by omega),λz h1 h2=>?_⟩;have hz:t.hi<z:=by
     rcases Gi z t.hi with e'|e'
     ·rcases Classical.em (z=t.hi)with e''|e''
      ·rw[e'']at h1;omega
      ·have:=ct.mono z t.hi (by grind) (by omega);omega
     ·exact e'
    rw[hd' z hz (by grind),hone.2]
   ·exact⟨t.hi,e,λz h1 h2=>hd z (ct.lt w1 h1) h2 h1⟩
  ·rw[if_neg hc];have hle:¬Bh a t:=λh=>by
    rcases c2 with⟨e,h'⟩|⟨e,h'⟩|⟨e,_⟩
    ·exact I0 ct ca h' h
    ·obtain⟨z,z1,z2⟩:=h;have:=h' z;omega
    ·omega
   obtain⟨r,r1,r2⟩:=ih (λx hx=>hV x (Qg _ hx)) hhi λz z1 z2=>by
    have hz:Ft t z≠1:=λh=>hle ⟨z,z1,h⟩
    have hzl:t.lo<z:=by
     rcases Gi z t.lo with e|e
     ·refine absurd ?_ hz;rw[ect];exact Aj e
     ·exact e
    exact ht'.eq_hi hzl z2 (by rw[<-ect];exact hz)
   refine⟨r,r1,?_⟩;cases r with
   |none=>exact r2
   |some x=>exact⟨Qg _ r2.1,r2.2⟩
theorem Qsx{c:Rat->Int}(hc:Cut c):∀(n:Nat) (f:Up),HD f n->∃s,s≠0/\RS f c s
 |
  n,f,h=>by
  rcases YQ hc f with hv|⟨s,hs,hn⟩
  ·cases n with
   |
    zero =>
    exfalso;obtain⟨q,hq,_⟩:=rX hc (hv (Fl (f.getD 0 0)) (C6 h.1));cases f with
    |nil=>exact h.1 (by simp)
    |
     cons a l =>
     have:=Lf (p:=l) λk=>by have:=h.2 (k+1) (by omega);rwa[Q4]at this
     simp only[ev,this,Zt]at hq;grind
   |
    succ n =>
    have hd:HD (Bs f) n:=by
     have key:∀(f:Up) (k:Nat),(Bs f).getD k 0=((k+1:Nat):Rat)*f.getD (k+1) 0:=by
      intro f
      induction f with
      |nil=>intro k;simp only[Bs,Kt];grind
      |
       cons a f ih =>
       intro k;simp only[Bs];rw[Ro,Q4];cases k with
       |zero=>rw[Zt];push_cast;grind
       |succ k=>rw[Q4,ih];push_cast;grind
     refine⟨λh0=>?_,λk hk=>by rw[key,h.2 (k+1) (by omega)];grind⟩;rw[key]at h0;rcases Y3.1 h0 with h1|h1
     ·have:=nat_pos (show 0<n+1 by omega);grind
     ·exact h.1 h1
    obtain⟨s,hs,h1⟩:=Qsx hc n (Bs f) hd;exact⟨s,hs,vM hc hv h1 hs⟩
  ·exact⟨s,hs,zM hc hn⟩
theorem Qkn{c:Rat->Int}(hc:Cut c){f p q:Up}{s s':Int}(hf:∀t,ev f t=ev p t*ev q t)(h:RS p c s)(h':RS q c s'):RS f c (s*s'):=by
 obtain⟨y,h1,h2⟩:=h;obtain⟨y',h3,h4⟩:=h';refine⟨if y<=y' then y else y',by split <;> assumption,λz z1 z2=>?_⟩;rw[hf,S0,h2 z z1 (by clear h2 h4;grind),h4 z z1 (by clear h2 h4;grind)]
theorem Qko{c:Rat->Int}(hc:Cut c){f o S:Up}{k:Rat}(hk:k≠0)(hf:∀t,ev f t=k*(ev o t*(ev S t*ev S t)))(hnz:¬∀t,ev f t=0){s:Int}(h:RS o c s):RS f c (Fh k*s):=by
 obtain⟨n,_,hn⟩:∃n,n<S.length/\HD S n:=by
  rcases LX S with h1|h1
  ·exact absurd (λt=>by rw[hf,h1];grind) hnz
  ·exact h1
 obtain⟨s',hs',h'⟩:=Qsx hc n S hn;have h1:=Qkn hc (f:=G8 S S) (λt=>Fi t _ _) h' h';have h2:=Qkn hc (f:=G8 o (G8 S S)) (λt=>Fi t _ _) h h1;have hsq:s'*s'=1:=by
  obtain⟨y,y1,y2⟩:=h';have:=y2 y y1 Qr;rcases Gb (ev S y)with⟨e,_⟩|⟨e,_⟩|⟨e,_⟩
  ·rw[<-this,e];rfl
  ·omega
  ·rw[<-this,e];rfl
 rw[hsq,Ub]at h2;obtain⟨y,y1,y2⟩:=h2;exact⟨y,y1,λz z1 z2=>by
  have:=y2 z z1 z2;rw[Fi,Fi]at this;rw[hf,S0,this]⟩
structure Cp(p:List Int):Prop where
 t:Fg p
 l:p.length<=9
 b:Bd 1110 p
theorem Cp.dp{p:Um}(h:Cp p):Dp p:=⟨h.t,h.l,U6 h.b (by omega)⟩
def Leq(a:Tm)(c:Rat->Int):Prop:=∀q,c q=-1->Ft a q=-1
def M6(p:Um)(a:Tm):Option Tm->Prop
 |none=>p=[]\/∃s,s≠0/\∀c,Cut c->Leq a c->RS (cz p) c s
 |some t=>p≠[]/\Va t/\Bh a t/\∃s,s≠0/\(∀c,Cut c->Leq a c->(∃m,c m=-1/\Ft t m=1)->RS (cz p) c s)/\RS (cz p) (Ft t) (-s)
theorem RI.len{q:Um}{L:Uq}{lo hi:Rat}{l:List Tm}(h:RI q L lo l hi):l.length+vv L hi<=vv L lo:=by
 induction h with
 |nil h hv=>simp;omega
 |cons h hv ht hp hl ih=>have:=ht.v;simp only[Q5];omega
theorem Qlj(x:Rat):∀(L:Uq) (s:Int),tc x s L<=L.length
 | [],_=>Ql _
 |
  f::l,s=>by
  have h1:=Qlj x l;simp only[tc,Q5]
  repeat' split
  all_goals (first|(have:=h1 s;omega)|(have:=h1 (Fh (ev f x));omega))
theorem Qw6(L:Uq)(x:Rat):vv L x<=L.length:=Qlj x L 0
theorem JO{p:Um}(h:Cp p):∃l,WI p=some l/\l.length≤67/\(∀t∈l,Va t)/\∀a,Va a->∃r,KX a l=some r/\M6 p a r/\∀t,r=some t->t∈l:=by
 unfold WI;by_cases h0:p.length=0
 ·have e:p=[]:=Qj h0;subst e;exact⟨[],rfl,by decide,(λt ht=>by cases ht),λa _=>⟨none,rfl,.inl rfl,λt ht=>by cases ht⟩⟩
 ·obtain⟨qp,o,q1,o1,hpt⟩:=Qjg (n:=9) (s:=1110) (p:=p) ⟨⟨by decide,by decide⟩,h.t,h0,h.l,h.b⟩;obtain⟨g,sq⟩:=hpt.sq;obtain⟨S,hS⟩:=hpt.os;obtain⟨p1,p2,p3,p4,p5,p6,p7⟩:=Cz h.t h0;have hpl:=h.l;obtain⟨hh,th,eh⟩:=hpt.oh;have bo:Bd 1179 o:=XH (p5 1110 h.b) (by omega) p1 hpt.ot th (by omega) eh;obtain⟨lo1,lo2⟩:=Ti p1 (by omega) eh;have hlen:=Mx hpt.ot th p1 eh lo1 lo2;have oko:Okp 9 1180 o:=⟨iO,hpt.ot,by omega,by omega,U6 bo (by omega)⟩;obtain⟨q,c,l,r1,r2,r3,hSt,hRI,hVa,hout⟩:=Qkk oko;obtain⟨g',q',s1,s2⟩:=VW oko;rw[r1]at s1;injection s1 with s1;subst s1;obtain⟨_,_,_,_,_,o6,o7⟩:=Cz hpt.ot (by omega);have hg1:g'=[1]:=by
   refine s2.pg.one ?_;obtain⟨E,hE⟩:=hpt.oq;have hE:∀t,Fa qp t=Fa o t*ev E t:=λt=>by have:=hE t;rwa[Fb,Fb]at this
   obtain⟨z,hz⟩:=s2.d;have hd1:∀t,Fa o t=Fa g' t*(Hp o*Fa q t):=λt=>by rw[o7,s2.e];grind
   have hdo:∀t,dv (cz o) t=Fa g' t*(Hp o*ev z t):=λt=>by
    have:=Qhd (p:=cz o) (q:=D9 (Hp o) (cz (Fj o))) (λt=>by rw[Fb,Gu,Fb,o7]) t;rw[this,RV,hz];grind
   obtain⟨k,hk,hkk⟩:=sq.num (d:=cz g') ⟨G8 (D9 (Hp o) (cz q)) E,λt=>by rw[Fb,Fb,hE,hd1,Fi,Gu,Fb];grind⟩ ⟨Sy (G8 (D9 (Hp o) z) E) (G8 (D9 (Hp o) (cz q)) (Bs E)),λt=>by
    have:=QB (f:=cz qp) (w:=cz o) (u:=E) (λt=>by rw[Fb,Fb,hE]) t;rw[Tt,this,hdo,Fb,Fb,hd1,G0,Fi,Fi,Gu,Gu,Tt,Fb];grind⟩
   rcases Zb g'.length 2 with e|e
   ·exact e
   ·exfalso;have h1:=(SC s2.pg.t (by omega)).1;have h2:=D4 (p:=cz g') (q:=[k]) (λt=>by rw[hkk];simp only[ev];grind) (g'.length-1);rw[h2,Qi,Qw (by simp;omega)]at h1;exact h1 rfl
  have hpq:∀t,ev (cz p) t=((Hp p:Rat)*(Hp o:Rat))*(ev (cz q) t*(ev S t*ev S t)):=λt=>by
   rw[Fb,Fb,p7,hS,o7,s2.e,hg1,Bb];grind
  have hk0:(Hp p:Rat)*(Hp o:Rat)≠0:=λh=>(Y3.1 h).elim (XN p6) (XN o6)
  have hpz:¬∀t,ev (cz p) t=0:=λh'=>SH h.t (by omega) λt=>by rw[<-Fb];exact h' t
  obtain⟨k,hk⟩:=nmE (Fh ((Hp p:Rat)*(Hp o:Rat)));have hkn:k≠0:=λh=>hk0 (Gs.1 (by rw[<-hk];exact h))
  have ho:o.length≠0:=by omega
  rw[o1];show ∃l,(if o.length=0 then some []else PG o)=some l/\l.length<=67/\_;rw[if_neg ho];have hb1:=HN (Et s2.pq.t s2.pq.n);have hll:=hRI.len;have hlv:=Qw6 (c.map cz) (-Gy q);have hcl:=(Orr.chain_ok (p:=o) ⟨hpt.ot,by omega,U6 bo (by omega)⟩ r2).1;rw[Q9]at hlv;refine⟨l,r3,by omega,hVa,λa ha=>?_⟩;obtain⟨r,n1,n2⟩:=Qc0 hSt ha hRI hVa (λz hz=>(hout _ _ hz (.inl Qr)).symm) λz _ hz=>by
   rcases Classical.em (z=-Gy q)with e|e
   ·rw[e]
   ·exact hout z _ (by grind) (.inr Qr)
  refine⟨r,n1,?_,λt ht=>by subst ht;exact n2.1⟩;cases r with
  |
   none =>
   obtain⟨s,hs,hz⟩:=n2;refine .inr ⟨k*s,X7 hkn hs,λc hc hac=>?_⟩;obtain⟨y,hy⟩:=hc.hi;have h1:RS (cz q) c s:=⟨y,hy,λz z1 _=>hz z (hac z z1)⟩;rw[hk];exact Qko hc hk0 hpq hpz h1
  |
   some t =>
   obtain⟨hm,hlt,s,hs,hz,hrs⟩:=n2;refine⟨λe=>h0 (by rw[e];rfl),hVa t hm,hlt,k*s,X7 hkn hs,λc hc hac ⟨m,m1,m2⟩=>?_,?_⟩
   ·have h1:RS (cz q) c s:=⟨m,m1,λz z1 z2=>hz z (hac z z1) (by
     rcases Classical.em (z=m)with e|e
     ·rw[e];exact m2
     ·exact(hVa t hm).cut.mono' (q:=z) (r:=m) (by grind) (by omega))⟩
    rw[hk];exact Qko hc hk0 hpq hpz h1
   ·have:=Qko (hVa t hm).cut hk0 hpq hpz hrs;rw[<-hk]at this;rw[show -(k*s)=k*-s by rw[V8]];exact this
structure Sz(s n:Nat)(t:Tm):Prop where
 n:t.p.length<=n
 b:Bd (s+138) t.p
 g:∃D M k,Gr D M k t.lo/\Gr D M k t.hi/\0<M/\Ff (D:Int)<=s+138/\Ff (M:Int)<=s+139/\k<=63*s+9507
theorem Qjb{p:Um}(h:Cp p){a:Tm}(ha:Va a):∃r,PX p a=some r/\M6 p a r:=by
 obtain⟨l,l1,_,_,l3⟩:=JO h;obtain⟨r,r1,r2,_⟩:=l3 a ha;refine⟨r,?_,r2⟩;unfold PX;rw[l1];exact r1
theorem RA:∀(l:List Tm) (b:Tm),(∀t∈b::l,Va t)->∃m,QI b l=some m/\m∈b::l/\∀t∈b::l,¬Bh t m
 |
  [],b,h=>⟨b,rfl,Qy ..,λt ht h'=>by
  rw[Qk.1 ht]at h';have hb:=(h b (Qy ..)).cut;exact I0 hb hb h' h'⟩
 |
  a::l,b,h=>by
  have ha:=h a (by simp);have hb:=h b (by simp);obtain⟨c,c1,c2⟩:=UN ha hb;obtain⟨m,m1,m2,m3⟩:=RA l (if c<0 then a else b) λt ht=>by
   rcases Qn.1 ht with rfl|ht
   ·split <;> assumption
   ·exact h t (by simp[ht])
  refine⟨m,by simp only[QI];rw[c1];exact m1,?_,λt ht=>?_⟩
  ·rcases Qn.1 m2 with e|e
   ·rw[e];split <;> simp
   ·simp[e]
  ·have hm:Va m:=by
    rcases Qn.1 m2 with e|e
    ·rw[e];split <;> assumption
    ·exact h m (by simp[e])
   have hfst:=m3 _ (Qy ..);have tr:∀x y:Tm,Va x->Va y->¬Bh x y->¬Bh y m->¬Bh x m:=λx y hx hy h1 h2 h3=>by
    rcases tri hy.cut hm.cut with h4|h4|h4
    ·exact h2 h4
    ·obtain⟨q,q1,q2⟩:=h3;exact h1 ⟨q,q1,by rw[h4];exact q2⟩
    ·obtain⟨q,q1,q2⟩:=h3;obtain⟨r,r1,r2⟩:=h4;have:=hm.cut.lt q2 r1;exact h1 ⟨q,q1,hy.cut.mono' this (by omega)⟩
   rcases Qn.1 ht with rfl|ht
   ·by_cases hc:c<0
    ·rw[if_pos hc]at hfst;refine tr _ a hb ha ?_ hfst;rcases c2 with⟨_,h'⟩|⟨e,_⟩|⟨e,_⟩
     ·exact λh''=>I0 ha.cut hb.cut h' h''
     ·omega
     ·omega
    ·rw[if_neg hc]at hfst;exact hfst
   ·rcases Qn.1 ht with rfl|ht
    ·by_cases hc:c<0
     ·rw[if_pos hc]at hfst;exact hfst
     ·rw[if_neg hc]at hfst;refine tr _ b ha hb ?_ hfst;rcases c2 with⟨e,_⟩|⟨_,h'⟩|⟨_,h'⟩
      ·omega
      ·rintro⟨q,q1,q2⟩
       have:=h' q;omega
      ·exact λh''=>I0 ha.cut hb.cut h'' h'
    ·exact m3 t (by simp[ht])
end Orq
namespace Orr
open Go Go.Proofs Tryz Orq
set_option maxRecDepth 10000
theorem Dp.pb{p:Um}(h:Dp p):Pb p:=⟨h.t,by have:=h.l;omega,U6 h.b (by have:=h.l;omega)⟩
theorem Qx7{p:Um}{a:Tm}(hp:Dp p)(ha:Va a):Uj 241 [pr p,.agg (ta a)] [.oi (Fw a p)]:=Qmz (Dp.pb hp) ha.tb (Qku hp ha).1
theorem Qxz{p:Um}{a:Tm}(hp:Dp p)(ha:Va a):Uj 240 [pr p,.one (.sh (ta a))] [.oi (Fw a p)]:=Ug func240 rfl [.k (Qx7 hp ha)] rfl
theorem Qn0{p:Um}{fid:Nat}{l1:Ur}{sgn:Um->Int}(hp:Dp p)(h:∀p,Dp p->AB prog fid [pr p,.one (.sh l1)] [.oi (sgn p)]):Uj 239 [pr p,.one (.fn fid [] [.sh l1])] [.oi (Tw sgn p.length p)]:=by
 have hpb:=Dp.pb hp;refine Fx func239 rfl ?_;refine Ud [.k (Hu hpb.t hpb.ln hpb.bd)] rfl ?_;refine Ui (S:=Um) 0 (λL1 s=>(0,.v (pr s))::L1) (λ_=>[]) (λs=>s.length) (λs=>Dp s/\Tw sgn s.length s=Tw sgn p.length p) p ⟨hp,rfl⟩ rfl rfl λr ⟨j1,j4⟩=>?_
 rw[<-j4];have jb:=Dp.pb j1;by_cases h0:r.length=0
 ·have e:=fN sgn h0;rw[e];exact Uf [.f (by simp;exact Qj h0)] rfl
 ·have hs:=h r j1;by_cases hz:sgn r=0
  ·have hlp:=Nl r;refine Ud [.t (by simp;omega),.k hs,.f (by simpa using hz),.k (I6 jb.ln jb.bd)] rfl ?_;exact rd (Gx r) (by omega) ⟨j1.der,by rw[<-fP sgn (by omega) hz]⟩ rfl
  ·rw[fS sgn (by omega) hz];exact Uf [.t (by simp;omega),.k hs,.t (by simpa using hz)] rfl
abbrev gmA(a:Tm)(p:Um):Int:=Hk (Fw a) p
theorem SU{p:Um}{a:Tm}(hp:Dp p)(ha:Va a):Uj 175 [pr p,.agg (ta a)] [.oi (gmA a p)] :=
 Ug func175 rfl [.k (Qn0 (sgn:=Fw a) hp λ_ h=>Qxz h ha)] rfl
theorem wI{t:Tm}{a b:Pt}{ps:Un}(hps:∀p∈ps,Dp p)(ht:Va t)(hl:ps.length<1000):Uj 231 [.agg (ta t),.agg (Fe a),.agg (Fe b),.one (.row (Pj ps))] [.one (.bool (Ea (Fw t) a b ps))]:=by
 refine Fx func231 rfl ?_;have hpl:(Pj ps).length=ps.length:=by simp[Pj]
 refine Ud [] rfl ?_;refine Ui (S:=Nat) 3 (λL1 i=>(13,.v (.oi i))::L1) (λ_=>[.blk 105 (ta t),.blk 40 (Fe a),.blk 40 (Fe b)]) (λi=>ps.length-i) (λi=>i<=ps.length/\Ea (Fw t) a b (ps.drop i)=Ea (Fw t) a b ps) 0 ⟨Qh _,rfl⟩ rfl rfl λi ⟨hi,he⟩=>?_
 rw[<-he];by_cases hlt:i<ps.length
 ·obtain⟨p,hp⟩:=gxE (l:=ps) (i:=i) hlt;have hd:ps.drop i=p::ps.drop (i+1):=by
   rw[Zp hlt];rw[Qe hlt]at hp;injection hp with hp;rw[hp]
  have hpb:=hps p (Qc hp);rw[hd]at he ⊢;by_cases h0:0<p.length
  ·exact Uf [.t (by simp[hpl];omega),.x (Rr hp),.t (by simp;omega),.k (SU hpb ht)] rfl (by simp only[Ea];rw[if_pos h0]) trivial
  ·refine Ue [.t (by simp[hpl];omega),.x (Rr hp),.f (by simp;exact Qj (by omega))] rfl ?_;exact rd (i+1) (by omega) ⟨hlt,by simp only[Ea];rw[if_neg h0]⟩ rfl
 ·have hd:ps.drop i=[]:=Yv (by omega);rw[hd];exact Uf [.f (by simp[hpl];omega)] rfl
structure Sc(k:Crv):Prop where
 n:ZI k
 c:Cs 128 3 k
theorem Sc.cb{k:Crv}(h:Sc k):Cb k:=h.c.mono (by omega) (by omega)
theorem Ni{a b:Crv}(ha:Sc a)(hb:Sc b):Cp (Gp a b):=by
 refine⟨Fz _ _,?_,U6 (Dx (Ge hb.c.x ha.c.d) (Ge ha.c.x hb.c.d)) (by omega)⟩;have:=Nm (Fq b.x a.d) (Fq a.x b.d);have:=Fy b.x a.d;have:=Fy a.x b.d;have:=ha.c.lx;have:=hb.c.lx;unfold Gp;omega
theorem Nh{a b:Crv}(ha:Sc a)(hb:Sc b):Cp (Gn a b):=by
 refine⟨Fz _ _,?_,U6 (Dx (Ge hb.c.y ha.c.d) (Ge ha.c.y hb.c.d)) (by omega)⟩;have:=Nm (Fq b.y a.d) (Fq a.y b.d);have:=Fy b.y a.d;have:=Fy a.y b.d;have:=ha.c.ly;have:=hb.c.ly;unfold Gn;omega
theorem Qm0{a b:Pt}{t:Tm}(ha:Sc a.c)(hb:Sc b.c)(ht:Va t):Uj 174 [.agg (Fe a),.agg (Fe b),.agg (ta t)] [.one (.bool (Ch (Fw t) a b))] :=
 Ug func174 rfl [.k (UK hb.n ha.n hb.cb ha.cb),.k (UF hb.n ha.n hb.cb ha.cb),.k (wI (t:=t) (a:=a) (b:=b) (ps:=[Gn b.c a.c,Gp b.c a.c]) (λp hp=>by
  simp at hp;rcases hp with rfl|rfl
  ·exact(Nh hb ha).dp
  ·exact(Ni hb ha).dp) ht (show 2<1000 by decide))] rfl
theorem Qen{a b:Pt}{t:Tm}(ha:Sc a.c)(hb:Sc b.c)(ht:Va t):Uj 167 [.agg (Fe a),.agg (Fe b),.agg (ta t)] [.one (.bool (Tu (Fw t) a b))] :=
 Ug func167 rfl [.k (UF ha.n hb.n ha.cb hb.cb),.k (UK ha.n hb.n ha.cb hb.cb),.k (wI (t:=t) (a:=a) (b:=b) (ps:=[Gp a.c b.c,Gn a.c b.c]) (λp hp=>by
  simp at hp;rcases hp with rfl|rfl
  ·exact(Ni ha hb).dp
  ·exact(Nh ha hb).dp) ht (show 2<1000 by decide))] rfl
theorem Qs8(q:Rat){P:Prop}(h:(tq q).point=false):P:=by
 have e:(tq q).point=true:=Mz.2 Qr;rw[e]at h;cases h
theorem Qvp(q:Rat):lim (tq q)=3300000:=by unfold lim;rw[if_pos (Mz.2 Rat.le_refl)]
theorem IG{q:Rat}(hq:Qs 1640000 q):Va (tq q):=by
 have hd:=q.den_nz;refine⟨.inl ⟨rfl,?_⟩,Qar q,by show 2<=9;omega,by show 2<=2;omega,Qxr (hq.mono (by omega)),Qs8 q,Qs8 q,q.den,q.num.natAbs+1,0,?_,?_,by omega,?_⟩
 ·have e:(q.num:Rat)=q*(q.den:Rat):=by
   have:(q.num:Rat) / (((q.den:Int)):Rat)=q:=by rw[Ra,Z5]
   have h2:(q.num:Rat) / (q.den:Rat)*(q.den:Rat)=q.num:=Zj (by have:=Orq.nat_pos q.den_pos;grind);rw[show(q.num:Rat) / (q.den:Rat)=q from this]at h2;exact h2.symm
  show Fa [-q.num,(q.den:Int)] q=0;simp only[Fa];rw[Vn,e,show(((q.den:Int)):Rat)=(q.den:Rat) from rfl];grind
 all_goals first|(have h1:Ff (q.den:Int)<=1640000:=hq.2;have h2:Ff ((q.num.natAbs+1:Nat):Int)<=1640001:=Qct hq.1;rw[Qvp];omega)|skip
 all_goals
  refine⟨⟨q.num,?_⟩,?_,q.den_pos⟩
  ·rw[Ve,Yw];have:(q.num:Rat) / (((q.den:Int)):Rat)=q:=by rw[Ra,Z5]
   have h2:(q.num:Rat) / (q.den:Rat)*(q.den:Rat)=q.num:=Zj (by have:=Orq.nat_pos q.den_pos;grind);rw[show(q.num:Rat) / (q.den:Rat)=q from this]at h2;exact h2
  ·have h1:Fl q<=Fl (q.num:Rat):=by
    have e:(q.num:Rat)=q*(q.den:Rat):=by
     have:(q.num:Rat) / (((q.den:Int)):Rat)=q:=by rw[Ra,Z5]
     have h2:(q.num:Rat) / (q.den:Rat)*(q.den:Rat)=q.num:=Zj (by have:=Orq.nat_pos q.den_pos;grind);rw[show(q.num:Rat) / (q.den:Rat)=q from this]at h2;exact h2.symm
    rw[e,Ip];have hd1:(1:Rat)<=(q.den:Rat):=by
     have:((1:Nat):Rat)<=(q.den:Rat):=Zm.2 q.den_pos;exact this
    have e2:Fl (q.den:Rat)=(q.den:Rat):=by unfold Fl;rw[if_neg (by grind)]
    rw[e2];have:=Cw (a:=Fl q) (c:=1) (Hx q) Qr (by decide) hd1;grind
   rw[S6]at h1;refine Zl h1 (Zm.2 (by omega))
theorem YS{p q:Um}(hp:Cp p)(hq:Cp q):Cp (Lz p q):=by unfold Lz;split <;> assumption
theorem lH{a b:Pt}{t:Tm}(ha:Sc a.c)(hb:Sc b.c)(ht:Va t):Uj 255 [.oi 1,.agg (ta t),.one (.row [Fe a,Fe b])] [.agg (Du (ZX (Fw t) a b)),.oi 0]:=by
 have h1:=Ni ha hb;have h2:=Nh ha hb;refine Fx func255 rfl ?_;refine Ud [.k Qbs,.f rfl] rfl ?_;refine Ui (S:=Nat) 3 (λL1 i=>(22,.v (.oi i))::L1) (λi=>[.blk 105 (ta t),.blk 99 zCt,.blk 99 [.int .i64 1,.int .i64 (if 1<=i then a.id else 0),.int .i64 (if 2<=i then b.id else 0),.int .i64 0,.int .i64 0,.nils,.int .i64 0]]) (λi=>2-i) (λi=>i<=2) 0 (Qh _) rfl rfl λi hi=>?_
 rcases(show i=0\/i=1\/i=2 by omega)with rfl|rfl|rfl
 ·refine Ud [.t rfl,.x (i:=0) (xs:=Fe a) rfl,.i 0] rfl ?_ (by simp[U4]);exact rd 1 (by omega) (by omega) rfl
 ·refine Ud [.t rfl,.x (i:=1) (xs:=Fe b) rfl,.i 1] rfl ?_ (by simp[U4]);exact rd 2 (by omega) (by omega) rfl
 ·exact Uf [.f rfl,.t rfl,.x (i:=0) (xs:=Fe a) rfl,.x (i:=1) (xs:=Fe b) rfl,.k (UF ha.n hb.n ha.cb hb.cb),.x (i:=0) (xs:=Fe a) rfl,.x (i:=1) (xs:=Fe b) rfl,.k (UK ha.n hb.n ha.cb hb.cb),.k wC,.k (SU (YS h1 h2).dp ht)] rfl
end Orr
namespace Orr
variable{α:Type}
def Eb(lt:α->α->Bool)(out:List α)(x:α):Nat->Nat
 | 0=>0
 |
  k+1=>match out[k]? with
  |some y=>if lt x y=true then Eb lt out x k else k+1
  |none=>k+1
theorem vV(lt:α->α->Bool)(out:List α)(x:α):∀k,Eb lt out x k<=k
 | 0=>Ql _
 |
  k+1=>by
  simp only[Eb]
  split
  ·split
   ·exact Nat.le_succ_of_le (vV lt out x k)
   ·exact Ql _
  ·exact Ql _
theorem oH{lt:α->α->Bool}{out:List α}{x y:α}{k:Nat}(hx:out[k]? = some y)(h:lt x y=true):Eb lt out x (k+1)=Eb lt out x k:=by
 simp only[Eb,hx,h,if_true]
theorem rL{lt:α->α->Bool}{out:List α}{x y:α}{k:Nat}(hx:out[k]? = some y)(h:lt x y=false):Eb lt out x (k+1)=k+1:=by
 simp[Eb,hx,h]
def L6(lt:α->α->Bool)(out:List α)(x:α):List α:=out.take (Eb lt out x out.length)++x::out.drop (Eb lt out x out.length)
theorem Qig(lt:α->α->Bool)(out:List α)(x:α):(L6 lt out x).length=out.length+1:=by
 have:=vV lt out x out.length;simp[L6];omega
theorem FH{lt:α->α->Bool}{out:List α}{x y:α}:y∈L6 lt out x↔y=x\/y∈out:=by
 have h:y∈out↔y∈out.take (Eb lt out x out.length)\/y∈out.drop (Eb lt out x out.length):=by
  rw[<-Qq,Zh]
 simp only[L6,Qq,Qn,h];constructor
 ·rintro (h|h|h)
  ·exact .inr (.inl h)
  ·exact .inl h
  ·exact .inr (.inr h)
 ·rintro (h|h|h)
  ·exact .inr (.inl h)
  ·exact .inl h
  ·exact .inr (.inr h)
def Ek(lt:α->α->Bool)(l:List α):List α:=l.foldl (L6 lt) []
theorem dU(lt:α->α->Bool)(l:List α)(x:α):Ek lt (l++[x])=L6 lt (Ek lt l) x:=by simp[Ek,Vr]
theorem dF{lt:α->α->Bool}{l:List α}{i:Nat}{x:α}(h:l[i]? = some x):Ek lt (l.take (i+1))=L6 lt (Ek lt (l.take i)) x:=by
 rw[Zv,h];exact dU _ _ _
theorem DL(lt:α->α->Bool):∀(l acc:List α),(l.foldl (L6 lt) acc).length=acc.length+l.length
 | [],acc=>by simp
 |c::l,acc=>by simp only[Z9];rw[DL lt l (L6 lt acc c),Qig];simp;omega
theorem zO(lt:α->α->Bool)(l:List α):(Ek lt l).length=l.length:=by unfold Ek;rw[DL];simp
theorem KO(lt:α->α->Bool):∀(l acc:List α) {y:α},y∈l.foldl (L6 lt) acc↔y∈l\/y∈acc
 | [],acc,y=>by simp
 |
  c::l,acc,y=>by
  simp only[Z9];rw[KO lt l,FH,Qn];constructor
  ·rintro (h|h|h)
   ·exact .inl (.inr h)
   ·exact .inl (.inl h)
   ·exact .inr h
  ·rintro ((h|h)|h)
   ·exact .inr (.inl h)
   ·exact .inl h
   ·exact .inr (.inr h)
theorem Qdl{lt:α->α->Bool}{l:List α}{y:α}:y∈Ek lt l↔y∈l:=by
 unfold Ek;rw[KO];simp
end Orr
namespace Orr
open Go Orq
structure Wt where
 c:Ct
 known:Bool
 fails:Option Tm
def f0:Option Tm->LV|none=>.row []|some t=>pl t.p
def f1:Option Tm->LV|none=>.bool false|some t=>sg t.lo.num
def f2:Option Tm->LV|none=>.row []|some t=>mg t.lo.num
def f3:Option Tm->LV|none=>.bool false|some t=>sg (t.lo.den:Int)
def f4:Option Tm->LV|none=>.row []|some t=>mg (t.lo.den:Int)
def f5:Option Tm->LV|none=>.bool false|some t=>sg t.hi.num
def f6:Option Tm->LV|none=>.row []|some t=>mg t.hi.num
def f7:Option Tm->LV|none=>.bool false|some t=>sg (t.hi.den:Int)
def f8:Option Tm->LV|none=>.row []|some t=>mg (t.hi.den:Int)
abbrev fl(o:Option Tm):Ur:=[f0 o,f1 o,f2 o,f3 o,f4 o,f5 o,f6 o,f7 o,f8 o]
abbrev wl(w:Wt):Ur:=[.int .i64 w.c.kind,.int .i64 w.c.i0,.int .i64 w.c.i1,.int .i64 w.c.i2,.int .i64 w.c.i3,pl w.c.p,.int .i64 w.c.want,.bool w.known,.bool w.fails.isSome,f0 w.fails,f1 w.fails,f2 w.fails,f3 w.fails,f4 w.fails,f5 w.fails,f6 w.fails,f7 w.fails,f8 w.fails]
def Ce(l:List Wt):Us:=l.map λw=>wl w
theorem Ht{l:List Wt}{i:Nat}{w:Wt}(h:l[i]? = some w):(Ce l)[i]? = some (wl w):=G6 h
theorem Tr(l:List Wt):(Ce l).length=l.length:=by simp[Ce]
structure Cr where
 now:Tm
 l:List Wt
 ev:Int
abbrev Hm(c:Cr)(r0 r1:Us):Ur:=.bool true::pl c.now.p::sg c.now.lo.num::mg c.now.lo.num::sg (c.now.lo.den:Int)::mg (c.now.lo.den:Int)::sg c.now.hi.num::mg c.now.hi.num::sg (c.now.hi.den:Int)::mg (c.now.hi.den:Int)::.row (Ce c.l)::.int .i64 c.ev::[.row r0,.row r1]
structure WtOk(w:Wt):Prop where
 p:Cp w.c.p
 f:∀t,w.fails=some t->Va t
structure CrOk(c:Cr):Prop where
 n:Va c.now
 l:∀w∈c.l,WtOk w
 k:c.l.length<=1000
def tI(a b:Ct):Bool:=decide ([a.kind,a.i0,a.i1,a.i2,a.i3]=[b.kind,b.i0,b.i1,b.i2,b.i3])
def fresh(x:Ct):Wt:=⟨x,false,none⟩
def Cu:List Wt->Ct->Tm->Option Wt
 | [],x,_=>some (fresh x)
 |
  w::l,x,at_=>if tI w.c x=true/\w.known=true/\w.c.p=x.p then
   match w.fails with
   |none=>some ⟨x,true,none⟩
   |some t=>(UM t at_).bind λc=>if 0<c then some ⟨x,true,some t⟩else Cu l x at_
  else Cu l x at_
def Tn(old:List Wt)(at_:Tm):List Ct->Option (List Wt)
 | []=>some []
 |x::l=>(Cu old x at_).bind λw=>(Tn old at_ l).bind λr=>some (w::r)
end Orr
namespace Orr
open Go Go.Proofs Tryz Orq
set_option maxRecDepth 10000
theorem QF{T:Nat}{c:Cr}{r0 r1:Us}(hc:Va c.now):U7 prog 400 [.one (.ow 0 0)] [.blk T (Hm c r0 r1)] [.agg (ta c.now)] [.blk T (Hm c r0 r1)]:=by
 have cl:=Pe (b:=c.now) (l:=[]) hc.tb (λt ht=>by cases ht) (by decide) rfl;refine Fx func400 rfl ?_;exact Uh [] [0] [.f rfl,.k cl] rfl
theorem UW{T:Nat}{c:Cr}{r0 r1:Us}(hc:CrOk c):U7 prog 389 [.one (.ow 0 0)] [.blk T (Hm c r0 r1)] [.one (.row (U9 (Fp (c.l.map (·.c)))))] [.blk T (Hm c r0 r1)]:=by
 have hk:=hc.k;have hw:=Tr c.l;refine Fx func389 rfl ?_;refine Ud [.o 3 99 7] rfl ?_;refine Ui (S:=Nat) 2 (λL1 i=>(11,.v (.oi i))::(3,.v (.one (.orow 1 7 none)))::L1) (λi=>[.blk T (Hm c r0 r1),.row false 99 7 (U9 ((c.l.map (·.c)).take i))]) (λi=>c.l.length-i) (λi=>i<=c.l.length) 0 (Qh _) rfl rfl λi hi=>?_
 by_cases hlt:i<c.l.length
 ·obtain⟨x,hx⟩:=gxE (l:=c.l) (i:=i) hlt;have hm:∀y∈[Du x.c],y.length=7:=λy hy=>by rw[Qk.1 hy];rfl
  have hg:(c.l.map (·.c)).take (i+1)=(c.l.map (·.c)).take i++[x.c]:=by
   rw[Zv,Q7,hx];rfl
  have hl:decide ((i:Int)<((Ce c.l).length:Int))=true:=by simp[hw];omega
  obtain⟨xc,xk,xf⟩:=x;cases xf <;> (refine go tt [.t hl,.x (Ht hx),.s (sz:=7) hm] rfl (by simp[U4,Pu];omega) ?_;exact rd (i+1) (by omega) hlt (by rw[hg];simp[U9];rfl))
 ·obtain rfl:i=c.l.length:=by omega
  have e:(c.l.map (·.c)).take c.l.length=c.l.map (·.c):=Qm (by simp);rw[e];have cs:=HL (l:=c.l.map (·.c)) (λx hx=>by
   obtain⟨w,hw,rfl⟩:=Za.1 hx;exact Dp.pb (hc.l w hw).p.dp) (by simp;omega)
  exact Uh [] [0] [.f (by simp[hw]),.k cs] rfl
theorem Qtw{T:Nat}{c:Cr}{r0 r1:Us}{x:Ct}{at_:Tm}{w:Wt}(hc:CrOk c)(hx:Cp x.p)(ha:Va at_)(h:Cu c.l x at_=some w):U7 prog 289 [.one (.ow 0 0),.agg (Du x),.agg (ta at_)] [.blk T (Hm c r0 r1)] [.agg (wl w)] [.blk T (Hm c r0 r1)]:=by
 have hk:=hc.k;have hw:=Tr c.l;refine Fx func289 rfl ?_;refine Ud [] rfl ?_;refine Ui (S:=Nat) 4 (λL1 i=>(14,.v (.oi i))::L1) (λ_=>[.blk T (Hm c r0 r1),.blk 99 (Du x),.blk 105 (ta at_),.blk 352 [.int .i64 0,.int .i64 0,.int .i64 0,.int .i64 0,.int .i64 0,.nils,.int .i64 0,.bool false,.bool false,.nils,.bool false,.nils,.bool false,.nils,.bool false,.nils,.bool false,.nils]]) (λi=>c.l.length-i) (λi=>i<=c.l.length/\Cu (c.l.drop i) x at_=some w) 0 ⟨Qh _,h⟩ rfl rfl λi ⟨hi,hf⟩=>?_
 by_cases hlt:i<c.l.length
 ·obtain⟨v,hv⟩:=gxE (l:=c.l) (i:=i) hlt;have hdr:c.l.drop i=v::c.l.drop (i+1):=by
   rw[Zp hlt];congr 1;have:=Qe hlt;rw[hv]at this;injection this with this;exact this.symm
  have hvo:=hc.l v (Qc hv);rw[hdr]at hf;simp only[Cu]at hf;have hl:decide ((i:Int)<((Ce c.l).length:Int))=true:=by simp[hw];omega
  by_cases A:tI v.c x=true
  ·have A':(!decide ([v.c.kind,v.c.i0,v.c.i1,v.c.i2,v.c.i3]=[x.kind,x.i0,x.i1,x.i2,x.i3]))=false:=by
    unfold tI at A;rw[A];rfl
   by_cases B:v.known=true
   ·have B':(!v.known)=false:=by rw[B];rfl
    have cs:=MU (p:=v.c.p) (q:=x.p) (Dp.pb hvo.p.dp).ln (Dp.pb hx.dp).ln (Dp.pb hvo.p.dp).bd (Dp.pb hx.dp).bd;rw[hvo.p.t,hx.t]at cs;by_cases C:v.c.p=x.p
    ·have C':(!decide (v.c.p=x.p))=false:=by simp[C]
     rw[if_pos ⟨A,B,C⟩]at hf;obtain⟨vc,vk,vf⟩:=v;cases vf with
     |
      none =>
      injection hf with hf;subst hf;exact Uh [] [0] [.t hl,.x (Ht hv),.g 24 false A',.g 29 false B',.k cs,.f C',.g 41 true rfl,.t rfl] rfl
     |
      some t =>
      obtain⟨r,r1',hf⟩:=Qd.1 hf;have cc:=KR (hvo.f t rfl).tb ha.tb r1';by_cases D:0<r
      ·rw[if_pos D]at hf;injection hf with hf;subst hf;exact Uh [] [0] [.t hl,.x (Ht hv),.g 24 false A',.g 29 false B',.k cs,.f C',.g 41 false rfl,.k cc,.t (by simpa using D)] rfl
      ·rw[if_neg D]at hf;refine Ue [.t hl,.x (Ht hv),.g 24 false A',.g 29 false B',.k cs,.f C',.g 41 false rfl,.k cc,.f (by simpa using D)] rfl ?_;exact rd (i+1) (by omega) ⟨hlt,hf⟩ rfl
    ·rw[if_neg λh=>C h.2.2]at hf;refine Ue [.t hl,.x (Ht hv),.g 24 false A',.g 29 false B',.k cs,.t (by simp[C])] rfl ?_;exact rd (i+1) (by omega) ⟨hlt,hf⟩ rfl
   ·rw[if_neg λh=>B h.2.1]at hf;refine Ue [.t hl,.x (Ht hv),.g 24 false A',.g 29 true (by simpa using B),.t rfl] rfl ?_;exact rd (i+1) (by omega) ⟨hlt,hf⟩ rfl
  ·rw[if_neg λh=>A h.1]at hf;refine Ue [.t hl,.x (Ht hv),.g 24 true (by rw[show decide ([v.c.kind,v.c.i0,v.c.i1,v.c.i2,v.c.i3]=[x.kind,x.i0,x.i1,x.i2,x.i3])=false from Wu.2 A];rfl),.g 29 true rfl,.t rfl] rfl ?_;exact rd (i+1) (by omega) ⟨hlt,hf⟩ rfl
 ·obtain rfl:i=c.l.length:=by omega
  rw[Yt]at hf;simp only[Cu]at hf;injection hf with hf;subst hf;exact Uh [] [0] [.f (by simp[hw])] rfl
theorem XE{old:List Wt}{at_:Tm}:∀{l:List Ct} {ws:List Wt},Tn old at_ l=some ws->ws.length=l.length/\∀(i:Nat) (x:Ct),l[i]? = some x->∃w,Cu old x at_=some w/\ws[i]? = some w
 | [],ws,h=>by injection h with h;subst h;exact⟨rfl,λi x hx=>by simp at hx⟩
 |
  y::l,ws,h=>by
  simp only[Tn]at h;obtain⟨w,hw,h⟩:=Qd.1 h;obtain⟨r,hr,h⟩:=Qd.1 h;injection h with h;subst h;obtain⟨a,b⟩:=XE hr;refine⟨by simp[a],λi x hx=>?_⟩;cases i with
  |zero=>injection hx with hx;subst hx;exact⟨w,hw,rfl⟩
  |succ i=>exact b i x (by simpa using hx)
theorem Ae{l:List Wt}{i:Nat}{w:Wt}(h:l[i]? = some w):Ce (l.take (i+1))=Ce (l.take i)++[wl w]:=by
 rw[Zv,h];simp[Ce]
theorem UU{T:Nat}{c:Cr}{r0 r1:Us}{at_:Tm}{l:List Ct}{ws:List Wt}(hc:CrOk c)(ha:Va at_)(hl:∀x∈l,Cp x.p)(hn:l.length≤1000)(h:Tn c.l at_ (Fp l)=some ws):U7 prog 250 [.one (.ow 0 0),.agg (ta at_),.one (.bool true),.one (.row (U9 l))] [.blk T (Hm c r0 r1)] [] [.blk T (Hm ⟨at_,ws,c.ev⟩ r0 r1)]:=by
 have cs:=HL (l:=l) (λx hx=>Dp.pb (hl x hx).dp) (by omega);have cl:=Pe (b:=at_) (l:=[]) ha.tb (λt ht=>by cases ht) (by decide) rfl;obtain⟨h1,h2⟩:=XE h;have hs:(Fp l).length=l.length:=M4 l;refine Fx func250 rfl ?_;refine Ud [.o 8 352 18,.k cs] rfl ?_;refine Ui (S:=Nat) 3 (λL1 i=>(15,.v (.oi i))::(8,.v (.one (.orow 2 18 none)))::L1) (λi=>[.blk T (Hm c r0 r1),.blk 105 (ta at_),.row false 352 18 (Ce (ws.take i))]) (λi=>ws.length-i) (λi=>i<=ws.length) 0 (Qh _) rfl rfl λi hi=>?_
 by_cases hlt:i<ws.length
 ·obtain⟨x,hx⟩:=gxE (l:=(Fp l)) (i:=i) (by omega);obtain⟨w,hw,hw'⟩:=h2 i x hx;have hm:∀y∈[wl w],y.length=18:=λy hy=>by rw[Qk.1 hy];rfl
  have hlt':decide ((i:Int)<((U9 (Fp l)).length:Int))=true:=by simp[U9];omega
  have ck:=Qtw (T:=T) (r0:=r0) (r1:=r1) hc (hl x (Td (Qc hx))) ha hw;have hg:=Ae hw';obtain⟨wc,wk,wf⟩:=w;cases wf <;> (refine go tt [.t hlt',.x (XY hx),.t rfl,.c [0] ck,.s (sz:=18) hm] rfl (by simp[U4,Tr];omega) ?_;exact rd (i+1) (by omega) hlt (by rw[hg];rfl))
 ·obtain rfl:i=ws.length:=by omega
  rw[Q6];have hge:decide ((ws.length:Int)<((U9 (Fp l)).length:Int))=false:=by simp[U9];omega
  exact Uh [] [0] [.f hge,.p 2,.k cl] rfl
abbrev mA(r0 r1:LV):Ur:=[.bool false,.nils,.bool false,.nils,.bool false,.nils,.bool false,.nils,.bool false,.nils,.nils,.int .i64 0,r0,r1]
theorem Qna{T:Nat}{r0 r1:Us}{at_:Tm}{l:List Ct}(ha:Va at_)(hl:∀x∈l,Cp x.p)(hn:l.length≤1000):U7 prog 250 [.one (.ow 0 0),.agg (ta at_),.one (.bool false),.one (.row (U9 l))] [.blk T (mA (.row r0) (.row r1))] [] [.blk T (Hm ⟨at_,(Fp l).map fresh,0⟩ r0 r1)]:=by
 have cs:=HL (l:=l) (λx hx=>Dp.pb (hl x hx).dp) (by omega);have cl:=Pe (b:=at_) (l:=[]) ha.tb (λt ht=>by cases ht) (by decide) rfl;have hs:(Fp l).length=l.length:=M4 l;refine Fx func250 rfl ?_;refine Ud [.o 8 352 18,.k cs] rfl ?_;refine Ui (S:=Nat) 3 (λL1 i=>(15,.v (.oi i))::(8,.v (.one (.orow 2 18 none)))::L1) (λi=>[.blk T (mA (.row r0) (.row r1)),.blk 105 (ta at_),.row false 352 18 (Ce (((Fp l).map fresh).take i))]) (λi=>l.length-i) (λi=>i<=l.length) 0 (Qh _) rfl rfl λi hi=>?_
 by_cases hlt:i<l.length
 ·obtain⟨x,hx⟩:=gxE (l:=(Fp l)) (i:=i) (by omega);have hm:∀y∈[wl (fresh x)],y.length=18:=λy hy=>by rw[Qk.1 hy];rfl
  have hlt':decide ((i:Int)<((U9 (Fp l)).length:Int))=true:=by simp[U9];omega
  have hg:=Ae (l:=(Fp l).map fresh) (i:=i) (w:=fresh x) (by rw[Q7,hx];rfl);refine go tt [.t hlt',.x (XY hx),.z 20,.f rfl,.s (sz:=18) hm] rfl (by simp[U4,Tr];omega) ?_;exact rd (i+1) (by omega) hlt (by rw[hg];rfl)
 ·obtain rfl:i=l.length:=by omega
  rw[Qm (by simp;omega)];have hge:decide ((l.length:Int)<((U9 (Fp l)).length:Int))=false:=by simp[U9];omega
  exact Uh [] [0] [.f hge,.p 2,.k cl] rfl
theorem YV{T:Nat}{r0 r1:Us}{at_:Tm}{l:List Ct}(ha:Va at_)(hl:∀x∈l,Cp x.p)(hn:l.length≤1000):U7 prog 194 [.one (.ow 0 0),.agg (ta at_),.one (.row (U9 l))] [.blk T (mA (.row r0) (.row r1))] [] [.blk T (Hm ⟨at_,(Fp l).map fresh,0⟩ r0 r1)]:=by
 have cl:=Qna (T:=T) (r0:=r0) (r1:=r1) ha hl hn;refine Fx func194 rfl ?_;exact Uh [] [0] [.g 12 false rfl,.c [0] cl] rfl
theorem eB{a b:Bool}(h:a=b):TV.one (LV.bool a)=.one (.bool b):=h ▸ rfl
theorem YK{T:Nat}{c:Cr}{r0 r1:Us}{at_:Tm}{l:List Ct}{ws:List Wt}{k:Int}(hc:CrOk c)(ha:Va at_)(hk:UM at_ c.now=some k)(h0:0≤k)(hl:∀x∈l,Cp x.p)(hn:l.length≤1000)(h:Tn c.l at_ (Fp l)=some ws):U7 prog 194 [.one (.ow 0 0),.agg (ta at_),.one (.row (U9 l))] [.blk T (Hm c r0 r1)] [] [.blk T (Hm ⟨at_,ws,c.ev⟩ r0 r1)]:=by
 have cl:=UU (T:=T) (r0:=r0) (r1:=r1) hc ha hl hn h;have cc:=KR ha.tb hc.n.tb hk;refine Fx func194 rfl ?_;exact Uh [] [0] [.g 12 true rfl,.k cc,.r 20 (eB (show decide (0<=k)=true by simpa using h0)),.c [0] cl] rfl
theorem MO:∀{k:Nat} {g:Um} {l:Un},Pb g->RE k g=some l->l.length≤k/\∀p∈l,Pb p
 | 0,_,_,_,h=>by cases h
 |
  k+1,g,l,hg,h=>by
  simp only[RE]at h
  split at h
  ·injection h with h;subst h;exact⟨by simp,λp hp=>by cases hp⟩
  ·obtain⟨d,hd,h⟩:=Qd.1 h;obtain⟨rfl,hdp⟩:=EQ hd;obtain⟨x,hx,h⟩:=Qd.1 h;obtain⟨q,hq,h⟩:=Qd.1 h;obtain⟨r,hr,h⟩:=Qd.1 h;injection h with h;subst h;obtain⟨i1,i2⟩:=MO (TU hg hdp hx) hr;refine⟨by simp;exact i1,λp hp=>?_⟩;rcases Qn.1 hp with rfl|hp
   ·exact bO hq
   ·exact i2 p hp
theorem Qf5{a:Um}{l:Un}(ha:Pb a)(h:RE 66 (Fj a)=some l):Uj 413 [pr a] [.one (.row (Pj l))]:=by
 have hp:=Rz ha;refine Fx func413 rfl ?_;refine Ud [.o 3 33 1,.k (Ie ha)] rfl ?_;refine Ui (S:=Nat×Un×Um) 1 (λL1 s=>(4,.v (pr s.2.2))::(3,.v (.one (.orow 0 1 none)))::L1) (λs=>[.row false 33 1 (Pj s.2.1)]) (λs=>s.1) (λs=>Pb s.2.2/\s.2.1.length+s.1<=66/\∃m,RE s.1 s.2.2=some m/\s.2.1++m=l) (66,[],Fj a) ⟨hp,Ql _,l,h,rfl⟩ rfl rfl λ⟨k,out,g⟩ ⟨j1,j2,m,j3,j4⟩=>?_
 dsimp only at j1 j2 j3 j4 ⊢;cases k with
 |zero=>cases j3
 |
  succ k =>
  simp only[RE]at j3
  split at j3
  ·rename_i h0;injection j3 with j3;subst j3;rw[Zw]at j4;subst j4;exact Uf [.k (Md _),.f (by simp;omega)] rfl
  ·rename_i h0;obtain⟨d,hd,j3⟩:=Qd.1 j3;obtain⟨rfl,hdp⟩:=EQ hd;obtain⟨x,hx,j3⟩:=Qd.1 j3;obtain⟨q,hq,j3⟩:=Qd.1 j3;obtain⟨r,hr,j3⟩:=Qd.1 j3;injection j3 with j3;subst j3;have hxp:=TU j1 hdp hx;refine go tt [.k (Md _),.t (by simp;omega),.k (I6 j1.ln j1.bd),.k (eG j1 hdp hx),.k (Qgh j1 hxp hq),.s (sz:=1) (l:=[[pl q]]) (λc hc=>by rw[Qk.1 hc];rfl)] rfl (by simp[U4,Ab];omega) ?_;exact rd (k,out++[q],x) (by dsimp only;omega) ⟨hxp,by simp;omega,r,hr,by rw[<-j4];simp⟩ (by rw[EV];rfl)
theorem DW:∀{l r:Un},IQ l=some r->r.length=l.length/\∀i w,l[i]? = some w->(match l[i+1]? with|some v=>∃f,JS w v=some f/\r[i]? = some f|none=>r[i]? = some w)
 | [],r,h=>by injection h with h;subst h;exact⟨rfl,λi w hw=>by simp at hw⟩
 |
  [w],r,h=>by
  injection h with h;subst h;refine⟨rfl,λi x hx=>?_⟩;cases i with
  |zero=>simpa using hx
  |succ i=>simp at hx
 |
  w::v::l,r,h=>by
  simp only[IQ]at h;obtain⟨f,hf,h⟩:=Qd.1 h;obtain⟨s,hs,h⟩:=Qd.1 h;injection h with h;subst h;obtain⟨i1,i2⟩:=DW hs;refine⟨by simp[i1],λi x hx=>?_⟩;cases i with
  |
   zero =>
   injection hx with hx;subst hx;exact⟨f,hf,rfl⟩
  |
   succ i =>
   have:=i2 i x (by simpa using hx);simpa using this
theorem jE:∀{l r:Un},(∀p∈l,Pb p)->IQ l=some r->∀p∈r,Pb p
 | [],r,_,h=>by injection h with h;subst h;exact λp hp=>by cases hp
 | [w],r,hl,h=>by injection h with h;subst h;exact hl
 |
  w::v::l,r,hl,h=>by
  simp only[IQ]at h;obtain⟨f,hf,h⟩:=Qd.1 h;obtain⟨s,hs,h⟩:=Qd.1 h;injection h with h;subst h;intro p hp;rcases Qn.1 hp with rfl|hp
  ·exact bO hf
  ·exact jE (λp hp=>hl p (Qg _ hp)) hs p hp
theorem Qbd{a:Um}{l r:Un}(ha:Pb a)(h:RE 66 (Fj a)=some l)(hr:IQ l=some r):Uj 408 [pr a] [.one (.row (Pj r))]:=by
 obtain⟨i1,i2⟩:=MO (Rz ha) h;obtain⟨j1,j2⟩:=DW hr;have hw:=Ab l;refine Fx func408 rfl ?_;refine go tt [.k (Qf5 ha h),.i (Pj l).length,.i (Pj l).length] rfl (by simp[U4,hw];omega) ?_;rw[hw,Am λi=>[pl (r.getD i [])]];refine Ui (S:=Nat) 1 (λL1 k=>(14,.v (.oi k))::L1) (λk=>[.row false 33 1 (AM (λi=>[pl (r.getD i [])]) [.nils] l.length k)]) (λk=>l.length-k) (λk=>k<=l.length) 0 (Qh _) rfl rfl λk hk=>?_
 by_cases hlt:k<l.length
 ·obtain⟨w,hx⟩:=gxE (l:=l) (i:=k) hlt;have e:=QD (λi=>[pl (r.getD i [])]) [.nils] hlt;have hg:=j2 k w hx;by_cases h2:k+1<l.length
  ·obtain⟨v,hv⟩:=gxE (l:=l) (i:=k+1) h2;rw[hv]at hg;obtain⟨f,f1,f2⟩:=hg;have e2:r.getD k []=f:=by rw[Qi,f2];rfl
   rw[e2]at e;refine go tt [.t (by simp[hw];omega),.x (Rr hx),.i k,.t (by simp[hw];omega),.x (i:=k+1) (Rr hv),.k (Qgh (i2 w (Qc hx)) (i2 v (Qc hv)) f1),.i k] rfl (by simp[U4,Im,hw];omega) ?_;rw[List.set_set,e];exact rd (k+1) (by omega) hlt rfl
  ·have hv:l[k+1]? = none:=Qw (by omega);rw[hv]at hg;have e2:r.getD k []=w:=by rw[Qi,hg];rfl
   rw[e2]at e;refine go tt [.t (by simp[hw];omega),.x (Rr hx),.i k,.f (by simp[hw];omega)] rfl (by simp[U4,Im,hw];omega) ?_;rw[e];exact rd (k+1) (by omega) hlt rfl
 ·obtain rfl:k=l.length:=by omega
  have e:AM (λi=>[pl (r.getD i [])]) [.nils] l.length l.length=Pj r:=by
   rw[QC,<-j1];refine Xm λi=>?_
   simp only[Pj,Q7];by_cases hi:i<r.length
   ·rw[X3 hi];simp[Qi,Qe hi]
   ·rw[Qw (by simpa using hi),Qw (by simpa using hi)];rfl
  rw[e];exact Uf [.f (by simp[hw])] rfl
theorem cY{p:Um}(tp:Fg p):Fj (Fj p)=Fj p:=by
 by_cases h:p.length=0
 ·have e:Fj p=[]:=by unfold Fj;rw[if_pos h]
  rw[e];rfl
 ·obtain⟨h1,h2,h3,h4,_⟩:=Cz tp h;have hc:Pn (Fj p)=1:=by
   have h5:Pn (Fj p)∣1:=h3 _ λk=>by
    by_cases hk:k<(Fj p).length
    ·rw[Qi,Qe hk];exact Aa _ (Xt hk)
    ·rw[Qi,Qw (by omega)];exact Int.dvd_zero _
   have h6:0<=Pn (Fj p):=by unfold Pn;omega
   exact Int.eq_one_of_dvd_one h6 h5
  have hf:∀q:Um,0<Fu q->Hp q=Pn q:=λq hq=>by unfold Hp;rw[if_neg (by omega)]
  have hf:=(hf _ h4).trans hc;have e0:∀q:Um,q.length≠0->Fj q=Di q (Hp q):=λq hq=>by unfold Fj;rw[if_neg hq]
  have e:=e0 (Fj p) (by omega);rw[hf]at e;rw[e];unfold Di;have e2:(Fj p).map (· / (1:Int))=Fj p:=by
   conv=>rhs;rw[<-List.map_id (Fj p)]
   exact Xk λz _=>by simp
  rw[e2];exact h1
theorem Qam(i:Nat):(i:Int).tmod 2=((i % 2:Nat):Int):=rfl
theorem Qt2{a:Um}(ha:Pb a)(h:(Fj a).length=0):Uj 404 [pr a] [pr []] :=
 Ug func404 rfl [.k (Ie ha),.t (by simp[Qj h])] rfl
theorem YI:∀{l:Un} {i:Nat} {p o:Um},Pb p->(∀f∈l,Pb f)->FI i p l=some o->Pb o
 | [],i,p,o,hp,_,h=>by simp only[FI]at h;injection h with h;subst h;exact hp
 |
  f::l,i,p,o,hp,hl,h=>by
  simp only[FI]at h
  split at h
  ·obtain⟨q,hq,h⟩:=Qd.1 h;obtain⟨rfl,hq'⟩:=QS (H5 _ _) hq;exact YI hq' (λf hf=>hl f (Qg _ hf)) h
  ·exact YI hp (λf hf=>hl f (Qg _ hf)) h
theorem Qjq:Pb [1]:=⟨rfl,by decide,λz hz=>by rw[Qk.1 hz];decide⟩
theorem Qx4{a o:Um}(ha:Pb a)(h:cX a=some o):Uj 404 [pr a] [pr o]:=by
 unfold cX at h
 split at h
 ·rename_i h0;injection h with h;subst h;exact Qt2 ha h0
 rename_i h0;obtain⟨l,hl,h⟩:=Qd.1 h;obtain⟨fs,hf,h⟩:=Qd.1 h;have hpa:=Rz ha;have hl':RE 66 (Fj (Fj a))=some l:=by rw[cY ha.t];exact hl
 obtain⟨i1,i2⟩:=MO (Rz ha) hl;have i3:=jE i2 hf;obtain⟨j1,_⟩:=DW hf;have hw:=Ab fs;have co:=lT (p:=[1]) (by decide) (λz hz=>by rw[Qk.1 hz];decide);rw[show trim [1]=[1] from rfl]at co;refine Fx func404 rfl ?_;refine Ud [.k (Ie ha),.f (by simpa using h0),.k co,.k (Qbd hpa hl' hf)] rfl ?_ (by simp[U4]);refine Ui (S:=Nat×Um) 0 (λL1 s=>(16,.v (.oi (s.1:Int)))::(3,.v (pr s.2))::L1) (λ_=>[]) (λs=>fs.length-s.1) (λs=>s.1<=fs.length/\Pb s.2/\FI s.1 s.2 (fs.drop s.1)=some o) (0,[1]) ⟨Qh _,Qjq,h⟩ rfl rfl λ⟨i,p⟩ ⟨k1,k2,k3⟩=>?_
 dsimp only at k1 k2 k3 ⊢;by_cases hlt:i<fs.length
 ·obtain⟨f,hx⟩:=gxE (l:=fs) (i:=i) hlt;have hdr:fs.drop i=f::fs.drop (i+1):=by
   rw[Zp hlt];congr 1;have:=Qe hlt;rw[hx]at this;injection this with this;exact this.symm
  rw[hdr]at k3;simp only[FI]at k3;have pf:=i3 f (Qc hx);by_cases h2:i % 2=0
  ·rw[if_pos h2]at k3;obtain⟨q,hq,k3⟩:=Qd.1 k3;obtain⟨rfl,hq'⟩:=QS (H5 _ _) hq;refine Ue [.t (by simp[hw];omega),.x (Rr hx),.t (by rw[Qam,h2];rfl),.k (KN k2.t pf.t (Z3 k2.l (by decide)) (Z3 pf.l (by decide)) k2.b pf.b (by decide))] rfl ?_;exact rd (i+1,Gm p f) (by dsimp only;omega) ⟨hlt,hq',k3⟩ rfl
  ·rw[if_neg h2]at k3;refine Ue [.t (by simp[hw];omega),.x (Rr hx),.f (by rw[Qam,show i % 2=1 by omega];rfl)] rfl ?_;exact rd (i+1,p) (by dsimp only;omega) ⟨hlt,k2,k3⟩ rfl
 ·obtain rfl:i=fs.length:=by omega
  rw[Yt]at k3;simp only[FI]at k3;injection k3 with k3;subst k3;exact Uf [.f (by simp[hw])] rfl
theorem QE(z:Int):Ff (z.natAbs:Int)=Ff z:=by unfold Ff;simp
theorem Qfw{x y:LV}{z:Int}(hi:Gg x y z)(hs:Ff z<=4294967295):Uj 409 [.agg [x,y]] [.agg (G9 (z.natAbs:Int))]:=by
 obtain⟨b,l,rfl,rfl,hl,rfl⟩:=hi;have e:(Fc false (val l))=((Fc b (val l)).natAbs:Int):=by rw[Rw];rfl
 rw[<-e];exact Ug func409 rfl [.k (KP hl (Qa (P6 hs) (by decide))),.k (P8 _ _)] rfl
theorem Qob{n d:Int}(h0:d≠0)(hn:Ff n<=4294967295)(hd:Ff d<=4294967295):Uj 410 [.agg (G9 n),.agg (G9 d)] [.agg (rl (Rat.divInt n d)),.oi 0] :=
 Ug func410 rfl [.k (Mr (U5 d) hd),.k Do,.f (by simpa using h0),.k (Mr (U5 n) hn),.k (XX h0 hn hd)] rfl
theorem Qcx(l:Um)(z:Int):most (l++[z])=if most l<z.natAbs then z.natAbs else most l:=by unfold most;rw[List.foldl_append];rfl
theorem iP{s:Nat}:∀{l:Um},Bd s l->Ff (most l:Int)<=s:=λ{l}=>by
 suffices h:∀(l:Um) (m:Nat),Bd s l->Ff (m:Int)<=s->Ff ((l.foldl (λm z=>if m<z.natAbs then z.natAbs else m) m:Nat):Int)<=s from λhb=>h l 0 hb (by simp[Ff,sz])
 intro l
 induction l with
 |nil=>exact λm _ h=>h
 |
  cons z l ih =>
  intro m hb hm;refine ih _ (λy hy=>hb y (Qg _ hy)) ?_;show Ff ((if m<z.natAbs then z.natAbs else m:Nat):Int)<=s
  split
  ·rw[QE];exact hb z (Qy ..)
  ·exact hm
def ozi:Option Nat->Ur
 |none=>[.bool false,.nils]
 |some m=>G9 (m:Int)
def ozr:Option Nat->Ur
 |none=>[.bool false,.row []]
 |some m=>G9 (m:Int)
theorem Qm2{p:Um}(hp:Pb p)(h0:p.length≠0):Uj 405 [pr p] [.agg (rl (Gy p)),.oi 0]:=by
 have hl:=hp.l;have hll:(p.take (p.length-1)).length=p.length-1:=by simp
 have hbt:Bd 16777216 (p.take (p.length-1)):=λz hz=>hp.b z (Qo hz)
 refine Fx func405 rfl ?_;refine Ue [.k (Hu hp.t hp.ln hp.bd),.f (by simpa using h0),.r 18 (eI (b:=((p.length-1:Nat):Int)) (by simp;omega)),.i (p.length-1)] rfl ?_;rw[<-Jv];refine Ui (S:=Nat×Option Nat) 2 (λL1 s=>(21,.v (.oi (s.1:Int)))::L1) (λs=>[.blk 42 [.bool false,.nils,.bool false,.nils],.blk 36 (ozi s.2)]) (λs=>p.length-1-s.1) (λs=>s.1<=p.length-1/\most ((p.take (p.length-1)).take s.1)=s.2.getD 0) (0,none) ⟨Qh _,rfl⟩ rfl rfl λ⟨i,o⟩ ⟨j1,j2⟩=>?_
 dsimp only at j1 j2 ⊢;by_cases hlt:i<p.length-1
 ·obtain⟨z,hz⟩:=gxE (l:=(p.take (p.length-1))) (i:=i) (by omega);have bz:Ff z<=16777216:=hbt z (Qc hz);have hst:most ((p.take (p.length-1)).take (i+1))=if o.getD 0<z.natAbs then z.natAbs else o.getD 0:=by
   rw[Zv,hz];show most (_++[z])=_;rw[Qcx,j2]
  have ca:=Qfw (U5 z) (Qa bz (by decide));have hl1:decide ((i:Int)<(((p.take (p.length-1)).map G9).length:Int))=true:=by simp;omega
  have bm:Ff ((o.getD 0:Nat):Int)<=16777216:=by rw[<-j2];exact iP λy hy=>hbt y (Qo hy)
  have hcm:Ld (z.natAbs:Int) ((o.getD 0:Nat):Int)>0↔o.getD 0<z.natAbs:=by unfold Ld;split <;> (try split) <;> omega
  have cc:Uj 142 [.agg (G9 (z.natAbs:Int)),.agg (ozr o)] [.oi (Ld (z.natAbs:Int) ((o.getD 0:Nat):Int))]:=by
   cases o with
   |none=>exact HE (U5 _) QL (by rw[QE];omega) (by decide)
   |some m=>exact HE (U5 _) (U5 _) (by rw[QE];omega) (Qa bm (by decide))
  by_cases hc:o.getD 0<z.natAbs
  ·rw[if_pos hc]at hst;have hd:decide (Ld (z.natAbs:Int) ((o.getD 0:Nat):Int)>0)=true:=by simpa using hcm.2 hc
   cases o <;> (refine Ue [.t hl1,.x (G6 (f:=G9) hz),.k ca,.k cc,.t hd] rfl ?_;exact rd (i+1,some z.natAbs) (by dsimp only;omega) ⟨hlt,hst⟩ rfl)
  ·rw[if_neg hc]at hst;have hd:decide (Ld (z.natAbs:Int) ((o.getD 0:Nat):Int)>0)=false:=by
    have:=mt hcm.1 hc;simpa using this
   cases o with
   |none=>refine Ue [.t hl1,.x (G6 (f:=G9) hz),.k ca,.k cc,.f hd] rfl ?_;exact rd (i+1,none) (by dsimp only;omega) ⟨hlt,hst⟩ rfl
   |some m=>refine Ue [.t hl1,.x (G6 (f:=G9) hz),.k ca,.k cc,.f hd] rfl ?_;exact rd (i+1,some m) (by dsimp only;omega) ⟨hlt,hst⟩ rfl
 ·obtain rfl:i=p.length-1:=by omega
  rw[Qm (by omega)]at j2;have bl:Ff (Fu p)<=16777216:=hp.b _ (LF h0);have ln:((Fu p).natAbs:Int)≠0:=by have:=Et hp.t h0;omega
  have cl:=Dy hp.t hp.ln hp.bd;have ca:=Qfw (U5 (Fu p)) (Qa bl (by decide));have bm:Ff ((o.getD 0:Nat):Int)<=16777216:=by rw[<-j2];exact iP hbt
  have cd:Uj 300 [.agg (G9 ((Fu p).natAbs:Int)),.agg (ozr o)] [.agg (G9 (((Fu p).natAbs:Int)+(most (p.take (p.length-1)):Int)))]:=by
   rw[j2];cases o with
   |none=>exact KB (U5 _) QL (by rw[QE];omega) (by decide)
   |some m=>exact KB (U5 _) (U5 _) (by rw[QE];omega) (Qa bm (by decide))
  have cm:=Qob (n:=((Fu p).natAbs:Int)+(most (p.take (p.length-1)):Int)) ln (Qa (QA _ _) (by rw[QE,j2];omega)) (by rw[QE];omega);have hf:decide (((p.length-1:Nat):Int)<(((p.take (p.length-1)).map G9).length:Int))=false:=by simp
  cases o <;> exact Uf [.f hf,.k cl,.k ca,.k cd,.k cm] rfl
theorem Qr4{z:Int}:Uj 387 [.agg (G9 z)] [.oi (Int.sign z)]:=by
 by_cases h0:z=0
 ·subst h0;exact Ug func387 rfl [.t (by simp[U8,Hd])] rfl
 ·have hl:(Gd z.natAbs).length≠0:=λh=>h0 (Qcv.1 h)
  have hl':decide (((lm (Gd z.natAbs)).length:Int)=0)=false:=by simpa[U8]using hl
  by_cases h1:z<0
  ·rw[J7 h1];exact Ug func387 rfl [.f hl',.t (by simpa using h1)] rfl
  ·rw[Yu (by omega)];exact Ug func387 rfl [.f hl',.f (by simpa using h1)] rfl
theorem Qeu{p:Um}(hp:Pb p):Uj 415 [pr p] [.oi (ZB p),.oi (FZ p)]:=by
 have hb:-1<=(Fu p).sign/\(Fu p).sign<=1:=by rcases A2 (Fu p)with h|h|h <;> omega
 by_cases h:p.length % 2=0
 ·have e:ZB p=-(Fu p).sign:=by unfold ZB;rw[if_pos h]
  rw[e];exact Ug func415 rfl [.k (Hu hp.t hp.ln hp.bd),.k (Dy hp.t hp.ln hp.bd),.k Qr4,.t (by rw[Qam];simp[h])] rfl rfl (by simp[U4,Fu]at hb ⊢;omega)
 ·have e:ZB p=(Fu p).sign:=by unfold ZB;rw[if_neg h]
  rw[e];exact Ug func415 rfl [.k (Hu hp.t hp.ln hp.bd),.k (Dy hp.t hp.ln hp.bd),.k Qr4,.f (by rw[Qam];simp;omega)] rfl rfl (by simp[U4])
theorem Qf7{p:Um}(hp:Pb p):Uj 414 [pr p] [.oi (ZB p)]:=Ug func414 rfl [.k (Qeu hp)] rfl
theorem Qn9{p:Um}(hp:Pb p):Uj 416 [pr p] [.oi (FZ p)]:=Ug func416 rfl [.k (Qeu hp)] rfl
theorem Qgi{q:Rat}(hq:Qs 4294967295 q):Uj 206 [.agg (rl q)] [.agg (rl (-q))]:=by
 exact Ug func206 rfl [.k (CX hq),.k (BS (U5 _) hq.1)] rfl
theorem uZ{l:Un}{fid:Nat}{sg:Um->Int}(hl:l.length≤1000)(hs:∀p,-1≤sg p/\sg p≤1)(h:∀p∈l,AB prog fid [pr p] [.oi (sg p)]):Uj 340 [.one (.sh [.row (Pj l)]),.one (.fn fid [] [])] [.oi (Db sg l:Nat)]:=by
 have hpl:=Ab l;refine Fx func340 rfl ?_;refine Ud [] rfl ?_;refine Ui (S:=Nat) 0 (λL1 i=>(15,.v (.oi i))::(5,.v (.oi ((VL sg l i).1:Int)))::(6,.v (.one (.int .i64 (VL sg l i).2)))::L1) (λ_=>[]) (λi=>l.length-i) (λi=>i<=l.length) 0 (Qh _) rfl rfl λi hi=>?_
 by_cases hlt:i<l.length
 ·obtain⟨p,hp⟩:=gxE (l:=l) (i:=i) hlt;have hst:VL sg l (i+1)=P0 sg (VL sg l i) p:=Sl _ _ _ hp;obtain⟨b1,b2,b3⟩:=kZ hs l i;have b4:=hs p;by_cases h0:sg p=0
  ·refine Ue [.t (by simp[hpl];omega),.x (Rr hp),.k (h p (Qc hp)),.t (by simpa using h0)] rfl ?_;exact rd (i+1) (by omega) hlt (by rw[hst,show P0 sg (VL sg l i) p=VL sg l i from by unfold P0;rw[if_pos h0]];rfl)
  ·by_cases h1:(VL sg l i).2=-(sg p)
   ·refine Ue [.t (by simp[hpl];omega),.x (Rr hp),.k (h p (Qc hp)),.f (by simpa using h0),.t (by simpa using h1)] rfl ?_;exact rd (i+1) (by omega) hlt (by rw[hst,show P0 sg (VL sg l i) p=((VL sg l i).1+1,sg p) from by unfold P0;rw[if_neg h0,if_pos h1]];rfl)
   ·refine Ue [.t (by simp[hpl];omega),.x (Rr hp),.k (h p (Qc hp)),.f (by simpa using h0),.f (by simpa using h1)] rfl ?_;exact rd (i+1) (by omega) hlt (by rw[hst,show P0 sg (VL sg l i) p=((VL sg l i).1,sg p) from by unfold P0;rw[if_neg h0,if_neg h1]];rfl)
 ·obtain rfl:i=l.length:=by omega
  refine Uf [.f (by simp[hpl])] rfl ?_ trivial;unfold VL Db;rw[List.take_length]
theorem RU(p:Um):(-1<=ZB p/\ZB p<=1)/\-1<=FZ p/\FZ p<=1:=by
 have hb:-1<=(Fu p).sign/\(Fu p).sign<=1:=by rcases A2 (Fu p)with h|h|h <;> omega
 unfold ZB FZ
 split <;> omega
theorem Qm4{l:Un}(hl:l.length≤1000)(hp:∀p∈l,Pb p):Uj 407 [.one (.sh [.row (Pj l)])] [.oi (WN l)]:=by
 have c1:Uj 411 [.one (.sh [.row (Pj l)])] [.oi (Db ZB l:Nat)] :=
  Ug func411 rfl [.k (uZ hl (λp=>(RU p).1) λp h=>Qf7 (hp p h))] rfl
 have c2:Uj 412 [.one (.sh [.row (Pj l)])] [.oi (Db FZ l:Nat)] :=
  Ug func412 rfl [.k (uZ hl (λp=>(RU p).2) λp h=>Qn9 (hp p h))] rfl
 have b1:Db ZB l<=l.length:=Ly (λp=>(RU p).1) l;have b2:Db FZ l<=l.length:=Ly (λp=>(RU p).2) l;exact Ug func407 rfl [.k c1,.k c2] rfl rfl (by simp[U4];omega)
theorem pB{l:Un}{lo hi:Rat}(hl:l.length<=1000):-1000<=Ts l lo hi/\Ts l lo hi<=1000:=by
 have b1:Dc l lo<=l.length:=Ly (λp=>O4 p lo) l;have b2:Dc l hi<=l.length:=Ly (λp=>O4 p hi) l;unfold Ts;split <;> omega
abbrev tal(l:List Tm):Us:=l.map λt=>ta t
theorem NU{p:Um}{c:Un}(hp:Pb p):∀{k:Nat} {lo hi:Rat} {n:Int} {r:List Tm},Qb lo->Qb hi->Iq p c k lo hi n=some r->∀t∈r,Tb t
 | 0,_,_,_,_,_,_,h=>by cases h
 |
  k+1,lo,hi,n,r,hl,hh,h=>by
  simp only[Iq]at h
  split at h
  ·injection h with h;subst h;exact λt ht=>by cases ht
  ·split at h
   ·injection h with h;subst h;intro t ht;rw[Qk.1 ht];exact⟨hp,hl,hh⟩
   ·obtain⟨m,hm,h⟩:=Qd.1 h;obtain⟨rfl,qm⟩:=CW hm;obtain⟨x,hx,h⟩:=Qd.1 h;obtain⟨y,hy,h⟩:=Qd.1 h;injection h with h;subst h;intro t ht;rcases Qq.1 ht with ht|ht
    ·exact NU hp hl qm hx t ht
    ·exact NU hp qm hh hy t ht
theorem Qwy(l:List Tm):∀c∈tal l,c.length=9:=λc hc=>by obtain⟨t,_,rfl⟩:=Za.1 hc;rfl
theorem mM{p:Um}{c:Un}(hp:Pb p)(hcl:c.length≤1000)(hc:∀q∈c,Pb q):∀{k:Nat} {lo hi:Rat} {n:Int} {r:List Tm},Qb lo->Qb hi->k≤100000->-(1000*(100001-k:Nat))≤n/\n≤1000*(100001-k:Nat)->Iq p c k lo hi n=some r->r.length≤1000000->U7 prog 406 [pr p,.one (.sh [.row (Pj c)]),.agg (rl lo),.agg (rl hi),.oi n] [] [.one (.orow 0 9 none)] [.row false 105 9 (tal r)]
 | 0,_,_,_,_,_,_,_,_,h,_=>by cases h
 |
  k+1,lo,hi,n,r,hl,hh,hk,hn,h,hr=>by
  simp only[Iq]at h
  split at h
  ·rename_i h0;injection h with h;subst h;refine Fx func406 rfl ?_;exact Uh [] [2] [.t (by simpa using h0),.o 10 105 9] rfl
  ·rename_i h0
   split at h
   ·rename_i h1;injection h with h;subst h;refine Fx func406 rfl ?_;exact Uh [] [2] [.f (by simpa using h0),.t (by simpa using h1),.k (Hu hp.t hp.ln hp.bd),.k (Nz hl.s32),.k (Nz hh.s32),.lo] rfl
   ·rename_i h1;obtain⟨m,hm,h⟩:=Qd.1 h;obtain⟨rfl,qm⟩:=CW hm;obtain⟨x,hx,h⟩:=Qd.1 h;obtain⟨y,hy,h⟩:=Qd.1 h;injection h with h;subst h;have hb:=pB (l:=c) (lo:=lo) (hi:=mid lo hi) hcl;rw[Qu]at hr;have c1:=mM hp hcl hc hl qm (by omega) (by omega) hx (by omega);have c2:=mM hp hcl hc qm hh (by omega) (by omega) hy (by omega);rw[show tal (x++y)=tal x++tal y from Yh];refine Fx func406 rfl ?_;exact Uh [] [3] [.f (by simpa using h0),.f (by simpa using h1),.k (Qr3 hl hh),.k (IS hcl hc hl qm),.c [3] c1,.c [4] c2,.s (Qwy y)] rfl (by simp[U4];omega)
theorem Qnj{p:Um}{r:List Tm}(hp:Pb p)(h:PG p=some r)(hr:r.length<=1000000):Uj 403 [pr p] [.one (tas r),.oi 0]:=by
 unfold PG at h;obtain⟨c,h1,h⟩:=Qd.1 h;obtain⟨q,h2,h⟩:=Qd.1 h;obtain⟨b,h3,h⟩:=Qd.1 h;obtain⟨rfl,hb⟩:=CW h3;obtain⟨k1,k2⟩:=chain_ok hp h1;have hq:=TW hp h2;have q0:q.length≠0:=by
  unfold Eg at h1;obtain⟨a,a1,h1⟩:=Qd.1 h1;rw[h2]at a1;injection a1 with a1;subst a1
  split at h1
  ·cases h1
  ·assumption
 have qn:Qb (-Gy q):=⟨by rw[Rat.neg_num,Hn];exact hb.1,by rw[Rat.neg_den];exact hb.2⟩;have bb1:Db ZB c<=c.length:=Ly (λp=>(RU p).1) c;have bb2:Db FZ c<=c.length:=Ly (λp=>(RU p).2) c;have hn:-(1000*(100001-100000:Nat):Int)<=WN c/\WN c<=1000*(100001-100000:Nat):=by unfold WN;omega
 have cr:=mM hq (by omega) k2 qn hb (Ql _) hn h hr;refine Fx func403 rfl ?_;exact Uh [1] [] [.k (Qfm hp h1),.f rfl,.k (BC hp h2),.k (Qm2 hq q0),.k (Qgi hb.s32),.k (Qm4 (by omega) k2),.c [1] cr] rfl
def U3(l:List Pt):Us:=l.map Fe
theorem Ty{l:List Pt}{i:Nat}{c:Pt}(h:l[i]? = some c):(U3 l)[i]? = some (Fe c):=G6 h
theorem G7(l:List Pt):(U3 l).length=l.length:=by simp[U3]
theorem VJ(l:List Pt):∀c∈U3 l,c.length=5:=λc hc=>by
 obtain⟨x,_,rfl⟩:=Za.1 hc;rfl
abbrev zPt:Ur:=[.nils,.nils,.bool false,.nils,.int .i64 0]
theorem aC{lt:Pt->Pt->Bool}{O:List Pt}{z:Ur}{c:Pt}{k m:Nat}{l2:Us}(hk:k<=O.length)(hp:Eb lt O c O.length=k)(hm:m=O.length-k)(h2:l2.take m=((U3 O++[z]).drop k).take m) :
 ((U3 O++[z]).take (k+1)++(l2.take m++(U3 O++[z]).drop (k+1+m))).set k (Fe c)=U3 (L6 lt O c):=by
 rw[h2,<-Zd,fL (U3 O) z (Fe c) (by rw[G7];omega) (by rw[G7];omega)];simp[L6,hp,U3,Jv,Vi]
def Sf(t:Tm)(l:List Pt):List Pt:=Ek (Tu (Fw t)) l
theorem wB{l:List Pt}{t:Tm}(hl:∀p∈l,Sc p.c)(hn:l.length≤1000000)(ht:Va t):Uj 251 [.agg (ta t),.one (pts l)] [.one (pts (Sf t l))]:=by
 have hcl:=G7 l;show Uj 251 [.agg (ta t),.one (.row (U3 l))] [.one (.row (U3 (Sf t l)))];obtain⟨lt,hlt0⟩:=nmE (Tu (Fw t));unfold Sf;rw[<-hlt0];refine Fx func251 rfl ?_;refine Ud [.o 5 40 5] rfl ?_;refine Ui (S:=Nat) 2 (λL1 i=>(11,.v (.oi i))::(5,.v (.one (.orow 1 5 none)))::L1) (λi=>[.blk 105 (ta t),.row false 40 5 (U3 (Ek lt (l.take i)))]) (λi=>l.length-i) (λi=>i<=l.length) 0 (Qh _) rfl rfl λi hi=>?_
 by_cases hlt:i<l.length
 ·obtain⟨c,hc⟩:=gxE (l:=l) (i:=i) hlt;have hst:Ek lt (l.take (i+1))=L6 lt (Ek lt (l.take i)) c:=dF hc;have hcp:=hl c (Qc hc);obtain⟨O,hO⟩:=nmE (Ek lt (l.take i));have hOl:O.length=i:=by rw[hO,zO,Qp];omega
  have hOm:∀x∈O,Sc x.c:=λx hx=>by rw[hO,Qdl]at hx;exact hl x (Qo hx)
  rw[<-hO]at hst ⊢;refine Ud [.t (by simp[hcl];omega),.x (Ty hc)] rfl ?_;refine Ui (S:=Nat) 3 (λL1 k=>(8,.v (.oi k))::L1) (λk=>[.blk 105 (ta t),.row false 40 5 (U3 O),.blk 40 (Fe c)]) id (λk=>k<=O.length/\Eb lt O c k=Eb lt O c O.length) (U3 O).length ⟨by rw[G7];exact Ql _,by rw[G7]⟩ rfl rfl λk ⟨hk,hp⟩=>?_
  have hz:∀y∈[zPt],y.length=5:=λy hy=>by rw[Qk.1 hy];rfl
  have h77:∀y∈U3 O++[zPt],y.length=5:=λy hy=>by
   rcases Qq.1 hy with hy|hy
   ·exact VJ O y hy
   ·exact hz y hy
  cases k with
  |
   zero =>
   have hp:Eb lt O c O.length=0:=by rw[<-hp];rfl
   refine go tt [.g 19 false (by simp),.f rfl,.s (sz:=5) hz,.r 37 (eI (b:=((0+1:Nat):Int)) (by simp)),.i (0+1),.i (0),.s (sz:=5) (λy hy=>h77 y (Qo hy)),.i (O.length),.i (0)] rfl (by simp[U4,G7];omega) ?_;exact rd (i+1) (by omega) hlt (by rw[hst,<-aC (z:=zPt) (l2:=(U3 O++[zPt]).take ((U3 O++[zPt]).length-0)) (k:=0) (m:=O.length) (by omega) hp (by omega) (by congr 1;exact Qm (by simp))];rfl)
  |
   succ k =>
   obtain⟨x,hx⟩:=gxE (l:=O) (i:=k) (by omega);have cb:=Qen hcp (hOm x (Qc hx)) ht;rw[<-hlt0]at cb;by_cases hlc:lt c x=true
   ·refine go tt [.g 19 true (by simp),.r 23 (eI (b:=(k:Int)) (by simp)),.i k,.x (Ty hx),.k cb,.t hlc,.r 30 (eI (b:=(k:Int)) (by simp))] rfl (by simp[U4,G7];omega) ?_;exact rd k (by simp) ⟨by omega,by rw[<-hp,oH hx hlc]⟩ rfl
   ·have hlc:lt c x=false:=by simpa using hlc
    have hp:Eb lt O c O.length=k+1:=by rw[<-hp,rL hx hlc]
    refine go tt [.g 19 true (by simp),.r 23 (eI (b:=(k:Int)) (by simp)),.i k,.x (Ty hx),.k cb,.f hlc,.s (sz:=5) hz,.r 37 (eI (b:=((k+1+1:Nat):Int)) (by simp)),.i (k+1+1),.i (k+1),.s (sz:=5) (λy hy=>h77 y (Qz (Qo hy))),.i (O.length-(k+1)),.i (k+1)] rfl (by simp[U4,G7];omega) ?_;exact rd (i+1) (by omega) hlt (by rw[hst,<-aC (z:=zPt) (l2:=((U3 O++[zPt]).drop (k+1)).take ((U3 O++[zPt]).length-(k+1))) (k:=k+1) (m:=O.length-(k+1)) (by omega) hp (by omega) (by congr 1;exact Qm (by simp))];rfl)
 ·obtain rfl:i=l.length:=by omega
  rw[Q6];exact Uf [.f (by simp[hcl])] rfl
def Pa(sg:Um->Int):List Pt->List Ct
 |a::b::l=>ZX sg a b::Pa sg (b::l)
 |_=>[]
theorem B8(sg:Um->Int):∀l:List Pt,(Pa sg l).length=l.length-1
 | []=>rfl
 | [_]=>rfl
 |a::b::l=>by simp only[Pa,Q5,B8 sg (b::l)];omega
theorem TN(sg:Um->Int):∀{l:List Pt} {i:Nat} {a b:Pt},l[i]? = some a->l[i+1]? = some b->(Pa sg l).take (i+1)=(Pa sg l).take i++[ZX sg a b]
 | [],i,a,b,h,_=>by simp at h
 | [x],i,a,b,_,h=>by cases i <;> simp at h
 |x::y::l,0,a,b,h1,h2=>by simp at h1 h2;subst h1;subst h2;simp[Pa]
 |
  x::y::l,i+1,a,b,h1,h2=>by
  have ih:=TN sg (l:=y::l) (i:=i) (a:=a) (b:=b) (by simpa using h1) (by simpa using h2);simp only[Pa,Vf]at ih ⊢;rw[ih];rfl
theorem BB{l:List Pt}{t:Tm}(hl:∀p∈l,Sc p.c)(hn:l.length≤1000000)(ht:Va t):Uj 253 [.agg (ta t),.one (pts l)] [.one (.row (U9 (Pa (Fw t) l)))]:=by
 have hcl:=G7 l;show Uj 253 [.agg (ta t),.one (.row (U3 l))] [.one (.row (U9 (Pa (Fw t) l)))];refine Fx func253 rfl ?_;refine Ud [.o 5 99 7] rfl ?_;refine Ui (S:=Nat) 2 (λL1 i=>(6,.v (.oi ((i+1:Nat):Int)))::(5,.v (.one (.orow 1 7 none)))::L1) (λi=>[.blk 105 (ta t),.row false 99 7 (U9 ((Pa (Fw t) l).take i))]) (λi=>l.length-i) (λi=>i<=l.length-1) 0 (Qh _) rfl rfl λi hi=>?_
 by_cases hlt:i+1<l.length
 ·obtain⟨a,ha⟩:=gxE (l:=l) (i:=i) (by omega);obtain⟨b,hb⟩:=gxE (l:=l) (i:=i+1) hlt;have hg:=TN (Fw t) ha hb;have hm:∀y∈[Du (ZX (Fw t) a b)],y.length=7:=λy hy=>by rw[Qk.1 hy];rfl
  refine go tt [.t (by simp[hcl];omega),.r 19 (eI (b:=(i:Int)) (by simp)),.x (Ty ha),.x (Ty hb),.k (lH (hl a (Qc ha)) (hl b (Qc hb)) ht),.s (sz:=7) hm,.r 14 (eI (b:=((i+1+1:Nat):Int)) (by simp))] rfl (by simp[U4,G7,Pu,B8];omega) ?_;exact rd (i+1) (by omega) (by omega) (by rw[hg];simp[U9];rfl)
 ·have e:(Pa (Fw t) l).take i=Pa (Fw t) l:=Qm (by rw[B8];omega);rw[e];exact Uf [.f (by simp[hcl];omega)] rfl
theorem Qnl:Uj 281 [pr []] [.one .nilp,.oi 2]:=by
 have h:Pw []=some []:=rfl;exact Ug func281 rfl [.k (BC TK h),.t rfl] rfl
theorem Qfk:Uj 403 [pr []] [.one (.row []),.oi 2] :=
 Ug func403 rfl [.k Qnl,.t rfl] rfl
theorem Qv4{a o:Um}(ha:Pb a)(h:cX a=some o):Pb o:=by
 unfold cX at h
 split at h
 ·injection h with h;subst h;exact TK
 ·obtain⟨l,hl,h⟩:=Qd.1 h;obtain⟨fs,hf,h⟩:=Qd.1 h;exact YI Qjq (jE (MO (Rz ha) hl).2 hf) h
theorem Qev{p:Um}{l:List Tm}(hp:Pb p)(h:WI p=some l)(hl:l.length<=1000000):Uj 402 [pr p] [.one (tas l)]:=by
 unfold WI at h;obtain⟨q,hq,h⟩:=Qd.1 h;have qp:=Qv4 hp hq;have co:=Qx4 hp hq
 split at h
 ·rename_i h0;injection h with h;subst h;obtain rfl:=Qj h0;exact Ug func402 rfl [.k co,.k Qfk,.t rfl] rfl
 ·exact Ug func402 rfl [.k co,.k (Qnj qp h hl),.f rfl] rfl
def ota:Option Tm->Ur
 |none=>zTr
 |some t=>ta t
theorem Qm8{p:Um}{a:Tm}{l:List Tm}{r:Option Tm}(hp:Pb p)(ha:Tb a)(h:WI p=some l)(hl:l.length≤1000000)(ht:∀t∈l,Tb t)(hr:KX a l=some r):Uj 401 [pr p,.agg (ta a)] [.agg (ota r),.one (.bool r.isSome)]:=by
 have hll:(l.map λt=>ta t).length=l.length:=by simp
 refine Fx func401 rfl ?_;refine Ud [.k (Qev hp h hl)] rfl ?_;refine Ui (S:=Nat) 2 (λL1 i=>(11,.v (.oi i))::L1) (λ_=>[.blk 105 (ta a),.blk 105 zTm]) (λi=>l.length-i) (λi=>i<=l.length/\KX a (l.drop i)=some r) 0 ⟨Qh _,hr⟩ rfl rfl λi ⟨hi,hf⟩=>?_
 by_cases hlt:i<l.length
 ·obtain⟨t,hx⟩:=gxE (l:=l) (i:=i) hlt;have hdr:l.drop i=t::l.drop (i+1):=by
   rw[Zp hlt];congr 1;have:=Qe hlt;rw[hx]at this;injection this with this;exact this.symm
  rw[hdr]at hf;simp only[KX]at hf;obtain⟨c,c1,hf⟩:=Qd.1 hf;have cc:=KR (ht t (Qc hx)) ha c1;by_cases hc:0<c
  ·rw[if_pos hc]at hf;injection hf with hf;subst hf;exact Uf [.t (by simp;omega),.x (NC hx),.k cc,.t (by simpa using hc)] rfl
  ·rw[if_neg hc]at hf;refine Ue [.t (by simp;omega),.x (NC hx),.k cc,.f (by simpa using hc)] rfl ?_;exact rd (i+1) (by omega) ⟨hlt,hf⟩ rfl
 ·obtain rfl:i=l.length:=by omega
  rw[Yt]at hf;simp only[KX]at hf;injection hf with hf;subst hf;exact Uf [.f (by simp)] rfl
def Oj(now:Tm):List Wt->Option (List Wt)
 | []=>some []
 |w::l=>(if w.known=true then some w else(PX w.c.p now).bind λr=>some ⟨w.c,true,r⟩).bind λw'=>(Oj now l).bind λr=>some (w'::r)
theorem YE{now:Tm}:∀{l ws:List Wt},Oj now l=some ws->ws.length=l.length/\∀(i:Nat) (w:Wt),l[i]? = some w->∃v,ws[i]? = some v/\(w.known=true/\v=w\/w.known=false/\∃r,PX w.c.p now=some r/\v=⟨w.c,true,r⟩)
 | [],ws,h=>by injection h with h;subst h;exact⟨rfl,λi x hx=>by simp at hx⟩
 |
  y::l,ws,h=>by
  simp only[Oj]at h;obtain⟨v,hv,h⟩:=Qd.1 h;obtain⟨r,hr,h⟩:=Qd.1 h;injection h with h;subst h;obtain⟨a,b⟩:=YE hr;refine⟨by simp[a],λi x hx=>?_⟩;cases i with
  |
   zero =>
   injection hx with hx;subst hx;refine⟨v,rfl,?_⟩
   split at hv
   ·rename_i hk;injection hv with hv;exact .inl ⟨hk,hv.symm⟩
   ·rename_i hk;obtain⟨q,hq,hv⟩:=Qd.1 hv;injection hv with hv;exact .inr ⟨by simpa using hk,q,hq,hv.symm⟩
  |succ i=>exact b i x (by simpa using hx)
theorem wT{p:Um}{a:Tm}{r:Option Tm}(hp:Cp p)(ha:Va a)(h:PX p a=some r):Uj 401 [pr p,.agg (ta a)] [.agg (ota r),.one (.bool r.isSome)]:=by
 obtain⟨l,l1,l2,l3,_⟩:=JO hp;unfold PX at h;rw[l1]at h;exact Qm8 (Dp.pb hp.dp) ha.tb l1 (by omega) (λt ht=>(l3 t ht).tb) h
theorem Qnb{T:Nat}{c:Cr}{r0 r1:Us}{ws:List Wt}(hc:CrOk c)(h:Oj c.now c.l=some ws):U7 prog 395 [.one (.ow 0 0)] [.blk T (Hm c r0 r1)] [] [.blk T (Hm { c with l:=ws } r0 r1)]:=by
 have hk:=hc.k;have hw:=Tr c.l;obtain⟨h1,h2⟩:=YE h;refine Fx func395 rfl ?_;refine Ud [.o 2 352 18,.c [0] (QF hc.n)] rfl ?_;refine Ui (S:=Nat) 3 (λL1 i=>(13,.v (.oi i))::(2,.v (.one (.orow 1 18 none)))::L1) (λi=>[.blk T (Hm c r0 r1),.row false 352 18 (Ce (ws.take i)),.blk 105 (ta c.now)]) (λi=>c.l.length-i) (λi=>i<=c.l.length) 0 (Qh _) rfl rfl λi hi=>?_
 by_cases hlt:i<c.l.length
 ·obtain⟨w,hx⟩:=gxE (l:=c.l) (i:=i) hlt;obtain⟨v,hv,h3⟩:=h2 i w hx;have hm:∀y∈[wl v],y.length=18:=λy hy=>by rw[Qk.1 hy];rfl
  have hg:=Ae hv;have hl:decide ((i:Int)<((Ce c.l).length:Int))=true:=by simp[hw];omega
  rcases h3 with⟨k1,rfl⟩|⟨k1,r,k2,rfl⟩
  ·obtain⟨vc,vk,vf⟩:=v;cases vf <;> (refine go tt [.t hl,.x (Ht hx),.f (by rw[show vk=true from k1];rfl),.s (sz:=18) hm] rfl (by simp[U4,Tr];omega) ?_;exact rd (i+1) (by omega) hlt (by rw[hg];rfl))
  ·have cg:=wT (hc.l w (Qc hx)).p hc.n k2;obtain⟨wc,wk,wf⟩:=w;cases r <;> cases wf <;> (refine go tt [.t hl,.x (Ht hx),.t (by rw[show wk=false from k1];rfl),.k cg,.s (sz:=18) hm] rfl (by simp[U4,Tr];omega) ?_;exact rd (i+1) (by omega) hlt (by rw[hg];rfl))
 ·obtain rfl:i=c.l.length:=by omega
  rw[<-h1,Q6];exact Uh [1] [0] [.f (by simp[hw,h1])] rfl
def IW(ws:List Wt):Option (Option Tm):=match ws.filterMap (·.fails)with
 | []=>some none
 |b::l=>(QI b l).map some
theorem Eu{c:Cr}{ws:List Wt}(hc:CrOk c)(h:Oj c.now c.l=some ws):CrOk { c with l:=ws }:=by
 obtain⟨h1,h2⟩:=YE h;refine⟨hc.n,λv hv=>?_,by show ws.length<=1000;rw[h1];exact hc.k⟩;obtain⟨i,hi⟩:=Xv hv;have hil:i<c.l.length:=by rw[<-h1];exact(Qf.1 hi).1
 obtain⟨v',h3,h4⟩:=h2 i _ (Qe hil);rw[hi]at h3;injection h3 with h3;subst h3;have hw:=hc.l _ (Xt hil);rcases h4 with⟨_,rfl⟩|⟨_,r,k2,rfl⟩
 ·exact hw
 ·obtain⟨r',r1,r2⟩:=Qjb hw.p hc.n;rw[k2]at r1;injection r1 with r1;subst r1;refine⟨hw.p,λt ht=>?_⟩;have ht:r=some t:=ht;subst ht;exact r2.2.1
theorem MW{T:Nat}{c:Cr}{r0 r1:Us}{ws:List Wt}{r:Option Tm}(hc:CrOk c)(h:Oj c.now c.l=some ws)(hr:IW ws=some r):U7 prog 392 [.one (.ow 0 0)] [.blk T (Hm c r0 r1)] [.agg (ota r),.one (.bool r.isSome)] [.blk T (Hm { c with l:=ws } r0 r1)]:=by
 have hcl:=Qnb (T:=T) (r0:=r0) (r1:=r1) hc h;have hc':=Eu hc h;have hk:=hc'.k;have hw:=Tr ws;have hvb:∀t∈ws.filterMap (·.fails),Tb t:=λt ht=>by
  obtain⟨w,w1,w2⟩:=Jj.1 ht;exact((hc'.l w w1).f t w2).tb
 refine Fx func392 rfl ?_;refine Ud [.c [0] hcl,.o 4 105 9] rfl ?_;refine Ui (S:=Nat) 3 (λL1 i=>(14,.v (.oi i))::(4,.v (.one (.orow 2 9 none)))::L1) (λi=>[.blk T (Hm { c with l:=ws } r0 r1),.blk 105 zTm,.row false 105 9 (tal ((ws.take i).filterMap (·.fails)))]) (λi=>ws.length-i) (λi=>i<=ws.length) 0 (Qh _) rfl rfl λi hi=>?_
 by_cases hlt:i<ws.length
 ·obtain⟨w,hx⟩:=gxE (l:=ws) (i:=i) hlt;have hl:decide ((i:Int)<((Ce ws).length:Int))=true:=by simp[hw];omega
  have hfl:((ws.take i).filterMap (·.fails)).length<=i:=Qa (Vd _ _) (by rw[Qp];omega);have hg:(ws.take (i+1)).filterMap (·.fails)=(ws.take i).filterMap (·.fails)++(match w.fails with|none=>[]|some t=>[t]):=by
   rw[Zv,hx,List.filterMap_append];show _++List.filterMap (·.fails) [w]=_;cases hwf:w.fails <;> simp[hwf]
  obtain⟨wc,wk,wf⟩:=w;have hk:ws.length<=1000:=hk;cases wf with
  |
   none =>
   refine Ue [.t hl,.x (Ht hx),.f rfl] rfl ?_;exact rd (i+1) (by omega) hlt (by rw[hg];simp;rfl)
  |
   some t =>
   refine Ue [.t hl,.x (Ht hx),.t rfl,.s (l:=[ta t]) (sz:=9) (λc hc=>by rw[Qk.1 hc];rfl)] rfl ?_;exact rd (i+1) (by omega) hlt (by rw[hg];simp[tal];rfl)
 ·obtain rfl:i=ws.length:=by omega
  rw[Q6];have hf:decide ((ws.length:Int)<((Ce ws).length:Int))=false:=by simp[hw]
  have hln:(ws.filterMap (·.fails)).length<=1000:=Qa (Vd _ _) hk;unfold IW at hr;cases hfm:ws.filterMap (·.fails)with
  |
   nil =>
   rw[hfm]at hr;injection hr with hr;subst hr;exact Uh [] [0] [.f hf,.p 2,.k wS] rfl
  |
   cons b l =>
   rw[hfm]at hr hvb hln;obtain⟨m,m1,rfl⟩:=Yx.1 hr;have cl:=Pe (hvb b (Qy ..)) (λt ht=>hvb t (Qg _ ht)) (by simp at hln;omega) m1;exact Uh [] [0] [.f hf,.p 2,.k cl] rfl
theorem LU{at_:Tm}{x:Ct}:∀{l:List Wt} {w:Wt},Cu l x at_=some w->w=fresh x\/∃v∈l,v.known=true/\v.c.p=x.p/\w=⟨x,true,v.fails⟩/\∀t,v.fails=some t->∃c,UM t at_=some c/\0<c
 | [],w,h=>by simp only[Cu]at h;injection h with h;exact .inl h.symm
 |
  v::l,w,h=>by
  simp only[Cu]at h;have tl:Cu l x at_=some w->w=fresh x\/∃v'∈v::l,v'.known=true/\v'.c.p=x.p/\w=⟨x,true,v'.fails⟩/\∀t,v'.fails=some t->∃c,UM t at_=some c/\0<c:=λh=>by
   rcases LU h with h|⟨v',h1,h2⟩
   ·exact .inl h
   ·exact .inr ⟨v',Qg _ h1,h2⟩
  split at h
  ·rename_i hk;cases hf:v.fails with
   |
    none =>
    rw[hf]at h;injection h with h;exact .inr ⟨v,Qy ..,hk.2.1,hk.2.2,by rw[hf];exact h.symm,λt ht=>by rw[hf]at ht;cases ht⟩
   |
    some t =>
    rw[hf]at h;obtain⟨c,c1,h⟩:=Qd.1 h
    split at h
    ·rename_i h0;injection h with h;exact .inr ⟨v,Qy ..,hk.2.1,hk.2.2,by rw[hf];exact h.symm,λu hu=>by rw[hf]at hu;injection hu with hu;subst hu;exact⟨c,c1,h0⟩⟩
    ·exact tl h
  ·exact tl h
theorem lay_ok{c:Cr}{at_:Tm}{l:List Ct}{ws:List Wt}(ev:Int)(hc:CrOk c)(ha:Va at_)(hl:∀x∈l,Cp x.p)(hn:l.length≤1000)(h:Tn c.l at_ (Fp l)=some ws):CrOk ⟨at_,ws,ev⟩:=by
 obtain⟨h1,h2⟩:=XE h;refine⟨ha,λw hw=>?_,by show ws.length<=1000;rw[h1,M4];exact hn⟩;obtain⟨i,hi⟩:=Xv hw;have hil:i<(Fp l).length:=by rw[<-h1];exact(Qf.1 hi).1
 obtain⟨v,h3,h4⟩:=h2 i _ (Qe hil);rw[hi]at h4;injection h4 with h4;subst h4;have hx:=hl _ (Td (Xt hil));rcases LU h3 with e|⟨v,v1,_,v3,e,_⟩
 ·rw[e];exact⟨hx,λt ht=>by cases ht⟩
 ·rw[e];exact⟨hx,λt ht=>(hc.l v v1).f t ht⟩
def HW{β:Type}(Bc:Tm->List Ct)(Br:Tm->β)(t:Rat):Nat->Cr->β->Int->Option (Cr×β×Int)
 | 0,_,_,_=>none
 |
  k+1,c,r,n=>(Oj c.now c.l).bind λws=>(IW ws).bind λo=>match o with
  |none=>some (⟨tq t,ws,c.ev⟩,r,n)
  |some a=>if 0<Ft a t then some (⟨tq t,ws,c.ev⟩,r,n)else(Tn ws a (Fp (Bc a))).bind λw2=>HW Bc Br t k ⟨a,w2,c.ev+1⟩ (Br a) (n+1)
theorem Qjf{ws:List Wt}{a:Tm}(h:IW ws=some (some a))(hv:∀t∈ws.filterMap (·.fails),Va t):a∈ws.filterMap (·.fails)/\∀t∈ws.filterMap (·.fails),¬Bh t a:=by
 unfold IW at h;cases hf:ws.filterMap (·.fails)with
 |nil=>rw[hf]at h;injection h with h;cases h
 |
  cons b l =>
  rw[hf]at h hv;obtain⟨m,m1,m2⟩:=Yx.1 h;injection m2 with m2;subst m2;obtain⟨m',n1,n2,n3⟩:=RA l b hv;rw[m1]at n1;injection n1 with n1;subst n1;exact⟨n2,n3⟩
theorem LD{c:Cr}{ws:List Wt}{a:Tm}(hc:CrOk c)(h:Oj c.now c.l=some ws)(hr:IW ws=some (some a)):Va a:=by
 have hc':=Eu hc h;have hv:∀t∈ws.filterMap (·.fails),Va t:=λt ht=>by
  obtain⟨w,w1,w2⟩:=Jj.1 ht;exact(hc'.l w w1).f t w2
 exact hv a (Qjf hr hv).1
structure BuildOk(Bc:Tm->List Ct):Prop where
 p:∀a,Va a->∀x∈Bc a,Cp x.p
 n:∀a,Va a->(Bc a).length<=1000
theorem Qx2{T:Nat}{t:Rat}{Bc:Tm->List Ct}{Br:Tm->Us}{r0:Us}(ht:Qs 1640000 t)(hB:BuildOk Bc)
 (hb:∀a c r1,Va a->CrOk c->U7 prog 195 [.one (.ow 0 0),.agg (ta a)] [.blk T (Hm c r0 r1)] [.one (.row (U9 (Bc a)))] [.blk T (Hm c r0 (Br a))])
 {K:Nat} {c c':Cr} {r1 r1':Us} {n:Int} (hc:CrOk c) (hev:0<=c.ev/\c.ev+K<=1000000000000000000) (h:Ft c.now t<=0) (hg:HW Bc Br t K c r1 0=some (c',r1',n)) :
 U7 prog 396 [.one (.ow 0 0),.agg (rl t),.one (.ofn 195 [.ow 0 0] [])] [.blk T (Hm c r0 r1)] [.oi n,.oi 0] [.blk T (Hm c' r0 r1')]:=by
 have qt:Qb t:=ht.mono (by decide);have c1:=Dn hc.n.tb qt;refine Fx func396 rfl ?_;refine Ud [.c [0] (QF hc.n),.k c1,.f (by simpa using h)] rfl ?_;refine Ui (S:=Nat×Cr×Us×Int) 2 (λL1 s=>(8,.v (.oi s.2.2.2))::L1) (λs=>[.blk T (Hm s.2.1 r0 s.2.2.1),.blk 42 (rl t)]) (λs=>s.1) (λs=>CrOk s.2.1/\(0<=s.2.1.ev/\s.2.1.ev+s.1<=1000000000000000000)/\(0<=s.2.2.2/\s.2.2.2+s.1<=1000000000000000000)/\HW Bc Br t s.1 s.2.1 s.2.2.1 s.2.2.2=some (c',r1',n)) (K,c,r1,0) ⟨hc,hev,⟨Int.le_refl 0,by dsimp only;omega⟩,hg⟩ rfl rfl λ⟨k,x,r,m⟩ ⟨j1,j2,j3,j4⟩=>?_
 dsimp only at j1 j2 j3 j4 ⊢;cases k with
 |zero=>cases j4
 |
  succ k =>
  simp only[HW]at j4;obtain⟨ws,w1,j4⟩:=Qd.1 j4;obtain⟨o,o1,j4⟩:=Qd.1 j4;have cn:=MW (T:=T) (r0:=r0) (r1:=r) j1 w1 o1;have ca:=VO (U5 t.num) (U5 (t.den:Int)) (Qa ht.1 (by decide)) (Qa ht.2 (by decide)) (by rw[Se];exact ht.mono (by decide));rw[Se]at ca;cases o with
  |
   none =>
   injection j4 with j4;injection j4 with e1 j4;injection j4 with e2 e3;subst e1;subst e2;subst e3;exact Uh [] [0] [.c [0] cn,.g 25 true rfl,.t rfl,.k ca] rfl
  |
   some a =>
   have ha:=LD j1 w1 o1;dsimp only at j4;have cc:=Dn ha.tb qt;by_cases h0:0<Ft a t
   ·rw[if_pos h0]at j4;injection j4 with j4;injection j4 with e1 j4;injection j4 with e2 e3;subst e1;subst e2;subst e3;exact Uh [] [0] [.c [0] cn,.g 25 false rfl,.k cc,.t (by simpa using h0),.k ca] rfl
   ·rw[if_neg h0]at j4;obtain⟨w2,l1,j4⟩:=Qd.1 j4;have j1':=Eu j1 w1;have cl:=Pe (b:=a) (l:=[]) ha.tb (λt ht=>by cases ht) (by decide) rfl;have cb:=hb a { x with l:=ws } r ha j1';have cy:=UU (T:=T) (r0:=r0) (r1:=Br a) j1' ha (hB.p a ha) (hB.n a ha) l1;have hf:decide (0<Ft a t)=false:=by simpa using h0
    refine Ue [.c [0] cn,.g 25 false rfl,.k cc,.f hf,.k cl,.c [0] cb,.c [0] cy] rfl ?_;exact rd (k,⟨a,w2,x.ev+1⟩,Br a,m+1) (by dsimp only;omega) ⟨lay_ok _ j1' ha (hB.p a ha) (hB.n a ha) l1,by dsimp only;omega,by dsimp only;omega,j4⟩ rfl
theorem YW{T:Nat}{c:Cr}{r0 r1:Us}:U7 prog 391 [.one (.ow 0 0)] [.blk T (Hm c r0 r1)] [.oi c.ev] [.blk T (Hm c r0 r1)]:=by
 refine Fx func391 rfl ?_;exact Uh [] [0] [] rfl
end Orr
namespace Orq
open Orr Go
theorem Qyy{a b c:Tm}(hb:Cut (Ft b))(hc:Cut (Ft c))(h:Bh a b)(h':Bh b c):Bh a c:=by
 obtain⟨q,q1,q2⟩:=h;obtain⟨r,r1,r2⟩:=h';exact⟨q,q1,hc.mono' (hb.lt q2 r1) (by omega)⟩
theorem TQ{a b:Tm}(ha:Cut (Ft a))(hb:Cut (Ft b))(h:¬Bh b a):Leq a (Ft b):=λq hq=>by
 rcases ha.val q with e|e|e
 ·exact absurd ⟨q,hq,e⟩ h
 ·obtain⟨r,r1,r2⟩:=hb.dn q hq;exact absurd ⟨r,r2,ha.mono' r1 (by omega)⟩ h
 ·exact e
theorem iY{a b c:Tm}(_:Cut (Ft a))(hb:Cut (Ft b))(hc:Cut (Ft c))(h:Bh a b)(h':¬Bh c b):Bh a c:=by
 obtain⟨q,q1,q2⟩:=h;refine⟨q,q1,?_⟩;have hl:=TQ hb hc h';rcases hc.val q with e|e|e
 ·exact e
 ·obtain⟨r,r1,r2⟩:=hb.up q q2;have h1:=hc.mono q r r1 (by omega);have:=hl r h1;omega
 ·have:=hl q e;omega
theorem yR{a b:Tm}(ha:Cut (Ft a))(hb:Cut (Ft b))(h:Bh a b):¬Bh b a:=λh'=>I0 ha hb h h'
theorem Ot{p:Um}{a b:Tm}{o:Option Tm}(ha:Cut (Ft a))(hb:Cut (Ft b))(hab:¬Bh b a)(h:M6 p a o)(ho:∀t,o=some t->Bh b t):M6 p b o:=by
 have hl:=TQ ha hb hab;cases o with
 |
  none =>
  rcases h with h|⟨s,s0,h⟩
  ·exact .inl h
  ·exact .inr ⟨s,s0,λc hc hbc=>h c hc λq hq=>hl q (hbc q hq)⟩
 |
  some t =>
  obtain⟨h1,h2,_,s,s0,h4,h5⟩:=h;exact⟨h1,h2,ho t rfl,s,s0,λc hc hbc hm=>h4 c hc (λq hq=>hl q (hbc q hq)) hm,h5⟩
theorem qY{p:Um}{a b:Tm}{o:Option Tm}(hp:Dp p)(ha:Va a)(hb:Va b)(hab:¬Bh b a)(h:M6 p a o)(ho:∀t,o=some t->Bh b t):Hk (Fw b) p=Hk (Fw a) p:=by
 by_cases h0:p.length=0
 ·obtain rfl:=Qj h0;rfl
 obtain⟨ra,_⟩:=Er ha hp h0;obtain⟨rb,_⟩:=Er hb hp h0;have hl:=TQ ha.cut hb.cut hab;cases o with
 |
  none =>
  rcases h with h|⟨s,s0,h⟩
  ·exact absurd (by rw[h];rfl) h0
  ·exact(GR rb (h _ hb.cut hl)).trans (GR ra (h _ ha.cut λ_ h=>h)).symm
 |
  some t =>
  obtain⟨h1,h2,h3,s,s0,h4,h5⟩:=h;exact(GR rb (h4 _ hb.cut hl (ho t rfl))).trans (GR ra (h4 _ ha.cut (λ_ h=>h) h3)).symm
theorem Qap(t q:Rat):Ft (tq t) q=Hf t q:=Ig (t:=tq t) rfl q
theorem CG{a:Tm}{t:Rat}(ha:Cut (Ft a)):0<Ft a t↔Bh (tq t) a:=by
 constructor
 ·intro h;have h1:Ft a t=1:=by rcases ha.val t with e|e|e <;> omega
  obtain⟨r,r1,r2⟩:=ha.up t h1;exact⟨r,by rw[Qap];rcases Ng t r with⟨e,e'⟩|⟨e,e'⟩|⟨e,e'⟩ <;> first|exact e|(exfalso;grind),r2⟩
 ·rintro⟨q,q1,q2⟩
  rw[Qap]at q1;have:t<q:=by rcases Ng t q with⟨e,e'⟩|⟨e,e'⟩|⟨e,e'⟩ <;> first|exact e'|omega
  have:=ha.mono' this (by omega);omega
open Classical in
noncomputable def mu(T:List Tm)(a:Tm):Nat:=(T.filter λt=>decide (Bh a t)).length
theorem OM{α:Type}{p q:α->Bool}(h:∀x,p x=true->q x=true):∀l:List α,(l.filter p).length<=(l.filter q).length
 | []=>Ql _
 |
  x::l=>by
  have ih:=OM h l;by_cases hp:p x=true
  ·rw[X6 hp,X6 (h x hp)];simp;exact ih
  ·rw[Jy hp];by_cases hq:q x=true
   ·rw[X6 hq];simp;omega
   ·rw[Jy hq];exact ih
theorem ON{α:Type}{p q:α->Bool}(h:∀x,p x=true->q x=true){y:α}(hp:p y=false)(hq:q y=true):∀{l:List α},y∈l->(l.filter p).length<(l.filter q).length
 | [],hy=>by cases hy
 |
  x::l,hy=>by
  rcases Qn.1 hy with rfl|hy
  ·rw[Jy (by simp[hp]),X6 hq];have:=OM h l;simp;omega
  ·have ih:=ON h hp hq hy;by_cases hp:p x=true
   ·rw[X6 hp,X6 (h x hp)];simp;exact ih
   ·rw[Jy hp];by_cases hq:q x=true
    ·rw[X6 hq];simp;omega
    ·rw[Jy hq];exact ih
open Classical in
theorem Qss{T:List Tm}{a b:Tm}(ha:Cut (Ft a))(hb:Cut (Ft b))(hT:∀t∈T,Cut (Ft t))(h:Bh a b)(hm:b∈T):mu T b<mu T a:=by
 have key:∀l:List Tm,(∀t∈l,Cut (Ft t))->l.filter (λt=>decide (Bh b t))=l.filter (λt=>decide (Cut (Ft t)/\Bh b t)):=λl hl=>List.filter_congr λx hx=>by simp[hl x hx]
 have key2:∀l:List Tm,(∀t∈l,Cut (Ft t))->l.filter (λt=>decide (Bh a t))=l.filter (λt=>decide (Cut (Ft t)/\Bh a t)):=λl hl=>List.filter_congr λx hx=>by simp[hl x hx]
 unfold mu;rw[key T hT,key2 T hT];refine ON (λx hx=>?_) (y:=b) ?_ ?_ hm
 ·have hx:=of_decide_eq_true hx;exact decide_eq_true ⟨hx.1,Qyy hb hx.1 h hx.2⟩
 ·exact decide_eq_false λhx=>I0 hb hb hx.2 hx.2
 ·exact decide_eq_true ⟨hb,h⟩
def xJ(p:Um):List Tm:=(WI p).getD []
structure KInv(c:Cr):Prop where
 ok:CrOk c
 k:∀w∈c.l,w.known=true->M6 w.c.p c.now w.fails/\∀t,w.fails=some t->t∈xJ w.c.p
theorem LC{p:Um}(h:Cp p){a:Tm}(ha:Va a):∃r,PX p a=some r/\M6 p a r/\∀t,r=some t->t∈xJ p:=by
 obtain⟨l,l1,_,_,l3⟩:=JO h;obtain⟨r,r1,r2,r3⟩:=l3 a ha;refine⟨r,?_,r2,λt ht=>by unfold xJ;rw[l1];exact r3 t ht⟩;unfold PX;rw[l1];exact r1
theorem Qwz{p:Um}(h:Cp p):∀t∈xJ p,Va t:=by
 obtain⟨l,l1,_,l2,_⟩:=JO h;unfold xJ;rw[l1];exact l2
theorem iU{now:Tm}(hn:Va now):∀{l:List Wt},(∀w∈l,WtOk w)->(∀w∈l,w.known=true->M6 w.c.p now w.fails/\∀t,w.fails=some t->t∈xJ w.c.p) ->
 ∃ws,Oj now l=some ws/\ws.map (·.c)=l.map (·.c)/\∀w∈ws,w.known=true/\M6 w.c.p now w.fails/\∀t,w.fails=some t->t∈xJ w.c.p
 | [],_,_=>⟨[],rfl,rfl,λw hw=>by cases hw⟩
 |
  w::l,h,h'=>by
  obtain⟨ws,w1,w2,w3⟩:=iU hn (λv hv=>h v (Qg _ hv)) (λv hv=>h' v (Qg _ hv));by_cases hk:w.known=true
  ·refine⟨w::ws,by simp only[Oj,hk,if_true,w1];rfl,by simp[w2],λv hv=>?_⟩;rcases Qn.1 hv with rfl|hv
   ·exact⟨hk,h' v (by simp) hk⟩
   ·exact w3 v hv
  ·obtain⟨r,r1,r2,r3⟩:=LC (h w (by simp)).p hn;refine⟨⟨w.c,true,r⟩::ws,by simp only[Oj];rw[if_neg hk,r1,w1];rfl,by simp[w2],λv hv=>?_⟩;rcases Qn.1 hv with rfl|hv
   ·exact⟨rfl,r2,r3⟩
   ·exact w3 v hv
theorem aI{at_:Tm}(ha:Va at_){x:Ct}:∀{l:List Wt},(∀w∈l,WtOk w)->∃w,Cu l x at_=some w/\w.c=x
 | [],_=>⟨fresh x,rfl,rfl⟩
 |
  v::l,h=>by
  obtain⟨w,w1,w2⟩:=aI ha (x:=x) λv hv=>h v (Qg _ hv)
  simp only[Cu]
  split
  ·cases hf:v.fails with
   |none=>exact⟨_,rfl,rfl⟩
   |
    some t =>
    obtain⟨c,c1,_⟩:=UN ((h v (by simp)).f t hf) ha;dsimp only;rw[c1];show ∃w,(if 0<c then some ⟨x,true,some t⟩else Cu l x at_)=some w/\w.c=x
    split
    ·exact⟨_,rfl,rfl⟩
    ·exact⟨w,w1,w2⟩
  ·exact⟨w,w1,w2⟩
theorem nI{at_:Tm}(ha:Va at_){ol:List Wt}(ho:∀w∈ol,WtOk w):∀l:List Ct,∃ws,Tn ol at_ l=some ws/\ws.map (·.c)=l
 | []=>⟨[],rfl,rfl⟩
 |
  x::l=>by
  obtain⟨w,w1,w2⟩:=aI ha (x:=x) ho;obtain⟨ws,s1,s2⟩:=nI ha ho l;exact⟨w::ws,by simp only[Tn,w1,s1];rfl,by simp[w2,s2]⟩
theorem Qco{out:List Ct}{c x:Ct}:x∈WZ out c↔x=c\/x∈out:=by
 have h:x∈out↔x∈out.take (JR out c out.length)\/x∈out.drop (JR out c out.length):=by
  rw[<-Qq,Zh]
 simp only[WZ,Qq,Qn,h];constructor
 ·rintro (h|h|h)
  ·exact .inr (.inl h)
  ·exact .inl h
  ·exact .inr (.inr h)
 ·rintro (h|h|h)
  ·exact .inr (.inl h)
  ·exact .inl h
  ·exact .inr (.inr h)
theorem OE:∀(l acc:List Ct) {y:Ct},y∈l.foldl WZ acc↔y∈l\/y∈acc
 | [],acc,y=>by simp
 |
  c::l,acc,y=>by
  simp only[Z9];rw[OE l,Qco,Qn];constructor
  ·rintro (h|h|h)
   ·exact .inl (.inr h)
   ·exact .inl (.inl h)
   ·exact .inr h
  ·rintro ((h|h)|h)
   ·exact .inr (.inl h)
   ·exact .inl h
   ·exact .inr (.inr h)
theorem zI{l:List Ct}{x:Ct}:x∈Fp l↔x∈l:=by unfold Fp;rw[OE];simp
theorem Qv3{ws:List Wt}(hw:∀w∈ws,WtOk w):∃o,IW ws=some o/\match o with
 |none=>∀w∈ws,w.fails=none
 |some a=>Va a/\(∃w∈ws,w.fails=some a)/\∀w∈ws,∀t,w.fails=some t->¬Bh t a:=by
 have hv:∀t∈ws.filterMap (·.fails),Va t:=λt ht=>by
  obtain⟨w,w1,w2⟩:=Jj.1 ht;exact(hw w w1).f t w2
 unfold IW;cases hf:ws.filterMap (·.fails)with
 |
  nil =>
  refine⟨none,rfl,λw h=>?_⟩;cases e:w.fails with
  |none=>rfl
  |
   some t =>
   have:t∈ws.filterMap (·.fails):=Jj.2 ⟨w,h,e⟩;rw[hf]at this;cases this
 |
  cons b l =>
  rw[hf]at hv;obtain⟨m,m1,m2,m3⟩:=RA l b hv;refine⟨some m,by show(QI b l).map some=_;rw[m1];rfl,hv m m2,?_,λw h t e=>?_⟩
  ·rw[<-hf]at m2;exact Jj.1 m2
  ·exact m3 t (by rw[<-hf];exact Jj.2 ⟨w,h,e⟩)
theorem Qum{t a:Tm}(ht:Va t)(ha:Va a){c:Int}(h:UM t a=some c)(h0:0<c):Bh a t:=by
 obtain⟨c',c1,c2⟩:=UN ht ha;rw[h]at c1;injection c1 with c1;subst c1;rcases c2 with⟨e,_⟩|⟨e,_⟩|⟨_,e⟩
 ·omega
 ·omega
 ·exact e
theorem iZ{ol ws:List Wt}{now a:Tm}{l:List Ct}(hn:Va now)(ha:Va a)(hna:¬Bh a now)(ho:∀w∈ol,WtOk w)(hk:∀w∈ol,w.known=true->M6 w.c.p now w.fails/\∀t,w.fails=some t->t∈xJ w.c.p)(h:Tn ol a l=some ws) :
 ∀w∈ws,w.known=true->M6 w.c.p a w.fails/\∀t,w.fails=some t->t∈xJ w.c.p:=by
 obtain⟨h1,h2⟩:=XE h;intro w hw hkn;obtain⟨i,hi⟩:=Xv hw;have hil:i<l.length:=by rw[<-h1];exact(Qf.1 hi).1
 obtain⟨v,h3,h4⟩:=h2 i _ (Qe hil);rw[hi]at h4;injection h4 with h4;subst h4;rcases LU h3 with e|⟨v,v1,v2,v3,e,v5⟩
 ·rw[e]at hkn;cases hkn
 ·obtain⟨k1,k2⟩:=hk v v1 v2;rw[e];show M6 (l[i]).p a v.fails/\∀t,v.fails=some t->t∈xJ (l[i]).p;rw[<-v3];refine⟨Ot hn.cut ha.cut hna k1 λt ht=>?_,k2⟩;obtain⟨c,c1,c2⟩:=v5 t ht;exact Qum ((ho v v1).f t ht) ha c1 c2
structure Stab{β:Type}(Bc:Tm->List Ct)(Br:Tm->β):Prop where
 ok:BuildOk Bc
 fin:∃Ps:List (List Int),(∀p∈Ps,Cp p)/\∀a,Va a->∀x∈Bc a,x.p∈Ps
 st:∀a b,Va a->Va b->(∀x∈Bc a,Hk (Fw b) x.p=Hk (Fw a) x.p)->Bc b=Bc a/\Br b=Br a
structure KSt{β:Type}(Bc:Tm->List Ct)(Br:Tm->β)(c:Cr)(r1:β):Prop where
 inv:KInv c
 cs:c.l.map (·.c)=Fp (Bc c.now)
 r:r1=Br c.now
inductive Evs (Bc:Tm->List Ct) (t:Rat):Tm->List Tm->Prop
 |nil {a:Tm} (h:∀x∈Bc a,∃o,M6 x.p a o/\∀u,o=some u->Bh (tq t) u):Evs Bc t a []
 |cons {a e:Tm} {E:List Tm} (he:Va e) (h1:Bh a e) (h2:¬Bh (tq t) e) (h3:∀x∈Bc a,∃o,M6 x.p a o/\∀u,o=some u->¬Bh u e) (h4:∃x∈Bc a,M6 x.p a (some e)) (h5:Evs Bc t e E):Evs Bc t a (e::E)
theorem Qyn{β:Type}{Bc:Tm->List Ct}{Br:Tm->β}(S:Stab Bc Br){t:Rat}(ht:Qs 1640000 t){Ps:Un}(hP:∀p∈Ps,Cp p)(hPs:∀a,Va a->∀x∈Bc a,x.p∈Ps) :
 ∀(m:Nat) (c:Cr) (r1:β) (n:Int),mu (Ps.flatMap xJ) c.now<=m->KSt Bc Br c r1->¬Bh (tq t) c.now ->
 ∃c' r' E,HW Bc Br t (m+1) c r1 n=some (c',r',n+(E.length:Nat))/\c'.now=tq t/\KSt Bc Br c' r'/\c'.ev=c.ev+(E.length:Nat)/\E.length<=m/\Evs Bc t c.now E:=by
 have hT:∀t∈Ps.flatMap xJ,Cut (Ft t):=λu hu=>by
  obtain⟨p,p1,p2⟩:=Zo.1 hu;exact(Qwz (hP p p1) u p2).cut
 have hq:=IG ht;intro m
 induction m with
 |zero=>?_
 |succ m ih=>?_
 all_goals
  intro c r1 n hm hS hnow;obtain⟨⟨ok,kk⟩,hcs,hr⟩:=hS;obtain⟨ws,w1,w2,w3⟩:=iU ok.n ok.l kk;have ok':=Eu ok w1;rw[hcs]at w2;have hc_w:∀x∈Bc c.now,∃w∈ws,w.c=x:=λx hx=>by
   have:x∈ws.map (·.c):=by rw[w2];exact zI.2 hx
   exact Za.1 this
  have hw_c:∀w∈ws,w.c∈Bc c.now:=λw hw=>zI.1 (by rw[<-w2];exact Wi hw)
  obtain⟨o,o1,o2⟩:=Qv3 ok'.l;have fin:(∀w∈ws,∀u,w.fails=some u->Bh (tq t) u)->KSt Bc Br ⟨tq t,ws,c.ev⟩ r1/\Evs Bc t c.now []:=λhall=>by
   have hg:∀x∈Bc c.now,Hk (Fw (tq t)) x.p=Hk (Fw c.now) x.p:=λx hx=>by
    obtain⟨w,hw,rfl⟩:=hc_w x hx;exact qY (S.ok.p _ ok.n _ hx).dp ok.n hq hnow (w3 w hw).2.1 (hall w hw)
   obtain⟨s1,s2⟩:=S.st _ _ ok.n hq hg;refine⟨⟨⟨⟨hq,ok'.l,ok'.k⟩,λw hw _=>⟨Ot ok.n.cut hq.cut hnow (w3 w hw).2.1 (hall w hw),(w3 w hw).2.2⟩⟩,?_,?_⟩,.nil λx hx=>?_⟩
   ·show ws.map (·.c)=Fp (Bc (tq t));rw[w2,s1]
   ·show r1=Br (tq t);rw[s2,hr]
   ·obtain⟨w,hw,rfl⟩:=hc_w x hx;exact⟨_,(w3 w hw).2.1,hall w hw⟩
 ·cases o with
  |
   none =>
   obtain⟨f1,f2⟩:=fin λw hw u hu=>by rw[o2 w hw]at hu;cases hu
   exact⟨_,_,[],by simp only[HW];rw[w1];simp only[Jd];rw[o1];simp,rfl,f1,by simp,by simp,f2⟩
  |
   some a =>
   obtain⟨va,⟨w,hw,hwa⟩,hmin⟩:=o2;by_cases h0:0<Ft a t
   ·obtain⟨f1,f2⟩:=fin λv hv u hu=>by
     have hu':=(ok'.l v hv).f u hu;exact iY hq.cut va.cut hu'.cut ((CG va.cut).1 h0) (hmin v hv u hu)
    exact⟨_,_,[],by simp only[HW];rw[w1];simp only[Jd];rw[o1];simp[h0],rfl,f1,by simp,by simp,f2⟩
   ·exfalso;obtain⟨k1,k2,k3⟩:=w3 w hw;rw[hwa]at k2;have:a∈Ps.flatMap xJ:=Zo.2 ⟨_,hPs _ ok.n _ (hw_c w hw),k3 a hwa⟩;have:=Qss ok.n.cut va.cut hT k2.2.2.1 this;omega
 ·cases o with
  |
   none =>
   obtain⟨f1,f2⟩:=fin λw hw u hu=>by rw[o2 w hw]at hu;cases hu
   exact⟨_,_,[],by simp only[HW];rw[w1];simp only[Jd];rw[o1];simp,rfl,f1,by simp,by simp,f2⟩
  |
   some a =>
   obtain⟨va,⟨w,hw,hwa⟩,hmin⟩:=o2;by_cases h0:0<Ft a t
   ·obtain⟨f1,f2⟩:=fin λv hv u hu=>by
     have hu':=(ok'.l v hv).f u hu;exact iY hq.cut va.cut hu'.cut ((CG va.cut).1 h0) (hmin v hv u hu)
    exact⟨_,_,[],by simp only[HW];rw[w1];simp only[Jd];rw[o1];simp[h0],rfl,f1,by simp,by simp,f2⟩
   ·obtain⟨k1,k2,k3⟩:=w3 w hw;rw[hwa]at k2;have hna:=yR ok.n.cut va.cut k2.2.2.1;have hmem:a∈Ps.flatMap xJ:=Zo.2 ⟨_,hPs _ ok.n _ (hw_c w hw),k3 a hwa⟩;have hlt:=Qss ok.n.cut va.cut hT k2.2.2.1 hmem;obtain⟨w2',l1,l2⟩:=nI va ok'.l (Fp (Bc a));have hl:=iZ ok.n va hna ok'.l (λv hv _=>(w3 v hv).2) l1;have hS':KSt Bc Br ⟨a,w2',c.ev+1⟩ (Br a):=⟨⟨Orr.lay_ok _ ok' va (S.ok.p a va) (S.ok.n a va) l1,hl⟩,l2,rfl⟩;obtain⟨c',r',E,g1,g2,g3,g4,g5,g6⟩:=ih ⟨a,w2',c.ev+1⟩ (Br a) (n+1) (by show mu _ a<=m;omega) hS' (λh=>h0 ((CG va.cut).2 h));refine⟨c',r',a::E,?_,g2,g3,by rw[g4];simp;omega,by simp;omega,.cons va k2.2.2.1 (λh=>h0 ((CG va.cut).2 h)) (λx hx=>?_) ⟨w.c,hw_c w hw,k2⟩ g6⟩
    ·conv=>lhs;unfold HW
     rw[w1];simp only[Jd];rw[o1];simp only[Jd];rw[if_neg h0,l1];simp only[Jd];rw[g1];simp;omega
    ·obtain⟨v,hv,rfl⟩:=hc_w x hx;exact⟨_,(w3 v hv).2.1,hmin v hv⟩
end Orq
namespace Orq
open Orr Go
theorem Qll{a b:Tm}(ha:Cut (Ft a))(hb:Cut (Ft b))(h:¬Bh a b)(h':¬Bh b a):∀q,Ft a q=Ft b q:=by
 rcases tri ha hb with h1|h1|h1
 ·exact absurd h1 h
 ·exact h1
 ·exact absurd h1 h'
theorem Qal{a b b':Tm}(h:∀q,Ft b q=Ft b' q):Bh a b↔Bh a b':=by
 unfold Bh;simp only[h]
theorem sH{a b b':Tm}(h:∀q,Ft b q=Ft b' q):Bh b a↔Bh b' a:=by
 unfold Bh;simp only[h]
theorem TY{p:Um}{a:Tm}(ha:Va a){t t':Tm}(h:M6 p a (some t))(h':M6 p a (some t')):∀q,Ft t q=Ft t' q:=by
 obtain⟨_,v,l,s,s0,h4,h5⟩:=h;obtain⟨_,v',l',s',s0',h4',h5'⟩:=h';have es:s=s':=GR (h4 _ ha.cut (λ_ h=>h) l) (h4' _ ha.cut (λ_ h=>h) l');refine Qll v.cut v'.cut (λhlt=>?_) λhlt=>?_
 ·have:=GR (h4' _ v.cut (TQ ha.cut v.cut (yR ha.cut v.cut l)) hlt) h5;omega
 ·have:=GR (h4 _ v'.cut (TQ ha.cut v'.cut (yR ha.cut v'.cut l')) hlt) h5';omega
theorem Ln{p:Um}{a:Tm}(ha:Va a){t:Tm}(h:M6 p a (some t))(h':M6 p a none):False:=by
 obtain⟨h1,v,l,s,s0,h4,h5⟩:=h;rcases h' with h'|⟨s',s0',h'⟩
 ·exact h1 h'
 ·have e1:=GR (h' _ ha.cut λ_ h=>h) (h4 _ ha.cut (λ_ h=>h) l);have e2:=GR (h' _ v.cut (TQ ha.cut v.cut (yR ha.cut v.cut l))) h5;omega
structure Quiet{β:Type}(Bc:Tm->List Ct)(Br:Tm->β)(a b:Tm):Prop where
 va:Va a
 vb:Va b
 le:¬Bh b a
 n:∀x∈Bc a,∃o,M6 x.p a o/\∀u,o=some u->Bh b u
section
variable{β:Type}{Bc:Tm->List Ct}{Br:Tm->β}(S:Stab Bc Br)
include S
theorem Quiet.same{a b:Tm}(h:Quiet Bc Br a b):Bc b=Bc a/\Br b=Br a:=by
 refine S.st a b h.va h.vb λx hx=>?_
 obtain⟨o,o1,o2⟩:=h.n x hx;exact qY (S.ok.p _ h.va _ hx).dp h.va h.vb h.le o1 o2
theorem xX{a b:Tm}(ha:Va a)(hb:Va b)(h:∀q,Ft a q=Ft b q):Quiet Bc Br a b:=by
 refine⟨ha,hb,λh'=>I0 hb.cut hb.cut ((Qal h).1 h') ((Qal h).1 h'),λx hx=>?_⟩;obtain⟨r,_,r2,_⟩:=LC (S.ok.p _ ha _ hx) ha;refine⟨r,r2,λu hu=>?_⟩;subst hu;obtain⟨q,q1,q2⟩:=r2.2.2.1;exact⟨q,by rw[<-h];exact q1,q2⟩
theorem Qcf{t:Rat}{a:Tm}{E:List Tm}(hE:Evs Bc t a E):∀{b:Tm} {E':List Tm},Quiet Bc Br a b->Evs Bc t b E'->E.length=E'.length:=by
 induction hE with
 |
  @nil a h =>
  intro b E' hq hE';have hs:=(Quiet.same S hq).1;cases hE' with
  |nil _=>rfl
  |
   cons he h1 h2 h3 h4 h5 =>
   exfalso;obtain⟨x,hx,hx2⟩:=h4;rw[hs]at hx;obtain⟨o,o1,o2⟩:=h x hx;obtain⟨o',o1',o2'⟩:=hq.n x hx;cases o with
   |
    none =>
    cases o' with
    |none=>exact Ln hq.vb hx2 (Ot hq.va.cut hq.vb.cut hq.le o1' o2')
    |some u=>exact Ln hq.va o1' o1
   |
    some u =>
    cases o' with
    |none=>exact Ln hq.va o1 o1'
    |
     some u' =>
     have e1:=TY hq.va o1 o1';have e2:=TY hq.vb (Ot hq.va.cut hq.vb.cut hq.le o1' o2') hx2;obtain⟨q,q1,q2⟩:=o2 u rfl;exact h2 ⟨q,q1,by rw[<-e2,<-e1];exact q2⟩
 |
  @cons a e E he h1 h2 h3 h4 h5 ih =>
  intro b E' hq hE';have hs:=(Quiet.same S hq).1;have nx:∀x∈Bc a,∀u,M6 x.p a (some u)->Bh b u/\M6 x.p b (some u):=λx hx u hu=>by
   obtain⟨o',o1',o2'⟩:=hq.n x hx;cases o' with
   |none=>exact(Ln hq.va hu o1').elim
   |
    some u' =>
    have e1:=TY hq.va o1' hu;have hb':=o2' u' rfl;have hb2:Bh b u:=by obtain⟨q,q1,q2⟩:=hb';exact⟨q,q1,by rw[<-e1];exact q2⟩
    exact⟨hb2,Ot hq.va.cut hq.vb.cut hq.le hu λv hv=>by injection hv with hv;subst hv;exact hb2⟩
  obtain⟨x0,hx0,hn0⟩:=h4;obtain⟨hb0,hnb0⟩:=nx x0 hx0 e hn0;cases hE' with
  |
   nil h' =>
   exfalso;obtain⟨o,o1,o2⟩:=h' x0 (by rw[hs];exact hx0);cases o with
   |none=>exact Ln hq.vb hnb0 o1
   |
    some u =>
    have e1:=TY hq.vb o1 hnb0;obtain⟨q,q1,q2⟩:=o2 u rfl;exact h2 ⟨q,q1,by rw[<-e1];exact q2⟩
  |
   @cons _ e' E'' he' h1' h2' h3' h4' h5' =>
   obtain⟨x1,hx1,hn1⟩:=h4';rw[hs]at hx1;have a1:¬Bh e' e:=λhlt=>by
    obtain⟨o,o1,o2⟩:=h3 x1 hx1;cases o with
    |
     none =>
     obtain⟨o',o1',o2'⟩:=hq.n x1 hx1;cases o' with
     |none=>exact Ln hq.vb hn1 (Ot hq.va.cut hq.vb.cut hq.le o1' o2')
     |some u=>exact Ln hq.va o1' o1
    |
     some u =>
     have e2:=TY hq.vb (nx x1 hx1 u o1).2 hn1;exact o2 u rfl ((sH e2).2 hlt)
   have a2:¬Bh e e':=λhlt=>by
    obtain⟨o,o1,o2⟩:=h3' x0 (by rw[hs];exact hx0);cases o with
    |none=>exact Ln hq.vb hnb0 o1
    |
     some u =>
     have e2:=TY hq.vb o1 hnb0;exact o2 u rfl ((sH e2).2 hlt)
   have:=ih (xX S he he' (Qll he.cut he'.cut a2 a1)) h5';simp[this]
theorem Qu8{t:Rat}{a:Tm}(ha:Va a){E E':List Tm}(h:Evs Bc t a E)(h':Evs Bc t a E'):E.length=E'.length:=Qcf S h (xX S ha ha λ_=>rfl) h'
end
theorem Qra{p:Um}(h:Cp p):(xJ p).length<=67:=by
 obtain⟨l,l1,l2,_⟩:=JO h;unfold xJ;rw[l1];exact l2
theorem Qan:∀{Ps:Un},(∀p∈Ps,Cp p)->(Ps.flatMap xJ).length≤67*Ps.length
 | [],_=>Qh _
 |
  p::Ps,h=>by
  have h1:=Qra (h p (by simp));have h2:=Qan (Ps:=Ps) λq hq=>h q (Qg _ hq)
  rw[J1,Qu,Q5];omega
theorem Qy0(T:List Tm)(a:Tm):mu T a<=T.length:=Y0 _ _
theorem Qtl{β:Type}{Bc:Tm->List Ct}{Br:Tm->β}(S:Stab Bc Br){a:Tm}(ha:Va a):KSt Bc Br ⟨a,(Fp (Bc a)).map fresh,0⟩ (Br a):=by
 refine⟨⟨⟨ha,λw hw=>?_,?_⟩,λw hw hk=>?_⟩,?_,rfl⟩
 ·obtain⟨x,hx,rfl⟩:=Za.1 hw;exact⟨S.ok.p _ ha x (Td hx),λt ht=>by cases ht⟩
 ·show((Fp (Bc a)).map fresh).length<=1000;rw[Q9,M4];exact S.ok.n _ ha
 ·obtain⟨x,hx,rfl⟩:=Za.1 hw;cases hk
 ·show((Fp (Bc a)).map fresh).map (·.c)=Fp (Bc a);rw[List.map_map];show(Fp (Bc a)).map (λx=>x)=_;rw[List.map_id']
end Orq
namespace Orr
open Go Go.Proofs Tryz Orq
set_option maxRecDepth 10000
theorem Qg1{a b:Pt}(ha:Sc a.c)(hb:Sc b.c):Cp (Ax a b):=YS (Ni ha hb) (Nh ha hb)
def VI(l:List Pt)(a:Tm):List Ct:=Pa (Fw a) (Sf a l)
abbrev pA(l:List Pt)(a:Tm):Us:=U3 (Sf a l)
theorem tP{sg:Um->Int}:∀{l:List Pt},(∀p∈l,Sc p.c)->∀x∈Pa sg l,Cp x.p
 | [],_,x,hx=>by cases hx
 | [_],_,x,hx=>by cases hx
 |
  a::b::l,h,x,hx=>by
  simp only[Pa]at hx;rcases Qn.1 hx with rfl|hx
  ·exact Qg1 (h a (by simp)) (h b (by simp))
  ·exact tP (λp hp=>h p (Qg _ hp)) x hx
theorem Hr{t:Tm}{l:List Pt}{p:Pt}:p∈Sf t l↔p∈l:=by
 unfold Sf Ek;rw[KO];simp
theorem Nu(t:Tm)(l:List Pt):(Sf t l).length=l.length:=zO _ _
theorem pT{l:List Pt}(hl:∀p∈l,Sc p.c)(hn:l.length≤1000):BuildOk (VI l) :=
 ⟨λa _ x hx=>tP (λp hp=>hl p (Hr.1 hp)) x hx,λa _=>by unfold VI;rw[B8,Nu];omega⟩
theorem IC{l:List Pt}{a:Tm}{c:Cr}{r1:Us}(hl:∀p∈l,Sc p.c)(hn:l.length≤1000)(ha:Va a):U7 prog 195 [.one (.ow 0 0),.agg (ta a)] [.blk 220 (Hm c (U3 l) r1)] [.one (.row (U9 (VI l a)))] [.blk 220 (Hm c (U3 l) (pA l a))]:=by
 have cr:=wB hl (by omega) ha;have cc:=BB (l:=Sf a l) (t:=a) (λp hp=>hl p (Hr.1 hp)) (by rw[Nu];omega) ha;refine Fx func195 rfl ?_;exact Uh [] [0] [.k Iu,.k cr,.k cc] rfl
theorem Qbl{l:List Pt}{a:Tm}(hl:∀p∈l,Sc p.c)(hn:l.length≤1000)(ha:Va a):U7 prog 195 [.one (.ow 0 0),.agg (ta a)] [.blk 220 (mA (.row (U3 l)) .nils)] [.one (.row (U9 (VI l a)))] [.blk 220 (mA (.row (U3 l)) (.row (pA l a)))]:=by
 have cr:=wB hl (by omega) ha;have cc:=BB (l:=Sf a l) (t:=a) (λp hp=>hl p (Hr.1 hp)) (by rw[Nu];omega) ha;refine Fx func195 rfl ?_;exact Uh [] [0] [.k Iu,.k cr,.k cc] rfl
def Qxw(l:List Pt)(a:Tm):Cr:=⟨a,(Fp (VI l a)).map fresh,0⟩
end Orr
namespace Orq
open Orr Go
theorem XP{a:Tm}(ha:Va a):∀(L:Un),(∀p∈L,Dp p)->∃y,Ft a y=-1/\∀q,Ft a q=-1->q≤y->∀p∈L,Hk (Fw a) p=Fh (Fa p q)
 |
  [],_=>by
  obtain⟨y,hy⟩:=ha.cut.hi;exact⟨y,hy,λq _ _ p hp=>by cases hp⟩
 |
  p::L,h=>by
  obtain⟨y,y1,y2⟩:=XP ha L (λq hq=>h q (Qg _ hq));by_cases h0:p.length=0
  ·obtain rfl:=Qj h0;refine⟨y,y1,λq q1 q2 r hr=>?_⟩;rcases Qn.1 hr with rfl|hr
   ·rw[XS];exact(Gs.2 rfl).symm
   ·exact y2 q q1 q2 r hr
  ·obtain⟨⟨z,z1,z2⟩,_⟩:=Er ha (h p (by simp)) h0;refine⟨if y<=z then y else z,by split <;> assumption,λq q1 q2 r hr=>?_⟩;rcases Qn.1 hr with rfl|hr
   ·rw[<-Fb];exact(z2 q q1 (by grind)).symm
   ·exact y2 q q1 (by grind) r hr
section Srt
variable{α:Type}{lt:α->α->Bool}{R:α->α->Prop}
theorem zU(irr:∀x,¬R x x)(tr:∀x y z,R x y->R y z->R x z):∀{l m:List α},l.Pairwise R->m.Pairwise R->(∀x,x∈l↔x∈m)->l=m
 | [],[],_,_,_=>rfl
 | [],y::m,_,_,h=>by have:=(h y).2 (by simp);cases this
 |x::l,[],_,_,h=>by have:=(h x).1 (by simp);cases this
 |
  x::l,y::m,hl,hm,h=>by
  rw[Zg]at hl hm;have e:x=y:=by
   rcases Qn.1 ((h x).1 (by simp))with e|h1
   ·exact e
   ·rcases Qn.1 ((h y).2 (by simp))with e|h2
    ·exact e.symm
    ·exact absurd (tr _ _ _ (hl.1 y h2) (hm.1 x h1)) (irr x)
  subst e;rw[zU irr tr hl.2 hm.2 λz=>?_];constructor
  ·intro hz;rcases Qn.1 ((h z).1 (Qg _ hz))with e|h1
   ·subst e;exact absurd (hl.1 z hz) (irr z)
   ·exact h1
  ·intro hz;rcases Qn.1 ((h z).2 (Qg _ hz))with e|h1
   ·subst e;exact absurd (hm.1 z hz) (irr z)
   ·exact h1
theorem zX{out:List α}{x:α}:∀k,k<=out.length->(∀j y,Eb lt out x k<=j->j<k->out[j]? = some y->lt x y=true)/\(0<Eb lt out x k->∃y,out[Eb lt out x k-1]? = some y/\lt x y=false)
 | 0,_=>⟨λj y _ h=>by omega,λh=>by simp[Eb]at h⟩
 |
  k+1,hk=>by
  obtain⟨y,hy⟩:=gxE (l:=out) (i:=k) (by omega);by_cases h:lt x y=true
  ·rw[oH hy h];obtain⟨h1,h2⟩:=zX (out:=out) (x:=x) k (by omega);refine⟨λj z a1 a2 a3=>?_,h2⟩;by_cases e:j=k
   ·subst e;rw[hy]at a3;injection a3 with a3;subst a3;exact h
   ·exact h1 j z a1 (by omega) a3
  ·have h:lt x y=false:=by simpa using h
   rw[rL hy h];exact⟨λj z a1 a2 _=>by omega,λ_=>⟨y,by simpa using hy,h⟩⟩
theorem Qpa(tr:∀x y z,R x y->R y z->R x z){out:List α}{x:α}(ho:out.Pairwise R)(h1:∀y∈out,lt x y=true->R x y)(h2:∀y∈out,lt x y=false->R y x):(L6 lt out x).Pairwise R:=by
 obtain⟨s1,s2⟩:=zX (lt:=lt) (out:=out) (x:=x) out.length (Ql _);have hle:=vV lt out x out.length;unfold L6;obtain⟨k,hk⟩:=nmE (Eb lt out x out.length);rw[<-hk]at s1 s2 hle ⊢;have hd:(out.take k++out.drop k).Pairwise R:=by rw[Zh];exact ho
 obtain⟨d1,d2,d3⟩:=Xw.1 hd;have hR:∀y∈out.drop k,R x y:=λy hy=>by
  obtain⟨i,hi⟩:=Xv hy;rw[Xc]at hi;have:k+i<out.length:=(Qf.1 hi).1;exact h1 y (Qz hy) (s1 (k+i) y (by omega) this hi)
 have hL:∀y∈out.take k,R y x:=λy hy=>by
  obtain⟨i,hi⟩:=Xv hy;have hik:i<k:=by have:=(Qf.1 hi).1;simp at this;omega
  rw[Kf hik]at hi;obtain⟨z,z1,z2⟩:=s2 (by omega);have hz:=h2 z (Qc z1) z2;by_cases e:i=k-1
  ·subst e;rw[hi]at z1;injection z1 with z1;subst z1;exact hz
  ·have hp:=Yc.1 ho i (k-1) (by omega) (by omega) (by omega);obtain⟨_,e1⟩:=Qf.1 hi;obtain⟨_,e2⟩:=Qf.1 z1;rw[e1,e2]at hp;exact tr _ _ _ hp hz
 refine Xw.2 ⟨d1,Zg.2 ⟨hR,d2⟩,λy hy z hz=>?_⟩;rcases Qn.1 hz with rfl|hz
 ·exact hL y hy
 ·exact d3 y hy z hz
theorem DD(tr:∀x y z,R x y->R y z->R x z){S:α->Prop}(h1:∀x y,S x->S y->lt x y=true->R x y){D:α->α->Prop}(h2:∀x y,S x->S y->D y x->lt x y=false->R y x) :
 ∀(l acc:List α),acc.Pairwise R->(∀x∈acc,S x)->(∀x∈l,S x)->l.Pairwise D->(∀x∈acc,∀y∈l,D x y)->(l.foldl (L6 lt) acc).Pairwise R
 | [],acc,ha,_,_,_,_=>ha
 |
  x::l,acc,ha,hs,hl,hd,hx=>by
  rw[Zg]at hd;refine DD tr h1 h2 l (L6 lt acc x) ?_ ?_ (λy hy=>hl y (Qg _ hy)) hd.2 ?_
  ·exact Qpa tr ha (λy hy=>h1 x y (hl x (by simp)) (hs y hy)) (λy hy=>h2 x y (hl x (by simp)) (hs y hy) (hx y hy x (by simp)))
  ·intro y hy;rcases FH.1 hy with rfl|hy
   ·exact hl _ (by simp)
   ·exact hs y hy
  ·intro y hy z hz;rcases FH.1 hy with rfl|hy
   ·exact hd.1 z hz
   ·exact hx y hy z (Qg _ hz)
theorem zW:∀{l:List α},l.Pairwise R->∀{u v:α},u∈l->v∈l->u≠v->R u v\/R v u
 | [],_,_,_,h,_,_=>by cases h
 |
  x::l,hp,u,v,hu,hv,hne=>by
  rw[Zg]at hp;rcases Qn.1 hu with e|hu
  ·rcases Qn.1 hv with e'|hv
   ·exact absurd (e.trans e'.symm) hne
   ·rw[e];exact .inl (hp.1 v hv)
  ·rcases Qn.1 hv with e'|hv
   ·rw[e'];exact .inr (hp.1 u hu)
   ·exact zW hp.2 hu hv hne
end Srt
def px(p:Pt)(q:Rat):Rat:=Fa p.c.x q / (p.c.d:Rat)
def py(p:Pt)(q:Rat):Rat:=Fa p.c.y q / (p.c.d:Rat)
def De(q:Rat)(x y:Pt):Prop:=px x q<px y q\/px x q=px y q/\(py x q<py y q\/py x q=py y q/\x.id<y.id)
theorem JQ(q:Rat)(x:Pt):¬De q x x:=by unfold De;grind
theorem YL(q:Rat)(x y z:Pt)(h:De q x y)(h':De q y z):De q x z:=by unfold De at *;grind
theorem gY{q:Rat}{x y:Pt}(h:x.id≠y.id)(h':¬De q x y):De q y x:=by unfold De at *;grind
theorem zA{u v:Rat}{c d:Int}(hc:0<c)(hd:0<d):Fh (v*(c:Rat)-u*(d:Rat))=Fh (v / (d:Rat)-u / (c:Rat)):=by
 have hc':(0:Rat)<(c:Rat):=by exact_mod_cast hc
 have hd':(0:Rat)<(d:Rat):=by exact_mod_cast hd
 have e:v*(c:Rat)-u*(d:Rat)=((c:Rat)*(d:Rat))*(v / (d:Rat)-u / (c:Rat)):=by
  rw[J6,J6];have h1:=Ws (c:Rat) (by grind);have h2:=Ws (d:Rat) (by grind);grind
 rw[e,C9 (Xs hc' hd')]
theorem TL{x y:Pt}(hx:Sc x.c)(hy:Sc y.c)(q:Rat):Fh (Fa (Gp x.c y.c) q)=Fh (px y q-px x q):=by
 unfold Gp px;rw[Np,Rq,Rq];exact zA hx.n.2.2.1 hy.n.2.2.1
theorem TD{x y:Pt}(hx:Sc x.c)(hy:Sc y.c)(q:Rat):Fh (Fa (Gn x.c y.c) q)=Fh (py y q-py x q):=by
 unfold Gn py;rw[Np,Rq,Rq];exact zA hx.n.2.2.1 hy.n.2.2.1
theorem BW{a:Tm}(ha:Va a){x y:Pt}(hx:Sc x.c)(hy:Sc y.c){q:Rat}(h1:Hk (Fw a) (Gp x.c y.c)=Fh (Fa (Gp x.c y.c) q))(h2:Hk (Fw a) (Gn x.c y.c)=Fh (Fa (Gn x.c y.c) q)):Tu (Fw a) x y=true↔De q x y:=by
 rw[TL hx hy]at h1;rw[TD hx hy]at h2;have d1:=(Ni hx hy).dp;have d2:=(Nh hx hy).dp;unfold Tu;simp only[Ea];have t1:=Gb (px y q-px x q);have t2:=Gb (py y q-py x q);by_cases e1:(Gp x.c y.c).length=0
 ·rw[if_neg (by omega)];rw[Qj e1,XS]at h1;have:px x q=px y q:=by grind
  by_cases e2:(Gn x.c y.c).length=0
  ·rw[if_neg (by omega)];rw[Qj e2,XS]at h2;unfold De;simp only[decide_eq_true_eq];grind
  ·rw[if_pos (by omega)];have:=(Er ha d2 e2).2;unfold De;simp only[decide_eq_true_eq];grind
 ·rw[if_pos (by omega)];have:=(Er ha d1 e1).2;unfold De;simp only[decide_eq_true_eq];grind
def Af(l:List Pt):Un:=l.flatMap λx=>l.flatMap λy=>[Gp x.c y.c,Gn x.c y.c]
theorem Sp{l:List Pt}{x y:Pt}(hx:x∈l)(hy:y∈l):Gp x.c y.c∈Af l/\Gn x.c y.c∈Af l :=
 ⟨Zo.2 ⟨x,hx,Zo.2 ⟨y,hy,by simp⟩⟩,Zo.2 ⟨x,hx,Zo.2 ⟨y,hy,by simp⟩⟩⟩
theorem QV{l:List Pt}(hl:∀p∈l,Sc p.c):∀p∈Af l,Cp p:=λp hp=>by
 obtain⟨x,hx,hp⟩:=Zo.1 hp;obtain⟨y,hy,hp⟩:=Zo.1 hp;simp at hp;rcases hp with rfl|rfl
 ·exact Ni (hl x hx) (hl y hy)
 ·exact Nh (hl x hx) (hl y hy)
theorem Qad{l:List Pt}(hl:∀p∈l,Sc p.c)(hd:l.Pairwise λx y=>x.id≠y.id){a:Tm}(ha:Va a):∃y,Ft a y=-1/\∀q,Ft a q=-1->q≤y->(∀u∈l,∀v∈l,(Tu (Fw a) u v=true↔De q u v))/\(Sf a l).Pairwise (De q):=by
 obtain⟨y,y1,y2⟩:=XP ha (Af l) λp hp=>(QV hl p hp).dp
 refine⟨y,y1,λq q1 q2=>?_⟩;have h:=y2 q q1 q2;have hb:∀u∈l,∀v∈l,(Tu (Fw a) u v=true↔De q u v):=λu hu v hv=>BW ha (hl u hu) (hl v hv) (h _ (Sp hu hv).1) (h _ (Sp hu hv).2)
 refine⟨hb,?_⟩;exact DD (S:=λx=>x∈l) (D:=λx y=>x.id≠y.id) (YL q) (λu v hu hv h=>(hb u hu v hv).1 h) (λu v hu hv hne h=>gY (λe=>hne e.symm) λh'=>by
  rw[(hb u hu v hv).2 h']at h;cases h) l [] .nil (λx hx=>by cases hx) (λx hx=>hx) hd (λx hx=>by cases hx)
theorem bE{a b:Tm}{x y:Pt}(h:Hk (Fw b) (Ax x y)=Hk (Fw a) (Ax x y)):Tu (Fw b) x y=Tu (Fw a) x y:=by
 unfold Ax Lz at h;unfold Tu;simp only[Ea];by_cases e1:0<(Gp x.c y.c).length
 ·rw[if_pos e1,if_pos e1];rw[if_pos e1]at h;rw[h]
 ·rw[if_neg e1,if_neg e1];rw[if_neg e1]at h;rw[h]
theorem CV{a b:Tm}{q r:Rat}:∀(l:List Pt),(∀u∈l,∀v∈l,(Tu (Fw a) u v=true↔De q u v))->(∀u∈l,∀v∈l,(Tu (Fw b) u v=true↔De r u v))->l.Pairwise (De q)->(∀x∈Pa (Fw a) l,Hk (Fw b) x.p=Hk (Fw a) x.p)->l.Pairwise (De r)/\Pa (Fw b) l=Pa (Fw a) l
 | [],_,_,_,_=>⟨.nil,rfl⟩
 | [x],_,_,_,_=>⟨Kl _ _,rfl⟩
 |
  x::y::l,ha,hb,hp,hc=>by
  rw[Zg]at hp;obtain⟨i1,i2⟩:=CV (a:=a) (b:=b) (q:=q) (r:=r) (y::l) (λu hu v hv=>ha u (Qg _ hu) v (Qg _ hv)) (λu hu v hv=>hb u (Qg _ hu) v (Qg _ hv)) hp.2 (λz hz=>hc z (by simp only[Pa];exact Qg _ hz));have h0:Hk (Fw b) (Ax x y)=Hk (Fw a) (Ax x y):=hc (ZX (Fw a) x y) (by simp[Pa]);have h1:De r x y:=(hb x (by simp) y (by simp)).1 (by rw[bE h0];exact(ha x (by simp) y (by simp)).2 (hp.1 y (by simp)));refine⟨Zg.2 ⟨λz hz=>?_,i1⟩,?_⟩
  ·rcases Qn.1 hz with rfl|hz
   ·exact h1
   ·exact YL r x y z h1 ((Zg.1 i1).1 z hz)
  ·simp only[Pa];rw[i2];congr 1;unfold ZX;rw[h0]
theorem TB{sg:Um->Int}:∀{l:List Pt},∀x∈Pa sg l,∃u∈l,∃v∈l,x.p=Ax u v
 | [],x,hx=>by cases hx
 | [_],x,hx=>by cases hx
 |
  a::b::l,x,hx=>by
  simp only[Pa]at hx;rcases Qn.1 hx with rfl|hx
  ·exact⟨a,by simp,b,by simp,rfl⟩
  ·obtain⟨u,hu,v,hv,e⟩:=TB (l:=b::l) x hx;exact⟨u,Qg _ hu,v,Qg _ hv,e⟩
theorem qE{l:List Pt}{u v:Pt}(hu:u∈l)(hv:v∈l):Ax u v∈Af l:=by
 unfold Ax Lz;split
 ·exact(Sp hu hv).1
 ·exact(Sp hu hv).2
theorem lW{l:List Pt}{a:Tm}:∀x∈VI l a,x.p∈Af l:=λx hx=>by
 obtain⟨u,hu,v,hv,e⟩:=TB x hx;rw[e];exact qE (Hr.1 hu) (Hr.1 hv)
theorem Qee(l:List Pt):(Af l).length=l.length*(l.length*2):=by
 have h1:∀(x:Pt) (m:List Pt),(m.flatMap λy=>[Gp x.c y.c,Gn x.c y.c]).length=m.length*2:=λx m=>by
  induction m with
  |nil=>rfl
  |cons y m ih=>rw[J1,Qu,ih,Q5];simp;omega
 have h2:∀m:List Pt,(m.flatMap λx=>l.flatMap λy=>[Gp x.c y.c,Gn x.c y.c]).length=m.length*(l.length*2):=λm=>by
  induction m with
  |nil=>simp
  |cons y m ih=>rw[J1,Qu,ih,Q5,h1,X5,Wn,Ju]
 exact h2 l
theorem tC{l:List Pt}(hl:∀p∈l,Sc p.c)(hd:l.Pairwise λx y=>x.id≠y.id){a b:Tm}(ha:Va a)(hb:Va b)(h:∀x∈VI l a,Hk (Fw b) x.p=Hk (Fw a) x.p):Sf b l=Sf a l/\VI l b=VI l a:=by
 obtain⟨q,q1,q2⟩:=Qad hl hd ha;obtain⟨r,r1,r2⟩:=Qad hl hd hb;obtain⟨a1,a2⟩:=q2 q q1 Qr;obtain⟨b1,b2⟩:=r2 r r1 Qr;obtain⟨c1,c2⟩:=CV (a:=a) (b:=b) (Sf a l) (λu hu v hv=>a1 u (Hr.1 hu) v (Hr.1 hv)) (λu hu v hv=>b1 u (Hr.1 hu) v (Hr.1 hv)) a2 h;have e:Sf b l=Sf a l:=zU (JQ r) (YL r) b2 c1 λx=>by rw[Hr,Hr]
 exact⟨e,by unfold VI;rw[e,c2]⟩
theorem Qzi{l:List Pt}(hl:∀p∈l,Sc p.c)(hn:l.length≤1000)(hd:l.Pairwise λx y=>x.id≠y.id):Stab (VI l) (pA l):=by
 refine⟨pT hl hn,⟨Af l,QV hl,λa _ x hx=>?_⟩,λa b ha hb h=>?_⟩
 ·obtain⟨u,hu,v,hv,e⟩:=TB x hx;rw[e];exact qE (Hr.1 hu) (Hr.1 hv)
 ·obtain⟨e1,e2⟩:=tC hl hd ha hb h;exact⟨e2,by unfold pA;rw[e1]⟩
end Orq
namespace Orq
theorem ang{ux uy vx vy wx wy:Rat}(hu:0<ux\/ux=0/\0<uy)(hv:0<vx\/vx=0/\0<vy)(hw:0<wx\/wx=0/\0<wy)
 (h1:0<=ux*vy-vx*uy) (h2:0<=vx*wy-wx*vy):0<=ux*wy-wx*uy/\(0<ux*vy-vx*uy\/0<vx*wy-wx*vy->0<ux*wy-wx*uy):=by
 have ux0:0<=ux:=by grind
 have wx0:0<=wx:=by grind
 rcases hv with hv|⟨hv,hv2⟩
 ·have e:vx*(ux*wy-wx*uy)=ux*(vx*wy-wx*vy)+wx*(ux*vy-vx*uy):=by grind
  have hux:0<ux:=by
   rcases hu with h|⟨h,h'⟩
   ·exact h
   ·have:=Xs hv h';rw[h]at h1;grind
  have p1:=Vy ux0 h2;have p2:=Vy wx0 h1;have key:∀z:Rat,vx*z=ux*(vx*wy-wx*vy)+wx*(ux*vy-vx*uy)->0<=z:=λz hz=>by
   refine Rat.not_lt.1 λhn=>?_
   have:=Xs hv (show 0 < -z by grind);grind
  refine⟨key _ e,λhs=>?_⟩;rcases hw with hw|⟨hw,hw2⟩
  ·have hpos:0<vx*(ux*wy-wx*uy):=by
    rcases hs with hs|hs
    ·have:=Xs hw hs;grind
    ·have:=Xs hux hs;grind
   have h0:=key _ e;refine Jr.1 λhn=>?_
   have:ux*wy-wx*uy=0:=by grind
   rw[this]at hpos;grind
  ·have:=Xs hux hw2;rw[hw];grind
 ·rw[hv]at h1 h2;have hw0:wx=0:=by
   rcases hw with hw|hw
   ·have:=Xs hw hv2;grind
   ·exact hw.1
  have hwy:0<wy:=by grind
  have p:=Vy ux0 (Qt hwy);refine⟨by rw[hw0];grind,λhs=>?_⟩;rw[hv,hw0]at hs;have hux:0<ux:=by
   rcases hs with hs|hs
   ·refine Jr.1 λhn=>?_
    have:ux=0:=by grind
    rw[this]at hs;grind
   ·grind
  have:=Xs hux hwy;rw[hw0];grind
section
variable{α:Type}(X Y:α->Rat)
def lx(a b:α):Prop:=X a<X b\/X a=X b/\Y a<Y b
def Bp(a b c:α):Rat:=(X b-X a)*(Y c-Y a)-(X c-X a)*(Y b-Y a)
variable{X Y}
theorem L8(a:α):¬lx X Y a a:=by unfold lx;grind
theorem gU{a b c:α}(h:lx X Y a b)(h':lx X Y b c):lx X Y a c:=by unfold lx at *;grind
theorem L9{a b:α}(h:lx X Y a b):0<X b-X a\/X b-X a=0/\0<Y b-Y a:=by unfold lx at h;grind
theorem FO(a b:α):Bp X Y a b a=0/\Bp X Y a b b=0:=by unfold Bp;grind
theorem rW(a b c:α):Bp X Y a c b=- Bp X Y a b c:=by unfold Bp;grind
theorem yI(a b c:α):Bp X Y a b c=(X b-X a)*(Y c-Y b)-(X c-X b)*(Y b-Y a):=by unfold Bp;grind
def Edg(Q:α->α->Prop):List α->Prop
 |a::b::r=>Q a b/\Edg Q (b::r)
 |_=>True
def Cnv(R:α->α->α->Prop):List α->Prop
 |a::b::c::r=>R a b c/\Cnv R (b::c::r)
 |_=>True
theorem Edg.tail{Q:α->α->Prop}{a:α}{l:List α}(h:Edg Q (a::l)):Edg Q l:=by
 cases l with
 |nil=>trivial
 |cons b l=>exact h.2
theorem Cnv.tail{R:α->α->α->Prop}{a:α}{l:List α}(h:Cnv R (a::l)):Cnv R l:=by
 match l,h with
 | [],_=>trivial
 | [_],_=>trivial
 |b::c::l,h=>exact h.2
def Lt(s:α->α->α->Bool)(c:α):List α->List α
 |b::a::r=>if s a b c=true then b::a::r else Lt s c (a::r)
 |l=>l
def P9(s:α->α->α->Bool):List α->List α->List α
 |acc,[]=>acc
 |acc,c::l=>P9 s (c::Lt s c acc) l
structure Stk(X Y:α->Rat)(P:List α)(st:List α):Prop where
 srt:st.Pairwise λb a=>lx X Y a b
 mem:∀p∈st,p∈P
 edg:Edg (λb a=>∀p∈P,0≤Bp X Y a b p) st
 cnv:Cnv (λc b a=>0<Bp X Y a b c) st
theorem Stk.tail{P:List α}{a:α}{st:List α}(h:Stk X Y P (a::st)):Stk X Y P st:=⟨(Zg.1 h.srt).2,λp hp=>h.mem p (Qg _ hp),h.edg.tail,h.cnv.tail⟩
theorem Qjw{P:List α}{s:α->α->α->Bool}{c:α}(hs:∀a∈P,∀b∈P,(s a b c=true↔0<Bp X Y a b c))(hc:∀p∈P,lx X Y p c) :
 ∀(st:List α) (t:α),Stk X Y P (t::st)->(∀p∈P,lx X Y t p->0≤Bp X Y t c p) ->
 ∃t' st',Lt s c (t::st)=t'::st'/\Stk X Y P (t'::st')/\(∀p∈P,lx X Y t' p->0≤Bp X Y t' c p)/\(∀a r,st'=a::r->0<Bp X Y a t' c)/\(t'::st').getLast? = (t::st).getLast?
 | [],t,h,h2=>⟨t,[],rfl,h,h2,λa r e=>(by cases e),rfl⟩
 |
  a::r,t,h,h2=>by
  have ht:=h.mem t (by simp);have ha:=h.mem a (by simp);by_cases e:s a t c=true
  ·refine⟨t,a::r,by simp only[Lt];rw[if_pos e],h,h2,λa' r' e'=>?_,rfl⟩;injection e' with e1 _
   rw[<-e1];exact(hs a ha t ht).1 e
  ·have hle:Bp X Y a t c<=0:=Rat.not_lt.1 λh'=>e ((hs a ha t ht).2 h')
   have hat:lx X Y a t:=(Zg.1 h.srt).1 a (by simp);obtain⟨t',st',g1,g2,g3,g4,g5⟩:=Qjw hs hc r a h.tail λp hp hap=>by
    have e1:=h.edg.1 p hp;have k:=ang (L9 (hc a ha)) (L9 hat) (L9 hap) (by rw[rW]at *;unfold Bp at *;grind) (by unfold Bp at *;grind);unfold Bp;grind
   exact⟨t',st',by simp only[Lt];rw[if_neg e];exact g1,g2,g3,g4,by rw[g5];rfl⟩
theorem OR{P:List α}{c:α}:∀(st:List α) (t:α),Stk X Y P (t::st)->lx X Y t c->(∀a r,st=a::r->0<Bp X Y a t c)->Edg (λb a=>0<Bp X Y a b c) (t::st)
 | [],_,_,_,_=>trivial
 | [a],t,_,_,h=>⟨h a [] rfl,trivial⟩
 |
  a::q::r,t,hS,htc,h=>by
  have h1:=h a (q::r) rfl;have h0:0<Bp X Y q a t:=hS.cnv.1;have p1:=Zg.1 hS.srt;have p2:=Zg.1 p1.2;have hat:lx X Y a t:=p1.1 a (by simp);have hqa:lx X Y q a:=p2.1 q (by simp);refine⟨h1,OR (q::r) a hS.tail (gU hat htc) λa' r' e=>?_⟩;injection e with e _;rw[<-e];rw[yI]at h0 h1 ⊢;have k:=(ang (L9 hqa) (L9 hat) (L9 htc) (Qt h0) (Qt h1)).2 (.inl h0);grind
theorem Qqb{P:List α}{t:α}{st:List α}{c:α}(h:Stk X Y P (t::st))(hc:∀p∈P,lx X Y p c)(hP:∀p∈P,p=t\/lx X Y p t\/lx X Y t p)(hb:∀p∈P,(t::st).getLast? = some p\/∃b,(t::st).getLast? = some b/\lx X Y b p)(h2:∀p∈P,lx X Y t p->0≤Bp X Y t c p)(h3:∀a r,st=a::r->0<Bp X Y a t c):Stk X Y (P++[c]) (c::t::st):=by
 have ht:=h.mem t (by simp);have htc:=hc t ht;have hf:=OR st t h htc h3;refine⟨Zg.2 ⟨λp hp=>hc p (h.mem p hp),h.srt⟩,λp hp=>?_,⟨λp hp=>?_,?_⟩,?_⟩
 ·rcases Qn.1 hp with rfl|hp
  ·simp
  ·exact Ja _ (h.mem p hp)
 ·rcases Qq.1 hp with hp|hp
  ·rcases hP p hp with rfl|hpt|htp
   ·rw[(FO p c).1];exact Qr
   ·cases st with
    |
     nil =>
     exfalso;rcases hb p hp with e|⟨b,e,hb⟩
     ·injection e with e;subst e;exact L8 _ hpt
     ·injection e with e;subst e;exact L8 _ (gU hpt hb)
    |
     cons a r =>
     have e1:=h.edg.1 p hp;have h3:=h3 a r rfl;have hat:lx X Y a t:=(Zg.1 h.srt).1 a (by simp);have k:=(ang (L9 hpt) (L9 hat) (L9 htc) (by unfold Bp at *;grind) (by unfold Bp at *;grind)).1;unfold Bp;grind
   ·exact h2 p hp htp
  ·rw[Qk.1 hp,(FO t c).2];exact Qr
 ·cases st with
  |nil=>trivial
  |
   cons a r =>
   have key:∀l:List α,Edg (λb a=>∀p∈P,0≤Bp X Y a b p) l->Edg (λb a=>0<Bp X Y a b c) l->Edg (λb a=>∀p∈P++[c],0≤Bp X Y a b p) l:=by
    intro l
    induction l with
    |nil=>intros;trivial
    |
     cons x l ih =>
     cases l with
     |nil=>intros;trivial
     |
      cons y l =>
      intro k1 k2;refine⟨λp hp=>?_,ih k1.2 k2.2⟩;rcases Qq.1 hp with hp|hp
      ·exact k1.1 p hp
      ·rw[Qk.1 hp];exact Qt k2.1
   exact key _ h.edg hf
 ·cases st with
  |nil=>trivial
  |cons a r=>exact⟨h3 a r rfl,h.cnv⟩
theorem OZ{s:α->α->α->Bool}{row:List α}(hs:∀a∈row,∀b∈row,∀c∈row,(s a b c=true↔0<Bp X Y a b c))(hrow:row.Pairwise (lx X Y)) :
 ∀(l P:List α) (t:α) (st:List α),row=P++l->Stk X Y P (t::st)->P.getLast? = some t->(t::st).getLast? = P.head? ->
 ∃t' st',P9 s (t::st) l=t'::st'/\Stk X Y row (t'::st')/\row.getLast? = some t'/\(t'::st').getLast? = row.head?
 |
  [],P,t,st,e,h,h1,h2=>by
  rw[Zw]at e;subst e;exact⟨t,st,rfl,h,h1,h2⟩
 |
  c::l,P,t,st,e,h,h1,h2=>by
  have hPm:∀p∈P,p∈row:=λp hp=>by rw[e];exact Ja _ hp
  have hcm:c∈row:=by rw[e];simp
  have hpw:=hrow;rw[e]at hpw;obtain⟨w1,w2,w3⟩:=Xw.1 hpw;have hc:∀p∈P,lx X Y p c:=λp hp=>w3 p hp c (by simp)
  have htop:∀p∈P,p=t\/lx X Y p t:=λp hp=>by
   obtain⟨P1,rfl⟩:∃P1,P=P1++[t]:=by
    have:=Y9.1 h1;exact this
   rcases Qq.1 hp with hp|hp
   ·exact .inr ((Xw.1 w1).2.2 p hp t (by simp))
   ·exact .inl (Qk.1 hp)
  obtain⟨t',st',g1,g2,g3,g4,g5⟩:=Qjw (λa ha b hb=>hs a (hPm a ha) b (hPm b hb) c hcm) hc st t h λp hp htp=>by
   rcases htop p hp with rfl|h'
   ·exact absurd htp (L8 _)
   ·exact absurd (gU htp h') (L8 _)
  have tot:∀p∈P,p=t'\/lx X Y p t'\/lx X Y t' p:=λp hp=>by
   obtain⟨i,hi,rfl⟩:=V1.1 hp;obtain⟨j,hj,e2⟩:=V1.1 (g2.mem t' (by simp));rcases Kn i j with h'|h'|h'
   ·exact .inr (.inl (by rw[<-e2];exact Yc.1 w1 i j hi hj h'))
   ·subst h';exact .inl e2
   ·exact .inr (.inr (by rw[<-e2];exact Yc.1 w1 j i hj hi h'))
  have hPne:P≠[]:=λh'=>by rw[h']at h1;cases h1
  have hb:∀p∈P,(t'::st').getLast? = some p\/∃b,(t'::st').getLast? = some b/\lx X Y b p:=λp hp=>by
   rw[g5,h2];cases P with
   |nil=>exact absurd rfl hPne
   |
    cons f P' =>
    rcases Qn.1 hp with rfl|hp
    ·exact .inl rfl
    ·exact .inr ⟨f,rfl,(Zg.1 w1).1 p hp⟩
  have hpush:=Qqb g2 hc tot hb g3 g4;obtain⟨t2,st2,k1,k2,k3,k4⟩:=OZ hs hrow l (P++[c]) c (t'::st') (by rw[e];simp) hpush (by simp) (by
   rw[J0,g5,h2];cases P with
   |nil=>exact absurd rfl hPne
   |cons f P'=>rfl)
  exact⟨t2,st2,by simp only[P9];rw[g1];exact k1,k2,k3,k4⟩
theorem Qgw{P:List α}(tot:∀p∈P,∀q∈P,p=q\/lx X Y p q\/lx X Y q p){z:α} :
 ∀(L L':List α) (f:α),(f::L).Pairwise (lx X Y)->(f::L').Pairwise (lx X Y)->(∀p∈f::L,p∈P)->(∀p∈f::L',p∈P) ->
 Edg (λa b=>∀p∈P,0≤Bp X Y a b p) (f::L)->Edg (λa b=>∀p∈P,0≤Bp X Y a b p) (f::L') ->
 Cnv (λa b c=>0<Bp X Y a b c) (f::L)->Cnv (λa b c=>0<Bp X Y a b c) (f::L')->(f::L).getLast? = some z->(f::L').getLast? = some z->L=L':=by
 have one:∀(L L':List α) (f b b':α),(f::b::L).Pairwise (lx X Y)->(f::b'::L').Pairwise (lx X Y)->(∀p∈f::b::L,p∈P)->b'∈P ->
  Edg (λa b=>∀p∈P,0≤Bp X Y a b p) (f::b::L)->0≤Bp X Y f b' b->Cnv (λa b c=>0<Bp X Y a b c) (f::b::L)->(f::b::L).getLast? = some z->(f::b'::L').getLast? = some z->¬lx X Y b b':=by
  intro L L' f b b' s s' m m' e e' c l l' hlt;have s1:=Zg.1 s;have hfb:lx X Y f b:=s1.1 b (by simp);have hcol:Bp X Y f b b'=0:=by
   have:=e.1 b' m';rw[rW]at e';grind
  cases L with
  |
   nil =>
   simp at l;subst l;have hz:b'=b\/lx X Y b' b:=by
    have:b∈f::b'::L':=V2 l';have s2:=(Zg.1 s').2;rcases Qn.1 this with rfl|h
    ·exact absurd hfb (L8 _)
    ·rcases Qn.1 h with h|h
     ·exact .inl h.symm
     ·exact .inr ((Zg.1 s2).1 b h)
   rcases hz with rfl|hz
   ·exact L8 _ hlt
   ·exact L8 _ (gU hlt hz)
  |
   cons d M =>
   have h1:0<Bp X Y f b d:=c.1;have h2:=e.2.1 b' m';have s2:=Zg.1 s1.2;have hbd:lx X Y b d:=s2.1 d (by simp);have k:=(ang (L9 hlt) (L9 hfb) (L9 hbd) (by unfold Bp at hcol;grind) (by rw[yI]at h1;exact Rat.le_of_lt h1)).2 (.inr (by rw[yI]at h1;exact h1));unfold Bp at h2;grind
 intro L
 induction L with
 |
  nil =>
  intro L' f s s' m m' e e' c c' l l';simp at l;cases L' with
  |nil=>rfl
  |
   cons b' M' =>
   exfalso;subst l;have h1:=(Zg.1 s').1 f (by
    rw[J0]at l';exact V2 l')
   exact L8 _ h1
 |
  cons b M ih =>
  intro L' f s s' m m' e e' c c' l l';cases L' with
  |
   nil =>
   exfalso;simp at l';subst l';have h1:=(Zg.1 s).1 f (by
    rw[J0]at l;exact V2 l)
   exact L8 _ h1
  |
   cons b' M' =>
   have hb:=m b (by simp);have hb':=m' b' (by simp);have heq:b=b':=by
    rcases tot b hb b' hb' with h|h|h
    ·exact h
    ·exact absurd h (one M M' f b b' s s' m hb' e (e'.1 b hb) c l l')
    ·exact absurd h (one M' M f b' b s' s m' hb e' (e.1 b' hb') c' l' l)
   subst heq;rw[J0]at l l';rw[ih M' b (Zg.1 s).2 (Zg.1 s').2 (λp hp=>m p (Qg _ hp)) (λp hp=>m' p (Qg _ hp)) e.2 e'.2 c.tail c'.tail l l']
end
end Orq
namespace Orr
open Go
structure RawInt where
 b:Bool
 l:List Nat
structure RawPt where
 x:List RawInt
 y:List RawInt
 d:RawInt
 id:Int
abbrev Ed(z:RawInt):Ur:=[.bool z.b,Q1e z.l]
structure RawInt.Ok(z:RawInt):Prop where
 u:∀u∈z.l,u<4294967296
structure RawPt.Ok(z:RawPt):Prop where
 x:∀a∈z.x,a.Ok
 y:∀a∈z.y,a.Ok
 d:z.d.Ok
 id:-9223372036854775808<=z.id/\z.id<=9223372036854775807
def H7(most:Int)(z:RawInt):Int:=match z.l with
 | []=>0
 |u::_=>if z.b=true then -((u:Int) % (most+1))else(u:Int) % (most+1)
theorem WY{most:Int}(h:0<=most)(z:RawInt):-most<=H7 most z/\H7 most z<=most:=by
 unfold H7
 split
 ·omega
 ·rename_i u _ _;have h1:=Ye (u:Int) (b:=most+1) (by omega);have h2:=Js (u:Int) (b:=most+1) (by omega)
  split <;> omega
def Gq(most:Int)(l:List RawInt):Um:=(l.take 3).map (H7 most)
def Qpf(most:Int)(x y:List RawInt)(d:RawInt):Crv:=⟨Gq most x,Gq most y,H7 3 d⟩
theorem SO(most:Int)(l:List RawInt):(Gq most l).length<=3:=by unfold Gq;rw[List.length_map,List.length_take];omega
theorem yH{most:Int}{l:List RawInt}{i:Nat}{z:RawInt}(hi:i<3)(h:l[i]? = some z):Gq most (l.take (i+1))=Gq most (l.take i)++[H7 most z]:=by
 unfold Gq;rw[List.take_take,List.take_take,V4 (by omega),V4 (by omega),Zv,h];simp
theorem SI(most:Int){l:List RawInt}{i:Nat}(h:l.length<=i\/3<=i):Gq most (l.take i)=Gq most l:=by
 unfold Gq;rw[List.take_take];rcases Nat.le_total 3 i with h3|h3
 ·rw[Zy h3]
 ·rcases h with h|h
  ·rw[V4 h3,Qm (l:=l) (i:=i) (by omega),Qm (l:=l) (i:=3) (by omega)]
  ·rw[V4 h3,show i=3 by omega]
theorem PQ{most:Int}{l:List RawInt}{z:Int}(hm:0<=most)(h:z∈Gq most l):-most<=z/\z<=most:=by
 obtain⟨a,_,rfl⟩:=Za.1 h;exact WY hm a
theorem Qb3{most:Int}(hm:0<=most/\most<=999)(x y:List RawInt)(d:RawInt):Cs 10 3 (Qpf most x y d):=by
 have key:∀z:Int,-999<=z/\z<=999->Ff z<=10:=λz h=>Sj.2 (by omega)
 refine⟨λz hz=>?_,λz hz=>?_,?_,SO _ _,SO _ _⟩
 ·have:=PQ hm.1 hz;exact key _ (by omega)
 ·have:=PQ hm.1 hz;exact key _ (by omega)
 ·have:=WY (most:=3) (by decide) d;show Ff (H7 3 d)<=10;exact key _ (by omega)
def Pt.nrm(p:Pt):Pt:=⟨p.c.norm,p.id⟩
end Orr
namespace Orr
def Mp(l:List Pt):Prop:=l.Pairwise λa b=>a.id<b.id
theorem Qic(p:Pt)(l:List Pt)(id:Int):has (p::l) id=if p.id<id then has l id else decide (p.id=id):=by
 by_cases h:p.id<id
 ·rw[if_pos h];unfold has;simp only[Rk];rw[if_pos h];simp
 ·rw[if_neg h];unfold has;simp only[Rk];rw[if_neg h];simp
theorem Qj3(p:Pt)(l:List Pt)(q:Pt):put (p::l) q=if p.id<q.id then p::put l q else q::p::l:=by
 unfold put;simp only[Rk]
 split <;> simp
theorem EP:∀{l:List Pt} {q:Pt},Mp l->has l q.id=false->Mp (put l q)
 | [],q,_,_=>by simp[put,Rk,Mp]
 |
  p::l,q,h,hn=>by
  have h1:=Zg.1 h;rw[Qic]at hn;rw[Qj3]
  split
  ·rename_i hlt;rw[if_pos hlt]at hn;refine Zg.2 ⟨λx hx=>?_,EP h1.2 hn⟩;rcases NW hx with rfl|hx
   ·exact hlt
   ·exact h1.1 x hx
  ·rename_i hge;rw[if_neg hge,decide_eq_false_iff_not]at hn;refine Zg.2 ⟨λx hx=>?_,h⟩;rcases Qn.1 hx with rfl|hx
   ·omega
   ·have:=h1.1 x hx;omega
end Orr
namespace Orr
open Go
section
variable{α:Type}{lt:α->α->Bool}
theorem Qcp(out:List α)(c:α):(L6 lt out c).Perm (c::out):=by
 unfold L6;exact(List.perm_middle).trans (by rw[Zh])
theorem DC:∀(l acc:List α),(l.foldl (L6 lt) acc).Perm (l++acc)
 | [],acc=>List.Perm.refl _
 |
  c::l,acc=>by
  simp only[Z9];exact(DC l _).trans (((Qcp acc c).append_left l).trans List.perm_middle)
theorem dW(l:List α):(Ek lt l).Perm l:=by
 have:=DC (lt:=lt) l [];rwa[Zw]at this
end
def Pt.m5(p:Pt):Pt:=⟨p.c,p.id % 5⟩
def Q0s(O:List Pt)(e:Nat):List Pt:=(O.take e).map Pt.m5
def cutN(O:List Pt)(e:Nat):List Pt:=(Q0s O e).map Pt.nrm
end Orr
namespace Orr
open Go
theorem fG(c:Int)(l:Um):Ta (l.map (· * c))=Ta l*c.natAbs:=by
 have key:∀(l:Um) (g:Nat),(l.map (· * c)).foldl (λg z=>Nat.gcd g z.natAbs) (g*c.natAbs)=l.foldl (λg z=>Nat.gcd g z.natAbs) g*c.natAbs:=by
  intro l
  induction l with
  |nil=>intro g;rfl
  |
   cons z l ih =>
   intro g;simp only[Z0,Z9,J9,Nat.gcd_mul_right];exact ih _
 have:=key l 0;rwa[Yl]at this
theorem AT{l:Um}{c:Int}(hc:c≠0)(ht:Fg l):Fg (l.map (· * c)):=by
 have h:=AG (l:=l.map (· * c)) (m:=l.length) (by simp) (λj y hj hy=>by rw[Qw (by simpa using hj)]at hy;cases hy) (λh0=>⟨l.getD (l.length-1) 0*c,by rw[Q7,Qcm (by omega)];rfl,X7 (H6 ht h0) hc⟩);unfold Fg;rw[h,Qm (by simp)]
theorem Qjc{k:Crv}(h:ZI k){c:Int}(hc:c<0):Crv.norm ⟨k.x.map (· * c),k.y.map (· * c),k.d*c⟩=k:=by
 obtain⟨hx,hy,hd,hg⟩:=h;obtain⟨K,hK⟩:∃K:Crv,K=⟨k.x.map (· * c),k.y.map (· * c),k.d*c⟩:=⟨_,rfl⟩;have hdc:k.d*c<0:=Y8 hd hc;have hd':K.d'=k.d*c:=by rw[hK];exact if_neg (by show ¬k.d*c=0;omega)
 have tx:trim K.x=k.x.map (· * c):=by rw[hK];exact AT (by omega) hx
 have ty:trim K.y=k.y.map (· * c):=by rw[hK];exact AT (by omega) hy
 have e:k.d*c::(k.x.map (· * c)++k.y.map (· * c))=(k.d::(k.x++k.y)).map (· * c):=by simp
 have hG:K.g=c:=by
  unfold Crv.g;rw[hd',tx,ty,if_pos hdc,e,fG,hg];omega
 have back:∀l:Um,(l.map (· * c)).map (· / c)=l:=λl=>by
  rw[List.map_map]
  conv=>rhs;rw[<-List.map_id l]
  exact Xk λz _=>Int.mul_ediv_cancel z (by omega)
 rw[<-hK];unfold Crv.norm;rw[hG,tx,ty,hd',back,back,Int.mul_ediv_cancel _ (by omega),show trim k.x=k.x from hx,show trim k.y=k.y from hy]
theorem Qs3{M:List Pt}(hs:Mp M){i j:Nat}{p r:Pt}(hij:i<j)(hi:M[i]? = some p)(hj:M[j]? = some r):p.id<r.id:=by
 obtain⟨h1,e1⟩:=Qf.1 hi;obtain⟨h2,e2⟩:=Qf.1 hj;rw[<-e1,<-e2];exact Yc.1 hs i j h1 h2 hij
theorem Qjy{M:List Pt}(hs:Mp M){i:Nat}{p:Pt}(h:M[i]? = some p):Rk M p.id=i :=
 TR (λj r hj hr=>Qs3 hs hj hr h) (.inr ⟨p,h,Int.lt_irrefl _⟩)
theorem Qvj{M:List Pt}(hs:Mp M){i:Nat}{p:Pt}(h:M[i]? = some p):has M p.id=true:=by
 unfold has;rw[Qjy hs h,h];exact decide_eq_true rfl
theorem Qh9{M:List Pt}{i:Nat}(hi:i<M.length):(M.take i++M.drop (i+1)).length+1=M.length:=by
 rw[Qu,Qp,Q8];omega
end Orr
namespace Orr
def S8(a b:Crv):Um:=A8 (Gm (Gp a b) (Gp a b)) (Gm (Gn a b) (Gn a b))
def Hq(a b c d:Crv):Um:=Nf (Fq (S8 c d) ((a.d*b.d)*(a.d*b.d))) (Fq (S8 a b) ((c.d*d.d)*(c.d*d.d)))
theorem rT{a b:Crv}(ha:Cb a)(hb:Cb b):Fg (S8 a b)/\(S8 a b).length<=31/\Bd 4194312 (S8 a b):=by
 obtain⟨_,l1,b1⟩:=rS ha hb;obtain⟨_,l2,b2⟩:=rR ha hb;have m1:=Tx (Gp a b) (Gp a b);have m2:=Tx (Gn a b) (Gn a b);have q1:=Po (u:=5) b1 b1 (by omega);have q2:=Po (u:=5) b2 b2 (by omega);refine⟨Fz _ _,?_,U6 (YY q1 q2) (by omega)⟩;have:=Oi (Gm (Gp a b) (Gp a b)) (Gm (Gn a b) (Gn a b));unfold S8;omega
theorem nL{a b:Crv}(ha:Cb a)(hb:Cb b):Ff (a.d*b.d)<=2097152:=by
 have:=Ga a.d b.d;have:=ha.d;have:=hb.d;omega
theorem aE{a b:Crv}(ha:Cb a)(hb:Cb b):Ff ((a.d*b.d)*(a.d*b.d))<=4194304:=by
 have:=Ga (a.d*b.d) (a.d*b.d);have:=nL ha hb;omega
def Bm(sg:Um->Int)(a b c d:Pt):Ct:=⟨5,a.id,b.id,c.id,d.id,Hq a.c b.c c.c d.c,Hk sg (Hq a.c b.c c.c d.c)⟩
theorem LM(sg:Um->Int)(a b c d:Pt):(Bm sg a b c d).p=Hq a.c b.c c.c d.c:=by rw[Bm]
def H8:Nat->List Pt->List (Pt×Pt)
 | 0,_=>[]
 |_+1,[]=>[]
 |k+1,x::l=>l.map (λy=>(x,y))++H8 k l
def Gt(l:List Pt):List (Pt×Pt):=H8 l.length l
theorem Lq:∀(l:List Pt) (i:Nat) (x:Pt),l[i]? = some x->H8 (i+1) l=H8 i l++(l.drop (i+1)).map (λy=>(x,y))
 | [],i,x,h=>by simp at h
 |
  y::l,0,x,h=>by
  simp at h;subst h;simp[H8]
 |
  y::l,i+1,x,h=>by
  have h:l[i]? = some x:=by simpa using h
  have ih:=Lq l i x h;show l.map (λz=>(y,z))++H8 (i+1) l=(l.map (λz=>(y,z))++H8 i l)++_;rw[ih,Zd];rfl
theorem S7:∀(k:Nat) (l:List Pt),∀m∈H8 k l,m.1∈l/\m.2∈l
 | 0,l,m,h=>by simp[H8]at h
 |k+1,[],m,h=>by simp[H8]at h
 |
  k+1,x::l,m,h=>by
  rcases Qq.1 h with h|h
  ·obtain⟨y,hy,rfl⟩:=Za.1 h;exact⟨Qy ..,Qg _ hy⟩
  ·obtain⟨h1,h2⟩:=S7 k l m h;exact⟨Qg _ h1,Qg _ h2⟩
theorem WF:∀(k:Nat) (l:List Pt),(H8 k l).length<=k*l.length
 | 0,l=>by simp[H8]
 |k+1,[]=>by simp[H8]
 |
  k+1,x::l=>by
  have:=WF k l;simp only[H8,Qu,Q9,Q5];have e:(k+1)*(l.length+1)=k*l.length+k+l.length+1:=by rw[X5,Xj];omega
  omega
def Ma(sg:Um->Int)(s m:Pt×Pt):Pt×Pt:=if Hk sg (Hq s.1.c s.2.c m.1.c m.2.c)<0 then m else s
def Ho(sg:Um->Int)(s:Pt×Pt)(ps:List (Pt×Pt)):Pt×Pt:=ps.foldl (Ma sg) s
theorem TJ(sg:Um->Int)(s m:Pt×Pt):Ma sg s m=m\/Ma sg s m=s:=by
 unfold Ma
 split
 ·exact .inl rfl
 ·exact .inr rfl
theorem ZJ(sg:Um->Int)(s m:Pt×Pt)(ps:List (Pt×Pt)):Ho sg s (m::ps)=Ho sg (Ma sg s m) ps:=by unfold Ho;rw[List.foldl_cons]
theorem yC(sg:Um->Int)(s:Pt×Pt)(ps:List (Pt×Pt))(m:Pt×Pt):Ho sg s (ps++[m])=Ma sg (Ho sg s ps) m:=by simp[Ho]
theorem Lm(sg:Um->Int){l:List Pt}:∀(ps:List (Pt×Pt)) (s:Pt×Pt),s.1∈l/\s.2∈l->(∀m∈ps,m.1∈l/\m.2∈l)->(Ho sg s ps).1∈l/\(Ho sg s ps).2∈l
 | [],s,hs,_=>hs
 |
  m::ps,s,hs,h=>by
  have hn:(Ma sg s m).1∈l/\(Ma sg s m).2∈l:=by
   rcases TJ sg s m with e|e
   ·rw[e];exact h m (Qy ..)
   ·rw[e];exact hs
  rw[ZJ];exact Lm sg ps (Ma sg s m) hn λx hx=>h x (Qg _ hx)
def ZS(s m:Pt×Pt):Bool:=decide (m.1.id≠s.1.id) || decide (m.2.id≠s.2.id)
def M7(sg:Um->Int)(s:Pt×Pt)(ps:List (Pt×Pt)):List Ct:=(ps.filter (ZS s)).map λm=>Bm sg s.1 s.2 m.1 m.2
theorem Qot{sg:Um->Int}{s m:Pt×Pt}{ps:List (Pt×Pt)}(h:ZS s m=true):M7 sg s (ps++[m])=M7 sg s ps++[Bm sg s.1 s.2 m.1 m.2]:=by simp[M7,Vk,h]
theorem Qos{sg:Um->Int}{s m:Pt×Pt}{ps:List (Pt×Pt)}(h:ZS s m=false):M7 sg s (ps++[m])=M7 sg s ps:=by simp[M7,Vk,h]
theorem OV{sg:Um->Int}{s:Pt×Pt}{ps:List (Pt×Pt)}{c:Ct}(h:c∈M7 sg s ps):∃x∈ps,Bm sg s.1 s.2 x.1 x.2=c:=by
 unfold M7 at h;obtain⟨x,hx,e⟩:=Za.1 h;exact⟨x,(Yi.1 hx).1,e⟩
theorem OY(sg:Um->Int)(s:Pt×Pt)(ps:List (Pt×Pt)):(M7 sg s ps).length<=ps.length:=by
 unfold M7;rw[Q9];exact Y0 _ _
def ZP(sg:Um->Int):List Pt->List Pt
 |a::b::l=>[(Ho sg (a,b) (Gt (a::b::l))).1,(Ho sg (a,b) (Gt (a::b::l))).2]
 |_=>[]
def Lp(sg:Um->Int):List Pt->List Ct
 |a::b::l=>M7 sg (Ho sg (a,b) (Gt (a::b::l))) (Gt (a::b::l))
 |_=>[]
theorem Qc8(sg:Um->Int){l:List Pt}(h:l.length<2):ZP sg l=[]/\Lp sg l=[]:=by
 match l,h with
 | [],_=>exact⟨rfl,rfl⟩
 | [a],_=>exact⟨rfl,rfl⟩
theorem Qw0{l:List Pt}(h:¬l.length<2):∃a b m,l=a::b::m:=by
 match l,h with
 | [],h=>simp at h
 | [a],h=>simp at h
 |a::b::m,_=>exact⟨a,b,m,rfl⟩
theorem qO(sg:Um->Int)(l:List Pt):(Lp sg l).length<=l.length*l.length:=by
 match l with
 | []=>simp[Lp]
 | [a]=>simp[Lp]
 |a::b::m=>exact Qa (OY _ _ _) (WF _ _)
def Io(l:List Un):Us:=l.map λr=>[.row (r.map λp=>[pl p])]
abbrev JB(r:Un):Us:=r.map λp=>[pl p]
theorem VQ(l:List Un):(Io l).length=l.length:=by simp[Io]
def JJ(i:Nat)(rows:List Un):Nat->List Un
 | 0=>[]
 |j+1=>if j=i then JJ i rows j else JJ i rows j++[(rows.getD j []).drop 1]
def VM(rows:List Un)(i:Nat):List Un:=JJ i rows rows.length
def Ds(f:Nat->Um)(rows:List Un):Nat->Um
 | 0=>[]
 |
  i+1=>if ((rows.getD i []).getD 0 []).length=0 then Ds f rows i else
  if i % 2=0 then A8 (Ds f rows i) (Gm ((rows.getD i []).getD 0 []) (f i))else Nf (Ds f rows i) (Gm ((rows.getD i []).getD 0 []) (f i))
def Lr:Nat->List Un->Um
 | 0,_=>[1]
 |k+1,rows=>Ds (λi=>Lr k (VM rows i)) rows (k+1)
structure Sq(s:Nat)(ds:List Nat)(k w:Nat)(rows:List (List (List Int))):Prop where
 l:rows.length=k
 w:∀r∈rows,r.length=w
 t:∀r∈rows,∀p∈r,Fg p
 b:∀r∈rows,∀p∈r,Bd s p
 n:∀r∈rows,∀(j:Nat) (p:List Int),r[j]? = some p->p.length≤ds.getD j 0+1
theorem LP{i:Nat}{rows:List Un}:∀{j:Nat} {r:Un},j≤rows.length->r∈JJ i rows j->∃q∈rows,r=q.drop 1
 | 0,r,_,h=>by simp[JJ]at h
 |
  j+1,r,hj,h=>by
  simp only[JJ]at h
  split at h
  ·exact LP (by omega) h
  ·rcases Qq.1 h with h|h
   ·exact LP (by omega) h
   ·rw[Qk.1 h];exact⟨rows.getD j [],Qc (i:=j) (by rw[Qi,Qe (by omega)];rfl),rfl⟩
theorem LR{i:Nat}{rows:List Un}:∀(j:Nat),(JJ i rows j).length=if i<j then j-1 else j
 | 0=>rfl
 |
  j+1=>by
  have ih:=LR (i:=i) (rows:=rows) j;simp only[JJ]
  split
  ·rename_i e;subst e;rw[ih,if_neg (by omega),if_pos (by omega)];omega
  ·rw[Qu,ih,Vs]
   split <;> split <;> omega
theorem Sq.min{s d k w:Nat}{ds:Uo}{rows:List Un}(h:Sq s (d::ds) (k+1) (w+1) rows){i:Nat}(hi:i<k+1):Sq s ds k w (VM rows i):=by
 have hl:=h.l;have hm:∀{r:Un},r∈VM rows i->∃q∈rows,r=q.drop 1:=λh=>LP (Ql _) h
 refine⟨by unfold VM;rw[LR,hl,if_pos hi];omega,λr hr=>?_,λr hr p hp=>?_,λr hr p hp=>?_,λr hr j p hp=>?_⟩
 ·obtain⟨q,hq,rfl⟩:=hm hr;rw[Q8,h.w q hq];omega
 all_goals obtain⟨q,hq,rfl⟩:=hm hr
 ·exact h.t q hq p (Qz hp)
 ·exact h.b q hq p (Qz hp)
 ·rw[Xc]at hp;have:=h.n q hq (1+j) p hp;rw[Ju 1 j]at this;exact this
theorem Sq.at{s d k w:Nat}{ds:Uo}{rows:List Un}(h:Sq s (d::ds) k (w+1) rows){i:Nat}(hi:i<k):∃p r,rows[i]? = some (p::r)/\(rows.getD i []).getD 0 []=p/\Fg p/\Bd s p/\p.length<=d+1:=by
 obtain⟨r,hr⟩:=gxE (l:=rows) (i:=i) (by rw[h.l];exact hi);have hm:=Qc hr;cases r with
 |nil=>have:=h.w _ hm;simp at this
 |
  cons p r =>
  have e:rows.getD i []=p::r:=by rw[Qi,hr];rfl
  refine⟨p,r,hr,by rw[e];rfl,h.t _ hm p (by simp),h.b _ hm p (by simp),h.n _ hm 0 p rfl⟩
theorem jS{s d k w:Nat}{ds:Uo}{f:Nat->Um}{rows:List Un}{B L:Nat}(h:Sq s (d::ds) k (w+1) rows)(hn:d<31)(hf:∀i,i<k->Bd B (f i)/\(f i).length<=L+1):∀i,i<=k->Fg (Ds f rows i)/\Bd (s+B+5+i) (Ds f rows i)/\(Ds f rows i).length<=d+L+1
 | 0,_=>⟨rfl,λz hz=>(by cases hz),Qh _⟩
 |
  i+1,hi=>by
  obtain⟨h1,h2,h3⟩:=jS h hn hf i (by omega);obtain⟨p,r,_,e,t,b,l⟩:=h.at (i:=i) (by omega);obtain⟨f1,f2⟩:=hf i (by omega);have hp1:Bd (s+B+5) (Gm p (f i)):=Po b f1 (by omega);have hp2:=Tx p (f i);simp only[Ds];rw[e]
  split
  ·exact⟨h1,U6 h2 (by omega),h3⟩
  ·split
   ·exact⟨Fz _ _,U6 (YY h2 hp1) (by omega),Qa (Oi _ _) (by omega)⟩
   ·exact⟨Fz _ _,U6 (Dx h2 hp1) (by omega),Qa (Nm _ _) (by omega)⟩
theorem NV{s:Nat}:∀(k:Nat) (ds:Uo) (rows:List Un),k<=4->ds.length=k->ds.sum<31->Sq s ds k k rows->Fg (Lr k rows)/\Bd (k*(s+10)+1) (Lr k rows)/\(Lr k rows).length<=ds.sum+1
 | 0,ds,rows,_,_,_,_=>⟨rfl,λz hz=>(by simp[Lr]at hz;subst hz;rw[Yl];decide),by simp[Lr]⟩
 |k+1,[],rows,_,hl,_,_=>by simp at hl
 |
  k+1,d::ds,rows,hk,hl,hd,h=>by
  rw[Ku]at hd;have ih:=λi (hi:i<k+1)=>NV k ds (VM rows i) (by omega) (by simpa using hl) (by omega) (h.min hi)
  obtain⟨h1,h2,h3⟩:=jS (f:=λi=>Lr k (VM rows i)) (B:=k*(s+10)+1) (L:=ds.sum) h (by omega) (λi hi=>⟨(ih i hi).2.1,(ih i hi).2.2⟩) (k+1) (Ql _);have e1:(k+1)*(s+10)=k*(s+10)+(s+10):=Xa ..;rw[Ku];exact⟨h1,U6 h2 (by omega),h3⟩
def rU(a b c:Crv):List Un:=[[a.x,a.y,[a.d]],[b.x,b.y,[b.d]],[c.x,c.y,[c.d]]]
def Hi(a b c:Crv):Um:=Lr 3 (rU a b c)
end Orr
