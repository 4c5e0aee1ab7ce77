/- T24 T25 G1 G2 SortL KinL K1 K2 F6 F7 F8 F9 G3 G4 K3 K4 S1 S2 S3 R5 R6 RefGL R7 RatOkL R8 -/
import Derived.Test.YtbnjginelkkonaaGreatPart07
import Derived.Test.YtbnjginelkkonaaGreatPart06
import Derived.Test.YtbnjginelkkonaaGreatPart05
set_option linter.all false
namespace Orq
open Orr Go
theorem Qwa:∀ {k:Nat} {a b:List Int} {l:List (List Int)},chF k a b=some l→∀ p∈l,p.length≠0
  | 0,_,_,_,h=>by cases h
  |
   k+1,a,b,l,h=>by
   simp only [chF] at h
   split at h
   · injection h with h; subst h; exact fun p hp=>by cases hp
   · rename_i h0
     obtain ⟨r,_,h⟩:=Option.bind_eq_some_iff.1 h
     obtain ⟨l',h1,h⟩:=Option.bind_eq_some_iff.1 h
     injection h with h; subst h
     intro p hp
     rcases List.mem_cons.1 hp with rfl | hp
     · exact h0
     · exact Qwa h1 p hp
theorem Okp.pb {n s:Nat} {p:List Int} (h:Okp n s p) (hs:s≤16777216):Pb p:=⟨h.t,by have:=h.l; have:=h.z.1; omega,Qc h.b hs⟩
theorem Qsg {p:List Int} {q:List Int} {l:List (List Int)} (hp:Pb p) (h:Hr p=some (q::l)) (hq:q.length≠0):∀ r∈q::l,Qi r∧r.length≠0:=by
  have h1:=(Orr.chain_ok hp h).2
  unfold Hr at h
  obtain ⟨a,_,h⟩:=Option.bind_eq_some_iff.1 h
  split at h
  · cases h
  · obtain ⟨d,_,h⟩:=Option.bind_eq_some_iff.1 h
    obtain ⟨l',h3,h⟩:=Option.bind_eq_some_iff.1 h
    injection h with h
    injection h with e1 e2
    subst e1; subst e2
    intro r hr
    refine ⟨(h1 r hr).t,?_⟩
    rcases List.mem_cons.1 hr with rfl | hr
    · exact hq
    · exact Qwa h3 r hr
inductive RI (q:List Int) (L:List (List Rat)):Rat→List Tm→Rat→Prop
  | nil {lo hi:Rat} (h:lo≤hi) (hv:vv L lo=vv L hi):RI q L lo [] hi
  | cons {lo hi:Rat} {t:Tm} {l:List Tm} (h:lo≤t.lo) (hv:vv L lo=vv L t.lo) (ht:Vt (cz q) L t.lo t.hi) (hp:t.p=q) (hl:RI q L t.hi l hi):RI q L lo (t::l) hi
theorem RI.app {q:List Int} {L:List (List Rat)} {lo m hi:Rat} {l l':List Tm} (h:RI q L lo l m) (h':RI q L m l' hi):RI q L lo (l++l') hi:=by
  induction h with
  |
   nil h hv =>
   cases h' with
   | nil h2 hv2=>exact .nil (by grind) (by omega)
   | cons h2 hv2 ht hp hl=>exact .cons (by grind) (by omega) ht hp hl
  | cons h hv ht hp _ ih=>exact .cons h hv ht hp (ih h')
theorem Qwc {D M k:Nat} {m:Rat} (h:Gr D M k m) (hM:0<M) (hs:Ql (D:Int)+Ql (M:Int)+k≤16777216):chq m=some m:=by
  have:=Qpm h hM hs
  unfold chq
  rw [if_pos ⟨this.1,this.2⟩]
theorem Ix {q:List Int} {c:List (List Int)} (hS:As (cz q) (c.map cz)) (tq:Qi q) (nq:q.length≤9) (hc1:q.length<2→c=[q]) {D M:Nat} (hM:0<M):∀ (k j:Nat) (lo hi:Rat),lo<hi→Gr D M j lo→Gr D M j hi→Ql (D:Int)+Ql (M:Int)+(j+k)≤16777216→(hi-lo)*((2^(Jq q q+1):Nat):Rat)≤((2^k:Nat):Rat) →
    ∃ l,Ge q c (k+1) lo hi ((vv (c.map cz) lo:Int)-(vv (c.map cz) hi:Int))=some l∧RI q (c.map cz) lo l hi∧∀ t∈l,∃ k',k'≤j+k∧Gr D M k' t.lo∧Gr D M k' t.hi:=by
  intro k
  induction k with
  |
   zero =>
   intro j lo hi hl g1 g2 hs hK
   have hle:=Gj hS hl
   have h2:vv (c.map cz) lo<vv (c.map cz) hi+2:=by
     rcases Nat.lt_or_ge (vv (c.map cz) lo) (vv (c.map cz) hi+2) with h | h
     · exact h
     · exfalso
       have lq:2≤q.length:=by
         rcases Nat.lt_or_ge q.length 2 with e | e
         · have hvv:∀ x,vv (c.map cz) x=vv (c.map cz) 0:=fun x=>by
             rcases hS with ⟨c0,hc0,hcc,hl'⟩ | ⟨g',l',k',hk,hg,hsc,hl'⟩
             · rw [hl']; simp only [vv,tc,hcc]
             · rw [hc1 e] at hl'; cases hl'
           rw [hvv lo,hvv hi] at h; omega
         · exact e
       have:=Q49 hS tq nq lq hl h
       rw [Nat.pow_zero] at hK
       have h7:((1:Nat):Rat)=1:=rfl
       rw [h7] at hK; grind
   simp only [Ge]
   by_cases e0:vv (c.map cz) lo=vv (c.map cz) hi
   · rw [if_pos (by omega)]
     exact ⟨[],rfl,.nil (Rat.le_of_lt hl) e0,fun t ht=>by cases ht⟩
   · rw [if_neg (by omega),if_pos (by omega)]
     refine ⟨[⟨q,lo,hi⟩],rfl,.cons Rat.le_refl rfl ⟨hS,hl,by show vv _ lo=vv _ hi+1; omega⟩ rfl (.nil Rat.le_refl rfl),fun t ht=>?_⟩
     rw [List.mem_singleton.1 ht]; exact ⟨j,by omega,g1,g2⟩
  |
   succ k ih =>
   intro j lo hi hl g1 g2 hs hK
   have hle:=Gj hS hl
   show ∃ l,(if (vv (c.map cz) lo:Int)-(vv (c.map cz) hi:Int)=0 then some [] else if (vv (c.map cz) lo:Int)-(vv (c.map cz) hi:Int)=1 then some [⟨q,lo,hi⟩] else (chq (mid lo hi)).bind fun m=>(Ge q c (k+1) lo m (Jc c lo m)).bind fun l=>(Ge q c (k+1) m hi ((vv (c.map cz) lo:Int)-(vv (c.map cz) hi:Int)-Jc c lo m)).bind fun r=>some (l++r))=some l∧_
   by_cases e0:vv (c.map cz) lo=vv (c.map cz) hi
   · rw [if_pos (by omega)]
     exact ⟨[],rfl,.nil (Rat.le_of_lt hl) e0,fun t ht=>by cases ht⟩
   by_cases e1:vv (c.map cz) lo=vv (c.map cz) hi+1
   · rw [if_neg (by omega),if_pos (by omega)]
     refine ⟨[⟨q,lo,hi⟩],rfl,.cons Rat.le_refl rfl ⟨hS,hl,e1⟩ rfl (.nil Rat.le_refl rfl),fun t ht=>?_⟩
     rw [List.mem_singleton.1 ht]; exact ⟨j,by omega,g1,g2⟩
   · rw [if_neg (by omega),if_neg (by omega)]
     obtain ⟨m,hm⟩:∃ m,m=(lo+hi) / 2:=⟨_,rfl⟩
     have h2:(lo+hi) / 2*2=lo+hi:=Zx (by decide)
     rw [←hm] at h2
     have gm:Gr D M (j+1) m:=by rw [hm]; exact Qxm g1 g2
     have l1:lo<m:=by grind
     have l2:m<hi:=by grind
     rw [Qmj,←hm,Qwc gm hM (by omega)]
     show ∃ l,((Ge q c (k+1) lo m (Jc c lo m)).bind fun l=>(Ge q c (k+1) m hi ((vv (c.map cz) lo:Int)-(vv (c.map cz) hi:Int)-Jc c lo m)).bind fun r=>some (l++r))=some l∧_
     rw [Ru (Rat.le_of_lt l1),show (vv (c.map cz) lo:Int)-(vv (c.map cz) hi:Int)-((vv (c.map cz) lo:Int)-(vv (c.map cz) m:Int))=(vv (c.map cz) m:Int)-(vv (c.map cz) hi:Int) by omega]
     rw [Qjw k] at hK
     have hp:∀ x y:Rat,(y-x)*2=hi-lo→(y-x)*((2^(Jq q q+1):Nat):Rat)≤((2^k:Nat):Rat):=fun x y h=>by
       have:(y-x)*((2^(Jq q q+1):Nat):Rat)*2=(hi-lo)*((2^(Jq q q+1):Nat):Rat):=by rw [←h]; grind
       grind
     obtain ⟨la,a1,a2,a3⟩:=ih (j+1) lo m l1 (Qdh g1) gm (by omega) (hp lo m (by grind))
     obtain ⟨lb,b1,b2,b3⟩:=ih (j+1) m hi l2 gm (Qdh g2) (by omega) (hp m hi (by grind))
     rw [a1]
     show ∃ l,((Ge q c (k+1) m hi ((vv (c.map cz) m:Int)-(vv (c.map cz) hi:Int))).bind fun r=>some (la++r))=some l∧_
     rw [b1]
     refine ⟨la++lb,rfl,a2.app b2,fun t ht=>?_⟩
     rcases List.mem_append.1 ht with ht | ht
     · obtain ⟨k',h1,h2,h3⟩:=a3 t ht; exact ⟨k',by omega,h2,h3⟩
     · obtain ⟨k',h1,h2,h3⟩:=b3 t ht; exact ⟨k',by omega,h2,h3⟩
theorem Q78 {D M k:Nat} {q:Rat} (h:Gr D M k q):Gr D M k (-q):=by
  obtain ⟨u,hu⟩:=h.u
  exact ⟨⟨-u,by rw [Rat.intCast_neg,←hu]; grind⟩,by rw [U7]; exact h.b,h.d⟩
theorem Qiy {m s:Nat} (h:m<2^s):Ql ((m+1:Nat):Int)≤s+1:=by
  rw [J3,Int.natAbs_natCast,Nat.pow_succ]; omega
theorem Qs3 {z:Int} {s:Nat} (h:Ql z≤s):Ql ((z.natAbs+1:Nat):Int)≤s+1:=Qiy (J3.1 h)
theorem Q4z {x:Rat} {m s g N:Nat} (hx:x≤2*((m+1:Nat):Rat)) (hm:m+1≤2^s) (hN:s+1+g≤N):x*((2^g:Nat):Rat)≤((2^N:Nat):Rat):=by
  have h3:=Rat.natCast_le_natCast.2 hm
  have e:=Qjw s
  have h4:(0:Rat)≤((2^s:Nat):Rat):=Rat.natCast_nonneg
  have h1:x≤((2^(s+1):Nat):Rat):=by rw [e]; grind
  have h5:(0:Rat)≤((2^g:Nat):Rat):=Rat.natCast_nonneg
  refine Rat.le_trans (Rat.mul_le_mul_of_nonneg_right h1 h5) ?_
  have h6:2^(s+1)*2^g≤2^N:=by
    rw [←Nat.pow_add]; exact Nat.pow_le_pow_right (by decide) hN
  have:=Rat.natCast_le_natCast.2 h6
  rw [Rat.natCast_mul] at this
  exact this
theorem Q1l {s:Nat} {l:List Int} (h:Bd s l):most l<2^s:=by
  have key:∀ (l:List Int) (m:Nat),m<2^s→Bd s l→l.foldl (fun m z=>if m<z.natAbs then z.natAbs else m) m<2^s:=by
    intro l
    induction l with
    | nil=>exact fun m h _=>h
    |
     cons y l ih =>
     intro m hm hb
     simp only [List.foldl_cons]
     refine ih _ ?_ fun z hz=>hb z (List.mem_cons_of_mem _ hz)
     have:=hb y (List.mem_cons_self ..)
     rw [J3] at this
     split <;> assumption
  exact key l 0 (Nat.pow_pos (by decide)) h
theorem Qzo {p:List Int} (h:Okp 9 900 p):∃ q c l,Vf p=some q∧Hr p=some c∧Qbn p=some l∧As (cz q) (c.map cz)∧RI q (c.map cz) (-Zz q) l (Zz q)∧(∀ t∈l,Va t)∧(∀ x y,x<y→Zz q≤x∨y≤-Zz q→vv (c.map cz) x=vv (c.map cz) y):=by
  obtain ⟨pp,hpl,hpb⟩:=h.pr
  obtain ⟨g,q',hq',sq⟩:=Mx h
  obtain ⟨q,l,q1,q2,hS,hl0⟩:=chain_ok h
  rw [hq'] at q1
  injection q1 with q1
  subst q1
  have e1:∀ t,Qh (Qo p) t=Qh q' t*Qh g t:=fun t=>by rw [sq.e]; grind
  obtain ⟨p1,p2⟩:=X8 pp.t pp.n e1
  have hll:=Vd sq.pq.t sq.pg.t pp.t e1 p1 p2
  have hl9:=h.l
  have bq:Bd 969 q':=S6 hpb (by omega) pp.t sq.pq.t sq.pg.t pp.n e1
  have hall:=Qsg (h.pb (by omega)) q2 sq.pq.n
  have hld:Qt q'≠0:=by have:=sq.pq.l; omega
  have hb1:=Lb hld
  -- the bound's size
  obtain ⟨D,hD⟩:∃ D,D=(Qt q').natAbs:=⟨_,rfl⟩
  obtain ⟨m,hm⟩:∃ m,m=most (q'.take (q'.length-1)):=⟨_,rfl⟩
  have hm2:m<2^969:=by rw [hm]; exact Q1l (s:=969) fun z hz=>bq z (List.mem_of_mem_take hz)
  have hD0:0<D:=by omega
  have hDs:Ql (D:Int)≤969:=by
    have:=Vq bq
    rw [J3] at this ⊢
    rw [Int.natAbs_natCast,hD]; exact this
  have hbe:=Of hld
  rw [←hD,←hm] at hbe
  have hDq:=nat_pos hD0
  have hbm:Zz q'≤((m+1:Nat):Rat):=by
    have hD1:(1:Rat)≤(D:Rat):=by
      have:((1:Nat):Rat)≤(D:Rat):=Rat.natCast_le_natCast.2 hD0
      exact this
    have hm0:(0:Rat)≤(m:Rat):=Rat.natCast_nonneg
    have h3:=Kt (a:=(m:Rat)) (c:=1) hm0 Rat.le_refl (by decide) hD1
    rcases Q7 (Zz q') ((m+1:Nat):Rat) with h' | h'
    · exact h'
    · exfalso
      have:=Rat.mul_lt_mul_of_pos_right h' hDq
      push_cast at this; grind
  have gb:Gr D (m+1) 0 (Zz q'):=by
    refine ⟨⟨(D+m:Nat),?_⟩,?_,hD0⟩
    · rw [Nat.pow_zero,Nat.mul_one,hbe]
      rw [show ((((D+m:Nat):Int)):Rat)=((D+m:Nat):Rat) from rfl]; push_cast; rfl
    · have:Qm (Zz q')=Zz q':=by unfold Qm; rw [if_neg (by grind)]
      rw [this]; exact hbm
  have hMs:Ql ((m+1:Nat):Int)≤970:=Qiy (s:=969) hm2
  have hK:(Zz q' - -Zz q')*((2^(Jq q' q'+1):Nat):Rat)≤((2^99999:Nat):Rat):=by
    have hps:=Rh bq
    have hg:Jq q' q'≤1964*31:=by
      unfold Jq
      exact Nat.mul_le_mul (by omega) (by omega)
    exact Q4z (s:=969) (g:=Jq q' q'+1) (N:=99999) (by grind) hm2 (by omega)
  have hN:Ql (D:Int)+Ql ((m+1:Nat):Int)+(0+99999)≤16777216:=by omega
  obtain ⟨ls,r1,r2,r3⟩:=Ix hS sq.pq.t (by omega) (fun h=>by rw [hl0 h]) (Nat.succ_pos m) 99999 0 (-Zz q') (Zz q') (by grind) (Q78 gb) gb hN hK
  have hchq:chq (Zz q')=some (Zz q'):=Qwc gb (Nat.succ_pos m) (by omega)
  refine ⟨q',q'::l,ls,hq',q2,?_,hS,r2,fun t ht=>?_,fun x y hxy hb=>Qnu hS sq.pq.t sq.pq.n hxy hb (by grind)⟩
  · unfold Qbn
    rw [q2,hq']
    show (chq (Zz q')).bind _=_
    rw [hchq]
    show Ge q' (q'::l) 100000 (-Zz q') (Zz q') (P0 (q'::l))=_
    rw [Qto hS hall]
    exact r1
  · obtain ⟨k',k1,k2,k3⟩:=r3 t ht
    have hmem:∀ {lo hi:Rat} {ls:List Tm},RI q' ((q'::l).map cz) lo ls hi→t∈ls→Vt (cz q') ((q'::l).map cz) t.lo t.hi∧t.p=q':=fun h=>by
      induction h with
      | nil=>intro ht; cases ht
      |
       cons h hv ht' hp hl ih =>
       intro ht
       rcases List.mem_cons.1 ht with rfl | ht
       · exact ⟨ht',hp⟩
       · exact ih ht
    obtain ⟨v1,v2⟩:=hmem r2 ht
    have lq2:2≤q'.length:=by
      rcases Nat.lt_or_ge q'.length 2 with e | e
      · exfalso
        have hvv:∀ x,vv ((q'::l).map cz) x=0:=fun x=>by
          rw [hl0 e,sq.pq.one e]
          have hv1:∀ x:Rat,ev (cz [1]) x=1:=fun x=>by rw [Qg,V0]
          simp only [List.map_cons,List.map_nil,vv,tc,hv1]
          have:Qp 1=1:=by decide
          rw [this]; decide
        have:=v1.v
        rw [hvv,hvv] at this; omega
      · exact e
    refine ⟨.inr ⟨_,by rw [v2]; exact v1⟩,by rw [v2]; exact sq.pq.t,by rw [v2]; omega,by rw [v2]; exact lq2,by rw [v2]; exact Qc bq (by omega),D,m+1,k',k2,k3,Nat.succ_pos m,by omega⟩
theorem Uw {q:List Int} {L:List (List Rat)} (hS:As (cz q) L) {c:Rat→Int} (hc:Cut c) {lo:Rat} (hH:∀ z,c z=-1→z≤lo→vv L z=vv L lo) {y0:Rat} (hy:c y0=-1) (hv:∀ z,lo<z→z≤y0→vv L z=vv L lo):∃ s,s≠0∧∀ z,c z=-1→z≤y0→Qp (ev (cz q) z)=s:=by
  have hall:∀ z,c z=-1→z≤y0→vv L z=vv L lo:=fun z h1 h2=>by
    rcases Q7 z lo with e | e
    · exact hH z h1 e
    · exact hv z e h2
  have hne:∀ z,c z=-1→z≤y0→Qp (ev (cz q) z)≠0:=fun z h1 h2=>by
    obtain ⟨w,w1,w2⟩:=hc.dn z h1
    have:=Qg8 hS w1 (by rw [hall w w2 (by grind),hall z h1 h2])
    rw [this.s]; exact this.n
  refine ⟨Qp (ev (cz q) y0),hne y0 hy Rat.le_refl,fun z h1 h2=>?_⟩
  rcases Classical.em (z=y0) with e | e
  · rw [e]
  · have:=Qg8 hS (x:=z) (y:=y0) (by grind) (by rw [hall z h1 h2,hall y0 hy Rat.le_refl])
    rw [this.s,Fx (hne z h1 h2)]
structure Fst (o:List Int) (a t:Tm):Prop where
  lt:Un a t
  s:∃ s,s≠0∧(∀ z,Q3 a z=-1→Q3 t z=1→Qp (ev (cz o) z)=s)∧RS (cz o) (Q3 t) (-s)
def Non (o:List Int) (a:Tm):Prop:=∃ s,s≠0∧∀ z,Q3 a z=-1→Qp (ev (cz o) z)=s
theorem Qtb {q:List Int} {L:List (List Rat)} (hS:As (cz q) L) {a:Tm} (ha:Va a) {lo hi:Rat} {l:List Tm} (hR:RI q L lo l hi):(∀ t∈l,Va t)→(∀ z,hi<z→vv L z=vv L hi)→(∀ z,Q3 a z=-1→z≤lo→vv L z=vv L lo)→∃ r,Nf a l=some r∧match r with
    | none=>Non q a
    | some t=>t∈l∧Fst q a t:=by
  have ca:=ha.cut
  induction hR with
  |
   @nil lo hi h hv =>
   intro _ hhi hH
   refine ⟨none,rfl,?_⟩
   obtain ⟨y1,hy1⟩:=ca.hi
   have hall:∀ z,lo<z→vv L z=vv L lo:=fun z hz=>by
     rcases Q7 z hi with e | e
     · have h1:=Gj hS hz
       have h2:vv L hi≤vv L z:=by
         rcases Classical.em (z=hi) with e' | e'
         · rw [e']; exact Nat.le_refl _
         · exact Gj hS (by grind)
       omega
     · rw [hhi z e,hv]
   obtain ⟨s,s0,hs⟩:=Uw hS ca hH hy1 fun z h1 _=>hall z h1
   refine ⟨s,s0,fun z hz=>?_⟩
   rcases Q7 z y1 with e | e
   · exact hs z hz e
   · obtain ⟨s',s0',hs'⟩:=Uw hS ca hH hz fun z h1 _=>hall z h1
     rw [hs' z hz Rat.le_refl,←hs' y1 hy1 (Rat.le_of_lt e),hs y1 hy1 Rat.le_refl]
  |
   @cons lo hi t l h hv ht hp hl ih =>
   intro hV hhi hH
   have hvt:=hV t (List.mem_cons_self ..)
   have ct:=hvt.cut
   have ht':=ht
   rw [←hp] at ht'
   have ect:∀ z,Q3 t z=cq (cz t.p) t.lo t.hi z:=Ko ht.l
   obtain ⟨c,c1,c2⟩:=B8 hvt ha
   show ∃ r,((Li t a).bind fun c=>if 0<c then some (some t) else Nf a l)=some r∧_
   rw [c1]
   show ∃ r,(if 0<c then some (some t) else Nf a l)=some r∧_
   have hlo1:Q3 t t.lo=1:=by rw [ect]; exact Fo Rat.le_refl
   have hlow:∀ z,lo<z→Q3 t z=1→vv L z=vv L lo:=fun z h1 h2=>by
     rcases Q7 z t.lo with e | e
     · have a1:=Gj hS h1
       have a2:vv L t.lo≤vv L z:=by
         rcases Classical.em (z=t.lo) with e' | e'
         · rw [e']; exact Nat.le_refl _
         · exact Gj hS (by grind)
       omega
     · rw [ect] at h2
       have hz:z≤t.hi:=by
         rcases Q7 z t.hi with e' | e'
         · exact e'
         · rw [Ca ht.l e'] at h2; omega
       rw [ht'.eq_lo e hz h2,hv]
   by_cases hc:0<c
   · rw [if_pos hc]
     refine ⟨some t,rfl,List.mem_cons_self ..,?_⟩
     have hlt:Un a t:=by
       rcases c2 with ⟨e,_⟩ | ⟨e,_⟩ | ⟨_,h⟩
       · omega
       · omega
       · exact h
     refine ⟨hlt,?_⟩
     obtain ⟨m,m1,m2⟩:=hlt
     obtain ⟨s,s0,hs⟩:=Uw hS ca hH m1 fun z h1 h2=>hlow z h1 (by
       rcases Classical.em (z=m) with e | e
       · rw [e]; exact m2
       · exact ct.mono' (q:=z) (r:=m) (by grind) (by omega))
     have hall:∀ z,Q3 a z=-1→Q3 t z=1→Qp (ev (cz q) z)=s:=fun z h1 h2=>by
       rcases Q7 z m with e | e
       · exact hs z h1 e
       · obtain ⟨s',s0',hs'⟩:=Uw hS ca hH h1 fun w w1 w2=>hlow w w1 (by
           rcases Classical.em (w=z) with e | e
           · rw [e]; exact h2
           · exact ct.mono' (q:=w) (r:=z) (by grind) (by omega))
         rw [hs' z h1 Rat.le_refl,←hs' m m1 (Rat.le_of_lt e),hs m m1 Rat.le_refl]
     refine ⟨s,s0,hall,?_⟩
     -- Q8c behind t
     obtain ⟨w,w1,w2,w3⟩:=O3 ct m2 hlo1
     have hwa:Q3 a w=-1:=ca.mono m w w2 (by omega)
     have hsw:=hall w hwa w1
     have hwh:w<t.hi:=by
       rw [ect] at w1
       rcases Q7 t.hi w with e | e
       · have:=ht'.hi1
         rcases Classical.em (t.hi=w) with e' | e'
         · rw [←e'] at w1; exact absurd w1 this
         · rw [Ca ht.l (by grind)] at w1; omega
       · exact e
     have hww:vv L w=vv L t.lo:=ht'.eq_lo w3 (Rat.le_of_lt hwh) (by rw [←ect]; exact w1)
     have hvv:=ht.v
     have hone:=Qg7 hS hwh (by omega)
     have hlw:Yf (cz q) w=s:=by rw [Fx (by rw [hsw]; exact s0),hsw]
     rw [hlw] at hone
     have hd:∀ z,w<z→z≤t.hi→Q3 t z=-1→Qp (ev (cz q) z)=-s:=fun z z1 z2 z3=>by
       rw [ect] at z3
       have e1:=ht'.eq_hi (by grind) z2 (by omega)
       have e2:=Qg7 hS z1 (by omega)
       rw [hlw] at e2
       have hz0:Qp (ev (cz q) z)≠0:=by
         rw [G9 (by grind) z2,hp] at z3
         intro h0
         rw [if_pos h0] at z3; omega
       rw [Fx hz0] at e2; exact e2.2
     rcases ct.val t.hi with e | e | e
     · rw [ect] at e; exact absurd e ht'.hi1
     · obtain ⟨d,dp,hd'⟩:=Q8c (p:=cz q) (x:=t.hi) (by rw [hone.2]; omega)
       refine ⟨t.hi+d,ct.mono t.hi _ (by grind) (by omega),fun z h1 h2=>?_⟩
       have hz:t.hi<z:=by
         rcases Q7 z t.hi with e' | e'
         · rcases Classical.em (z=t.hi) with e'' | e''
           · rw [e''] at h1; omega
           · have:=ct.mono z t.hi (by grind) (by omega); omega
         · exact e'
       rw [hd' z hz (by grind),hone.2]
     · exact ⟨t.hi,e,fun z h1 h2=>hd z (ct.lt w1 h1) h2 h1⟩
   · rw [if_neg hc]
     have hle:¬Un a t:=fun h=>by
       rcases c2 with ⟨e,h'⟩ | ⟨e,h'⟩ | ⟨e,_⟩
       · exact Pm ct ca h' h
       · obtain ⟨z,z1,z2⟩:=h
         have:=h' z; omega
       · omega
     obtain ⟨r,r1,r2⟩:=ih (fun x hx=>hV x (List.mem_cons_of_mem _ hx)) hhi fun z z1 z2=>by
       -- z lies behind a,so behind t
       have hz:Q3 t z≠1:=fun h=>hle ⟨z,z1,h⟩
       have hzl:t.lo<z:=by
         rcases Q7 z t.lo with e | e
         · refine absurd ?_ hz
           rw [ect]; exact Fo e
         · exact e
       exact ht'.eq_hi hzl z2 (by rw [←ect]; exact hz)
     refine ⟨r,r1,?_⟩
     cases r with
     | none=>exact r2
     | some x=>exact ⟨List.mem_cons_of_mem _ r2.1,r2.2⟩
end Orq

namespace Orq
open Orr Go
theorem Q6k {c:Rat→Int} (hc:Cut c):∀ (n:Nat) (f:List Rat),HD f n→∃ s,s≠0∧RS f c s
  |
   n,f,h=>by
   rcases Ma hc f with hv | ⟨s,hs,hn⟩
   · cases n with
     |
      zero =>
      exfalso
      obtain ⟨q,hq,_⟩:=Qjb hc (hv (Qm (f.getD 0 0)) (K5 h.1))
      cases f with
      | nil=>exact h.1 (by simp)
      |
       cons a l =>
       have:=Ue (p:=l) fun k=>by have:=h.2 (k+1) (by omega); rwa [List.getD_cons_succ] at this
       simp only [ev,this,List.getD_cons_zero] at hq; grind
     |
      succ n =>
      have hd:HD (V5 f) n:=by
        have key:∀ (f:List Rat) (k:Nat),(V5 f).getD k 0=((k+1:Nat):Rat)*f.getD (k+1) 0:=by
          intro f
          induction f with
          | nil=>intro k; simp only [V5,List.getD_nil]; grind
          |
           cons a f ih =>
           intro k
           simp only [V5]
           rw [Xv,List.getD_cons_succ]
           cases k with
           | zero=>rw [List.getD_cons_zero]; push_cast; grind
           | succ k=>rw [List.getD_cons_succ,ih]; push_cast; grind
        refine ⟨fun h0=>?_,fun k hk=>by rw [key,h.2 (k+1) (by omega)]; grind⟩
        rw [key] at h0
        rcases Rat.mul_eq_zero.1 h0 with h1 | h1
        · have:=nat_pos (show 0<n+1 by omega); grind
        · exact h.1 h1
      obtain ⟨s,hs,h1⟩:=Q6k hc n (V5 f) hd
      exact ⟨s,hs,Qgn hc hv h1 hs⟩
   · exact ⟨s,hs,Qd8 hc hn⟩
theorem Qzq {c:Rat→Int} (hc:Cut c) {f p q:List Rat} {s s':Int} (hf:∀ t,ev f t=ev p t*ev q t) (h:RS p c s) (h':RS q c s'):RS f c (s*s'):=by
  obtain ⟨y,h1,h2⟩:=h
  obtain ⟨y',h3,h4⟩:=h'
  refine ⟨if y≤y' then y else y',by split <;> assumption,fun z z1 z2=>?_⟩
  rw [hf,Jx,h2 z z1 (by clear h2 h4; grind),h4 z z1 (by clear h2 h4; grind)]
theorem Qzr {c:Rat→Int} (hc:Cut c) {f o S:List Rat} {k:Rat} (hk:k≠0) (hf:∀ t,ev f t=k*(ev o t*(ev S t*ev S t))) (hnz:¬∀ t,ev f t=0) {s:Int} (h:RS o c s):RS f c (Qp k*s):=by
  obtain ⟨n,_,hn⟩:∃ n,n<S.length∧HD S n:=by
    rcases Qat S with h1 | h1
    · exact absurd (fun t=>by rw [hf,h1]; grind) hnz
    · exact h1
  obtain ⟨s',hs',h'⟩:=Q6k hc n S hn
  have h1:=Qzq hc (f:=Zq S S) (fun t=>Qk t _ _) h' h'
  have h2:=Qzq hc (f:=Zq o (Zq S S)) (fun t=>Qk t _ _) h h1
  have hsq:s'*s'=1:=by
    obtain ⟨y,y1,y2⟩:=h'
    have:=y2 y y1 Rat.le_refl
    rcases Ze (ev S y) with ⟨e,_⟩ | ⟨e,_⟩ | ⟨e,_⟩
    · rw [←this,e]; rfl
    · omega
    · rw [←this,e]; rfl
  rw [hsq,Int.mul_one] at h2
  obtain ⟨y,y1,y2⟩:=h2
  exact ⟨y,y1,fun z z1 z2=>by
    have:=y2 z z1 z2
    rw [Qk,Qk] at this
    rw [hf,Jx,this]⟩
structure Cp (p:List Int):Prop where
  t:Qi p
  l:p.length≤9
  b:Bd 800 p
theorem Cp.dp {p:List Int} (h:Cp p):Dp p:=⟨h.t,h.l,Qc h.b (by omega)⟩
theorem Cp.ok {p:List Int} (h:Cp p) (h0:p.length≠0):Okp 9 900 p:=h.dp.ok h0
def Leq (a:Tm) (c:Rat→Int):Prop:=∀ q,c q=-1→Q3 a q=-1
def Ut (p:List Int) (a:Tm):Option Tm→Prop
  | none=>p=[]∨∃ s,s≠0∧∀ c,Cut c→Leq a c→RS (cz p) c s
  | some t=>p≠[]∧Va t∧Un a t∧∃ s,s≠0∧(∀ c,Cut c→Leq a c→(∃ m,c m=-1∧Q3 t m=1)→RS (cz p) c s)∧RS (cz p) (Q3 t) (-s)
theorem RI.len {q:List Int} {L:List (List Rat)} {lo hi:Rat} {l:List Tm} (h:RI q L lo l hi):l.length+vv L hi≤vv L lo:=by
  induction h with
  | nil h hv=>simp; omega
  | cons h hv ht hp hl ih=>have:=ht.v; simp only [List.length_cons]; omega
theorem Q0n (x:Rat):∀ (L:List (List Rat)) (s:Int),tc x s L≤L.length
  | [],_=>Nat.le_refl _
  |
   f::l,s=>by
   have h1:=Q0n x l
   simp only [tc,List.length_cons]
   repeat' split
   all_goals (first | (have:=h1 s; omega) | (have:=h1 (Qp (ev f x)); omega))
theorem Q9o (L:List (List Rat)) (x:Rat):vv L x≤L.length:=Q0n x L 0
theorem P9 {p:List Int} (h:Cp p):∃ l,Bm p=some l∧l.length≤67∧(∀ t∈l,Va t)∧∀ a,Va a→∃ r,Nf a l=some r∧Ut p a r∧∀ t,r=some t→t∈l:=by
  unfold Bm
  by_cases h0:p.length=0
  · have e:p=[]:=List.eq_nil_of_length_eq_zero h0
    subst e
    exact ⟨[],rfl,by decide,(fun t ht=>by cases ht),fun a _=>⟨none,rfl,.inl rfl,fun t ht=>by cases ht⟩⟩
  · obtain ⟨qp,o,q1,o1,hpt⟩:=Qyi (n:=9) (s:=800) (p:=p) ⟨⟨by decide,by decide⟩,h.t,h0,h.l,h.b⟩
    obtain ⟨g,sq⟩:=hpt.sq
    obtain ⟨S,hS⟩:=hpt.os
    obtain ⟨p1,p2,p3,p4,p5,p6,p7⟩:=Ky h.t h0
    have hpl:=h.l
    obtain ⟨hh,th,eh⟩:=hpt.oh
    have bo:Bd 869 o:=S6 (p5 800 h.b) (by omega) p1 hpt.ot th (by omega) eh
    obtain ⟨lo1,lo2⟩:=X8 p1 (by omega) eh
    have hlen:=Vd hpt.ot th p1 eh lo1 lo2
    have oko:Okp 9 900 o:=⟨Qqi,hpt.ot,by omega,by omega,Qc bo (by omega)⟩
    obtain ⟨q,c,l,r1,r2,r3,hSt,hRI,hVa,hout⟩:=Qzo oko
    obtain ⟨g',q',s1,s2⟩:=Mx oko
    rw [r1] at s1
    injection s1 with s1
    subst s1
    obtain ⟨_,_,_,_,_,o6,o7⟩:=Ky hpt.ot (by omega)
    -- o has no multiple Qbn
    have hg1:g'=[1]:=by
      refine s2.pg.one ?_
      obtain ⟨E,hE⟩:=hpt.oq
      have hE:∀ t,Qh qp t=Qh o t*ev E t:=fun t=>by have:=hE t; rwa [Qg,Qg] at this
      obtain ⟨z,hz⟩:=s2.d
      have hd1:∀ t,Qh o t=Qh g' t*(Z9 o*Qh q t):=fun t=>by rw [o7,s2.e]; grind
      have hdo:∀ t,dv (cz o) t=Qh g' t*(Z9 o*ev z t):=fun t=>by
        have:=Qws (p:=cz o) (q:=W8 (Z9 o) (cz (Qo o))) (fun t=>by rw [Qg,Zc,Qg,o7]) t
        rw [this,Lo,hz]; grind
      obtain ⟨k,hk,hkk⟩:=sq.num (d:=cz g') ⟨Zq (W8 (Z9 o) (cz q)) E,fun t=>by rw [Qg,Qg,hE,hd1,Qk,Zc,Qg]; grind⟩ ⟨Jw (Zq (W8 (Z9 o) z) E) (Zq (W8 (Z9 o) (cz q)) (V5 E)),fun t=>by
        have:=Tg (f:=cz qp) (w:=cz o) (u:=E) (fun t=>by rw [Qg,Qg,hE]) t
        rw [Jd,this,hdo,Qg,Qg,hd1,Zm,Qk,Qk,Zc,Zc,Jd,Qg]; grind⟩
      rcases Nat.lt_or_ge g'.length 2 with e | e
      · exact e
      · exfalso
        have h1:=(Aa s2.pg.t (by omega)).1
        have h2:=W4 (p:=cz g') (q:=[k]) (fun t=>by rw [hkk]; simp only [ev]; grind) (g'.length-1)
        rw [h2,List.getD_eq_getElem?_getD,List.getElem?_eq_none (by simp; omega)] at h1
        exact h1 rfl
    have hpq:∀ t,ev (cz p) t=((Z9 p:Rat)*(Z9 o:Rat))*(ev (cz q) t*(ev S t*ev S t)):=fun t=>by
      rw [Qg,Qg,p7,hS,o7,s2.e,hg1,V0]; grind
    have hk0:(Z9 p:Rat)*(Z9 o:Rat)≠0:=fun h=>(Rat.mul_eq_zero.1 h).elim (Pd p6) (Pd o6)
    have hpz:¬∀ t,ev (cz p) t=0:=fun h'=>E5 h.t (by omega) fun t=>by rw [←Qg]; exact h' t
    obtain ⟨k,hk⟩:∃ k,k=Qp ((Z9 p:Rat)*(Z9 o:Rat)):=⟨_,rfl⟩
    have hkn:k≠0:=fun h=>hk0 (Zg.1 (by rw [←hk]; exact h))
    have ho:o.length≠0:=by omega
    rw [o1]
    show ∃ l,(if o.length=0 then some [] else Qbn o)=some l∧l.length≤67∧_
    rw [if_neg ho]
    have hb1:=Lb (U3 s2.pq.t s2.pq.n)
    have hll:=hRI.len
    have hlv:=Q9o (c.map cz) (-Zz q)
    have hcl:=(Orr.chain_ok (p:=o) ⟨hpt.ot,by omega,Qc bo (by omega)⟩ r2).1
    rw [List.length_map] at hlv
    refine ⟨l,r3,by omega,hVa,fun a ha=>?_⟩
    obtain ⟨r,n1,n2⟩:=Qtb hSt ha hRI hVa (fun z hz=>(hout _ _ hz (.inl Rat.le_refl)).symm) fun z _ hz=>by
      rcases Classical.em (z=-Zz q) with e | e
      · rw [e]
      · exact hout z _ (by grind) (.inr Rat.le_refl)
    refine ⟨r,n1,?_,fun t ht=>by subst ht; exact n2.1⟩
    cases r with
    |
     none =>
     obtain ⟨s,hs,hz⟩:=n2
     refine .inr ⟨k*s,Int.mul_ne_zero hkn hs,fun c hc hac=>?_⟩
     obtain ⟨y,hy⟩:=hc.hi
     have h1:RS (cz q) c s:=⟨y,hy,fun z z1 _=>hz z (hac z z1)⟩
     rw [hk]; exact Qzr hc hk0 hpq hpz h1
    |
     some t =>
     obtain ⟨hm,hlt,s,hs,hz,hrs⟩:=n2
     refine ⟨fun e=>h0 (by rw [e]; rfl),hVa t hm,hlt,k*s,Int.mul_ne_zero hkn hs,fun c hc hac ⟨m,m1,m2⟩=>?_,?_⟩
     · have h1:RS (cz q) c s:=⟨m,m1,fun z z1 z2=>hz z (hac z z1) (by
         rcases Classical.em (z=m) with e | e
         · rw [e]; exact m2
         · exact (hVa t hm).cut.mono' (q:=z) (r:=m) (by grind) (by omega))⟩
       rw [hk]; exact Qzr hc hk0 hpq hpz h1
     · have:=Qzr (hVa t hm).cut hk0 hpq hpz hrs
       rw [←hk] at this
       rw [show -(k*s)=k*-s by rw [Int.mul_neg]]; exact this
theorem Qyd {p:List Int} (h:Cp p) {a:Tm} (ha:Va a):∃ r,Ag p a=some r∧Ut p a r:=by
  obtain ⟨l,l1,_,_,l3⟩:=P9 h
  obtain ⟨r,r1,r2,_⟩:=l3 a ha
  refine ⟨r,?_,r2⟩
  unfold Ag
  rw [l1]; exact r1
theorem Ea:∀ (l:List Tm) (b:Tm),(∀ t∈b::l,Va t)→∃ m,Tn b l=some m∧m∈b::l∧∀ t∈b::l,¬Un t m
  |
   [],b,h=>⟨b,rfl,List.mem_cons_self ..,fun t ht h'=>by
   rw [List.mem_singleton.1 ht] at h'
   have hb:=(h b (List.mem_cons_self ..)).cut
   exact Pm hb hb h' h'⟩
  |
   a::l,b,h=>by
   have ha:=h a (by simp)
   have hb:=h b (by simp)
   obtain ⟨c,c1,c2⟩:=B8 ha hb
   obtain ⟨m,m1,m2,m3⟩:=Ea l (if c<0 then a else b) fun t ht=>by
     rcases List.mem_cons.1 ht with rfl | ht
     · split <;> assumption
     · exact h t (by simp [ht])
   refine ⟨m,by simp only [Tn]; rw [c1]; exact m1,?_,fun t ht=>?_⟩
   · rcases List.mem_cons.1 m2 with e | e
     · rw [e]; split <;> simp
     · simp [e]
   · have hm:Va m:=by
       rcases List.mem_cons.1 m2 with e | e
       · rw [e]; split <;> assumption
       · exact h m (by simp [e])
     have hfst:=m3 _ (List.mem_cons_self ..)
     -- what is not less stays so
     have tr:∀ x y:Tm,Va x→Va y→¬Un x y→¬Un y m→¬Un x m:=fun x y hx hy h1 h2 h3=>by
       rcases tri hy.cut hm.cut with h4 | h4 | h4
       · exact h2 h4
       · obtain ⟨q,q1,q2⟩:=h3
         exact h1 ⟨q,q1,by rw [h4]; exact q2⟩
       · obtain ⟨q,q1,q2⟩:=h3
         obtain ⟨r,r1,r2⟩:=h4
         have:=hm.cut.lt q2 r1
         exact h1 ⟨q,q1,hy.cut.mono' this (by omega)⟩
     rcases List.mem_cons.1 ht with rfl | ht
     · by_cases hc:c<0
       · rw [if_pos hc] at hfst
         refine tr _ a hb ha ?_ hfst
         rcases c2 with ⟨_,h'⟩ | ⟨e,_⟩ | ⟨e,_⟩
         · exact fun h''=>Pm ha.cut hb.cut h' h''
         · omega
         · omega
       · rw [if_neg hc] at hfst; exact hfst
     · rcases List.mem_cons.1 ht with rfl | ht
       · by_cases hc:c<0
         · rw [if_pos hc] at hfst; exact hfst
         · rw [if_neg hc] at hfst
           refine tr _ b ha hb ?_ hfst
           rcases c2 with ⟨e,_⟩ | ⟨_,h'⟩ | ⟨_,h'⟩
           · omega
           · rintro ⟨q,q1,q2⟩
             have:=h' q; omega
           · exact fun h''=>Pm ha.cut hb.cut h'' h'
       · exact m3 t (by simp [ht])
end Orq

namespace Orr
open Go Go.Proofs Orq
set_option maxRecDepth 10000
theorem Dp.pb {p:List Int} (h:Dp p):Pb p:=⟨h.t,by have:=h.l; omega,Qc h.b (by have:=h.l; omega)⟩
theorem Zad {p:List Int} {a:Tm} (hp:Dp p) (ha:Va a):Qd Tryz.prog 181 [pr p,.agg (ta a)] [.one (.int .i64 (Jj a p))]:=Q1n (Dp.pb hp) ha.tb (Qz1 hp ha).1
theorem Q96 {p:List Int} {a:Tm} (hp:Dp p) (ha:Va a):Qd Tryz.prog 180 [pr p,.one (.sh (ta a))] [.one (.int .i64 (Jj a p))]:=w tt Tryz.func180 rfl [.c [] (Zad hp ha)] rfl rfl trivial
theorem Q2c {p:List Int} {fid:Nat} {l1:List LV} {sgn:List Int→Int} (hp:Dp p) (h:∀ p,Dp p→Qd Tryz.prog fid [pr p,.one (.sh l1)] [.one (.int .i64 (sgn p))]):Qd Tryz.prog 179 [pr p,.one (.fn fid [] [.sh l1])] [.one (.int .i64 (Ya sgn p.length p))]:=by
  have hpb:=Dp.pb hp
  refine Z7 Tryz.func179 rfl ?_
  refine go tt [.c [] (X1 hpb.t hpb.ln hpb.bd)] rfl trivial ?_
  refine lp (S:=List Int) 0 (fun L1 s=>(0,.v (pr s))::L1) (fun _=>[]) (fun s=>s.length) (fun s=>Dp s∧Ya sgn s.length s=Ya sgn p.length p) p ⟨hp,rfl⟩ rfl (fun _ _=>rfl) rfl fun r ⟨j1,j4⟩=>?_
  rw [←j4]
  have jb:=Dp.pb j1
  by_cases h0:r.length=0
  · have e:=E9 sgn h0
    rw [e]
    exact en tt [.f (by simp; exact List.eq_nil_of_length_eq_zero h0)] rfl rfl trivial
  · have hs:=h r j1
    by_cases hz:sgn r=0
    · have hlp:=Yx r
      refine go tt [.t (by simp; omega),.c [] hs,.f (by simpa using hz),.c [] (Hp jb.ln jb.bd)] rfl trivial ?_
      exact rd (Zo r) (by omega) ⟨j1.der,by rw [←E8 sgn (by omega) hz]⟩ rfl
    · rw [E7 sgn (by omega) hz]
      exact en tt [.t (by simp; omega),.c [] hs,.t (by simpa using hz)] rfl rfl trivial
abbrev gmA (a:Tm) (p:List Int):Int:=Up (Jj a) p
theorem Q5v {p:List Int} {a:Tm} (hp:Dp p) (ha:Va a):Qd Tryz.prog 129 [pr p,.agg (ta a)] [.one (.int .i64 (gmA a p))] :=
  w tt Tryz.func129 rfl [.c [] (Q2c (sgn:=Jj a) hp fun _ h=>Q96 h ha)] rfl rfl trivial
structure Sc (k:Crv):Prop where
  n:Nml k
  c:Cs 90 3 k
theorem Sc.cb {k:Crv} (h:Sc k):Cb k:=h.c.mono (by omega) (by omega)
theorem Q5a {q:Rat} (hq:Qs 900 q):Va (tq q):=by
  have hd:=q.den_nz
  refine ⟨.inl ⟨rfl,?_⟩,Qrk q,by show 2≤9; omega,by show 2≤2; omega,Q94 (hq.mono (by omega)),q.den,q.num.natAbs+1,0,?_,?_,by omega,?_⟩
  · have e:(q.num:Rat)=q*(q.den:Rat):=by
      have:(q.num:Rat) / (((q.den:Int)):Rat)=q:=by rw [Xo,Rat.num_divInt_den]
      have h2:(q.num:Rat) / (q.den:Rat)*(q.den:Rat)=q.num:=Rat.div_mul_cancel (by have:=Orq.nat_pos q.den_pos; grind)
      rw [show (q.num:Rat) / (q.den:Rat)=q from this] at h2; exact h2.symm
    show Qh [-q.num,(q.den:Int)] q=0
    simp only [Qh]
    rw [Rat.intCast_neg,e,show (((q.den:Int)):Rat)=(q.den:Rat) from rfl]; grind
  all_goals first | (have h1:Ql (q.den:Int)≤900:=hq.2; have h2:Ql ((q.num.natAbs+1:Nat):Int)≤901:=Qs3 hq.1; omega) | skip
  all_goals
    refine ⟨⟨q.num,?_⟩,?_,q.den_pos⟩
    · rw [Nat.pow_zero,Nat.mul_one]
      have:(q.num:Rat) / (((q.den:Int)):Rat)=q:=by rw [Xo,Rat.num_divInt_den]
      have h2:(q.num:Rat) / (q.den:Rat)*(q.den:Rat)=q.num:=Rat.div_mul_cancel (by have:=Orq.nat_pos q.den_pos; grind)
      rw [show (q.num:Rat) / (q.den:Rat)=q from this] at h2; exact h2
    · have h1:Qm q≤Qm (q.num:Rat):=by
        have e:(q.num:Rat)=q*(q.den:Rat):=by
          have:(q.num:Rat) / (((q.den:Int)):Rat)=q:=by rw [Xo,Rat.num_divInt_den]
          have h2:(q.num:Rat) / (q.den:Rat)*(q.den:Rat)=q.num:=Rat.div_mul_cancel (by have:=Orq.nat_pos q.den_pos; grind)
          rw [show (q.num:Rat) / (q.den:Rat)=q from this] at h2; exact h2.symm
        rw [e,G0]
        have hd1:(1:Rat)≤(q.den:Rat):=by
          have:((1:Nat):Rat)≤(q.den:Rat):=Rat.natCast_le_natCast.2 q.den_pos
          exact this
        have e2:Qm (q.den:Rat)=(q.den:Rat):=by unfold Qm; rw [if_neg (by grind)]
        rw [e2]
        have:=Kt (a:=Qm q) (c:=1) (Xg q) Rat.le_refl (by decide) hd1
        grind
      rw [Jz] at h1
      refine Rat.le_trans h1 (Rat.natCast_le_natCast.2 (by omega))
end Orr

namespace Orr
open Go Go.Proofs Orq
set_option maxRecDepth 10000
end Orr

namespace Orr
variable {α:Type}
def Kx (lt:α→α→Bool) (out:List α) (x:α):Nat→Nat
  | 0=>0
  |
   k+1=>match out[k]? with
   | some y=>if lt x y=true then Kx lt out x k else k+1
   | none=>k+1
theorem Qga (lt:α→α→Bool) (out:List α) (x:α):∀ k,Kx lt out x k≤k
  | 0=>Nat.le_refl _
  |
   k+1=>by
   simp only [Kx]
   split
   · split
     · exact Nat.le_succ_of_le (Qga lt out x k)
     · exact Nat.le_refl _
   · exact Nat.le_refl _
theorem Qgb {lt:α→α→Bool} {out:List α} {x y:α} {k:Nat} (hx:out[k]? = some y) (h:lt x y=true):Kx lt out x (k+1)=Kx lt out x k:=by
  simp only [Kx,hx,h,if_true]
theorem Qbg {lt:α→α→Bool} {out:List α} {x y:α} {k:Nat} (hx:out[k]? = some y) (h:lt x y=false):Kx lt out x (k+1)=k+1:=by
  simp [Kx,hx,h]
def U0 (lt:α→α→Bool) (out:List α) (x:α):List α:=out.take (Kx lt out x out.length)++x::out.drop (Kx lt out x out.length)
theorem Qxs (lt:α→α→Bool) (out:List α) (x:α):(U0 lt out x).length=out.length+1:=by
  have:=Qga lt out x out.length
  simp [U0]; omega
theorem Qav {lt:α→α→Bool} {out:List α} {x y:α}:y∈U0 lt out x↔y=x∨y∈out:=by
  have h:y∈out↔y∈out.take (Kx lt out x out.length)∨y∈out.drop (Kx lt out x out.length):=by
    rw [←List.mem_append,List.take_append_drop]
  simp only [U0,List.mem_append,List.mem_cons,h]
  constructor
  · rintro (h | h | h)
    · exact .inr (.inl h)
    · exact .inl h
    · exact .inr (.inr h)
  · rintro (h | h | h)
    · exact .inr (.inl h)
    · exact .inl h
    · exact .inr (.inr h)
def Z5 (lt:α→α→Bool) (l:List α):List α:=l.foldl (U0 lt) []
theorem Qnm (lt:α→α→Bool) (l:List α) (x:α):Z5 lt (l++[x])=U0 lt (Z5 lt l) x:=by simp [Z5,List.foldl_append]
theorem Qbs {lt:α→α→Bool} {l:List α} {i:Nat} {x:α} (h:l[i]? = some x):Z5 lt (l.take (i+1))=U0 lt (Z5 lt (l.take i)) x:=by
  rw [List.take_succ,h]; exact Qnm _ _ _
theorem Qam (lt:α→α→Bool):∀ (l acc:List α),(l.foldl (U0 lt) acc).length=acc.length+l.length
  | [],acc=>by simp
  | c::l,acc=>by simp only [List.foldl_cons]; rw [Qam lt l (U0 lt acc c),Qxs]; simp; omega
theorem Vh (lt:α→α→Bool) (l:List α):(Z5 lt l).length=l.length:=by unfold Z5; rw [Qam]; simp
theorem Qan (lt:α→α→Bool):∀ (l acc:List α) {y:α},y∈l.foldl (U0 lt) acc↔y∈l∨y∈acc
  | [],acc,y=>by simp
  |
   c::l,acc,y=>by
   simp only [List.foldl_cons]
   rw [Qan lt l,Qav,List.mem_cons]
   constructor
   · rintro (h | h | h)
     · exact .inl (.inr h)
     · exact .inl (.inl h)
     · exact .inr h
   · rintro ((h | h) | h)
     · exact .inr (.inl h)
     · exact .inl h
     · exact .inr (.inr h)
theorem Ro {lt:α→α→Bool} {l:List α} {y:α}:y∈Z5 lt l↔y∈l:=by
  unfold Z5; rw [Qan]; simp
end Orr

namespace Orr
open Go Orq
structure Wt where
  c:Ct
  known:Bool
  fails:Option Tm
def f0:Option Tm→LV | none=>.row [] | some t=>pl t.p
def f1:Option Tm→LV | none=>.bool false | some t=>sg t.lo.num
def f2:Option Tm→LV | none=>.row [] | some t=>mg t.lo.num
def f3:Option Tm→LV | none=>.bool false | some t=>sg (t.lo.den:Int)
def f4:Option Tm→LV | none=>.row [] | some t=>mg (t.lo.den:Int)
def f5:Option Tm→LV | none=>.bool false | some t=>sg t.hi.num
def f6:Option Tm→LV | none=>.row [] | some t=>mg t.hi.num
def f7:Option Tm→LV | none=>.bool false | some t=>sg (t.hi.den:Int)
def f8:Option Tm→LV | none=>.row [] | some t=>mg (t.hi.den:Int)
abbrev fl (o:Option Tm):List LV:=[f0 o,f1 o,f2 o,f3 o,f4 o,f5 o,f6 o,f7 o,f8 o]
abbrev wl (w:Wt):List LV:=[.int .i64 w.c.kind,.int .i64 w.c.i0,.int .i64 w.c.i1,.int .i64 w.c.i2,.int .i64 w.c.i3,pl w.c.p,.int .i64 w.c.want,.bool w.known,.bool w.fails.isSome,f0 w.fails,f1 w.fails,f2 w.fails,f3 w.fails,f4 w.fails,f5 w.fails,f6 w.fails,f7 w.fails,f8 w.fails]
def Bq (l:List Wt):List (List LV):=l.map fun w=>wl w
theorem Y5 {l:List Wt} {i:Nat} {w:Wt} (h:l[i]? = some w):(Bq l)[i]? = some (wl w):=Xd h
theorem Um (l:List Wt):(Bq l).length=l.length:=by simp [Bq]
structure Cr where
  now:Tm
  l:List Wt
  ev:Int
abbrev Y8 (c:Cr) (r0 r1:List (List LV)):List LV:=.bool true::pl c.now.p::sg c.now.lo.num::mg c.now.lo.num::sg (c.now.lo.den:Int)::mg (c.now.lo.den:Int)::sg c.now.hi.num::mg c.now.hi.num::sg (c.now.hi.den:Int)::mg (c.now.hi.den:Int)::.row (Bq c.l)::.int .i64 c.ev::[.row r0,.row r1]
structure WtOk (w:Wt):Prop where
  p:Cp w.c.p
  f:∀ t,w.fails=some t→Va t
structure CrOk (c:Cr):Prop where
  n:Va c.now
  l:∀ w∈c.l,WtOk w
  k:c.l.length≤1000
def Qzz (a b:Ct):Bool:=decide ([a.kind,a.i0,a.i1,a.i2,a.i3]=[b.kind,b.i0,b.i1,b.i2,b.i3])
def fresh (x:Ct):Wt:=⟨x,false,none⟩
def Fw:List Wt→Ct→Tm→Option Wt
  | [],x,_=>some (fresh x)
  |
   w::l,x,at_=>if Qzz w.c x=true∧w.known=true∧w.c.p=x.p then
     match w.fails with
     | none=>some ⟨x,true,none⟩
     | some t=>(Li t at_).bind fun c=>if 0<c then some ⟨x,true,some t⟩ else Fw l x at_
   else Fw l x at_
def Gy (old:List Wt) (at_:Tm):List Ct→Option (List Wt)
  | []=>some []
  | x::l=>(Fw old x at_).bind fun w=>(Gy old at_ l).bind fun r=>some (w::r)
end Orr

namespace Orr
open Go Go.Proofs Orq
set_option maxRecDepth 10000
theorem Qes {T:Nat} {c:Cr} {r0 r1:List (List LV)} (hc:Va c.now):Zw Tryz.prog 134 [.one (.ow 0 0)] [.blk T (Y8 c r0 r1)] [.agg (ta c.now)] [.blk T (Y8 c r0 r1)]:=by
  have cl:=Sq (b:=c.now) (l:=[]) hc.tb (fun t ht=>by cases ht) (by decide) rfl
  refine Z7 Tryz.func134 rfl ?_
  exact ed tt [] [0] [.f rfl,.c [] cl] rfl trivial
theorem Bz {T:Nat} {c:Cr} {r0 r1:List (List LV)} (hc:CrOk c):Zw Tryz.prog 37 [.one (.ow 0 0)] [.blk T (Y8 c r0 r1)] [.one (.row (Z0 (Zb (c.l.map (·.c)))))] [.blk T (Y8 c r0 r1)]:=by
  have hk:=hc.k
  have hw:=Um c.l
  refine Z7 Tryz.func37 rfl ?_
  refine go tt [.o 3 161 7] rfl trivial ?_
  refine lp (S:=Nat) 2 (fun L1 i=>(11,.v (.one (.int .i64 (i:Int))))::(3,.v (.one (.orow 1 7 none)))::L1) (fun i=>[.blk T (Y8 c r0 r1),.row false 161 7 (Z0 ((c.l.map (·.c)).take i))]) (fun i=>c.l.length-i) (fun i=>i≤c.l.length) 0 (Nat.zero_le _) rfl (fun _ _=>rfl) rfl fun i hi=>?_
  by_cases hlt:i<c.l.length
  · obtain ⟨x,hx⟩:∃ x,c.l[i]? = some x:=⟨_,List.getElem?_eq_getElem hlt⟩
    have hm:∀ y∈[Ax x.c],y.length=7:=fun y hy=>by rw [List.mem_singleton.1 hy]; rfl
    have hg:(c.l.map (·.c)).take (i+1)=(c.l.map (·.c)).take i++[x.c]:=by
      rw [List.take_succ,List.getElem?_map,hx]; rfl
    have hl:decide ((i:Int)<((Bq c.l).length:Int))=true:=by simp [hw]; omega
    obtain ⟨xc,xk,xf⟩:=x
    cases xf <;> (refine go tt [.t hl,.x (Y5 hx),.s (sz:=7) hm] rfl (by simp [Qa,Fp]; omega) ?_; exact rd (i+1) (by omega) hlt (by rw [hg]; simp [Z0]; rfl))
  · obtain rfl:i=c.l.length:=by omega
    have e:(c.l.map (·.c)).take c.l.length=c.l.map (·.c):=List.take_of_length_le (by simp)
    rw [e]
    have cs:=Qlh (l:=c.l.map (·.c)) (fun x hx=>by
      obtain ⟨w,hw,rfl⟩:=List.mem_map.1 hx
      exact Dp.pb (hc.l w hw).p.dp) (by simp; omega)
    exact ed tt [] [0] [.f (by simp [hw]),.c [] cs] rfl trivial
theorem Q66 {T:Nat} {c:Cr} {r0 r1:List (List LV)} {x:Ct} {at_:Tm} {w:Wt} (hc:CrOk c) (hx:Cp x.p) (ha:Va at_) (h:Fw c.l x at_=some w):Zw Tryz.prog 173 [.one (.ow 0 0),.agg (Ax x),.agg (ta at_)] [.blk T (Y8 c r0 r1)] [.agg (wl w)] [.blk T (Y8 c r0 r1)]:=by
  have hk:=hc.k
  have hw:=Um c.l
  refine Z7 Tryz.func173 rfl ?_
  refine go tt [] rfl trivial ?_
  refine lp (S:=Nat) 4 (fun L1 i=>(14,.v (.one (.int .i64 (i:Int))))::L1) (fun _=>[.blk T (Y8 c r0 r1),.blk 161 (Ax x),.blk 67 (ta at_),.blk 164 [.int .i64 0,.int .i64 0,.int .i64 0,.int .i64 0,.int .i64 0,.nils,.int .i64 0,.bool false,.bool false,.nils,.bool false,.nils,.bool false,.nils,.bool false,.nils,.bool false,.nils]]) (fun i=>c.l.length-i) (fun i=>i≤c.l.length∧Fw (c.l.drop i) x at_=some w) 0 ⟨Nat.zero_le _,h⟩ rfl (fun _ _=>rfl) rfl fun i ⟨hi,hf⟩=>?_
  by_cases hlt:i<c.l.length
  · obtain ⟨v,hv⟩:∃ v,c.l[i]? = some v:=⟨_,List.getElem?_eq_getElem hlt⟩
    have hdr:c.l.drop i=v::c.l.drop (i+1):=by
      rw [List.drop_eq_getElem_cons hlt]; congr 1
      have:=List.getElem?_eq_getElem hlt; rw [hv] at this; injection this with this; exact this.symm
    have hvo:=hc.l v (List.mem_of_getElem? hv)
    rw [hdr] at hf
    simp only [Fw] at hf
    have hl:decide ((i:Int)<((Bq c.l).length:Int))=true:=by simp [hw]; omega
    by_cases A:Qzz v.c x=true
    · have A':(!decide ([v.c.kind,v.c.i0,v.c.i1,v.c.i2,v.c.i3]=[x.kind,x.i0,x.i1,x.i2,x.i3]))=false:=by
        unfold Qzz at A; rw [A]; rfl
      by_cases B:v.known=true
      · have B':(!v.known)=false:=by rw [B]; rfl
        have cs:=Q1y (p:=v.c.p) (q:=x.p) (Dp.pb hvo.p.dp).ln (Dp.pb hx.dp).ln (Dp.pb hvo.p.dp).bd (Dp.pb hx.dp).bd
        rw [hvo.p.t,hx.t] at cs
        by_cases C:v.c.p=x.p
        · have C':(!decide (v.c.p=x.p))=false:=by simp [C]
          rw [if_pos ⟨A,B,C⟩] at hf
          obtain ⟨vc,vk,vf⟩:=v
          cases vf with
          |
           none =>
           injection hf with hf; subst hf
           exact ed tt [] [0] [.t hl,.x (Y5 hv),.g 24 false A',.g 29 false B',.c [] cs,.f C',.g 41 true rfl,.t rfl] rfl trivial
          |
           some t =>
           obtain ⟨r,r1',hf⟩:=Option.bind_eq_some_iff.1 hf
           have cc:=Og (hvo.f t rfl).tb ha.tb r1'
           by_cases D:0<r
           · rw [if_pos D] at hf
             injection hf with hf; subst hf
             exact ed tt [] [0] [.t hl,.x (Y5 hv),.g 24 false A',.g 29 false B',.c [] cs,.f C',.g 41 false rfl,.c [] cc,.t (by simpa using D)] rfl trivial
           · rw [if_neg D] at hf
             refine go tt [.t hl,.x (Y5 hv),.g 24 false A',.g 29 false B',.c [] cs,.f C',.g 41 false rfl,.c [] cc,.f (by simpa using D)] rfl (by simp [Qa]; omega) ?_
             exact rd (i+1) (by omega) ⟨hlt,hf⟩ rfl
        · rw [if_neg fun h=>C h.2.2] at hf
          refine go tt [.t hl,.x (Y5 hv),.g 24 false A',.g 29 false B',.c [] cs,.t (by simp [C])] rfl (by simp [Qa]; omega) ?_
          exact rd (i+1) (by omega) ⟨hlt,hf⟩ rfl
      · rw [if_neg fun h=>B h.2.1] at hf
        refine go tt [.t hl,.x (Y5 hv),.g 24 false A',.g 29 true (by simpa using B),.t rfl] rfl (by simp [Qa]; omega) ?_
        exact rd (i+1) (by omega) ⟨hlt,hf⟩ rfl
    · rw [if_neg fun h=>A h.1] at hf
      refine go tt [.t hl,.x (Y5 hv),.g 24 true (by rw [show decide ([v.c.kind,v.c.i0,v.c.i1,v.c.i2,v.c.i3]=[x.kind,x.i0,x.i1,x.i2,x.i3])=false from Bool.eq_false_iff.2 A]; rfl),.g 29 true rfl,.t rfl] rfl (by simp [Qa]; omega) ?_
      exact rd (i+1) (by omega) ⟨hlt,hf⟩ rfl
  · obtain rfl:i=c.l.length:=by omega
    rw [List.drop_length] at hf
    simp only [Fw] at hf
    injection hf with hf; subst hf
    exact ed tt [] [0] [.f (by simp [hw])] rfl trivial
end Orr

namespace Orr
open Go Go.Proofs Orq
set_option maxRecDepth 10000
theorem Co {old:List Wt} {at_:Tm}:∀ {l:List Ct} {ws:List Wt},Gy old at_ l=some ws→ws.length=l.length∧∀ (i:Nat) (x:Ct),l[i]? = some x→∃ w,Fw old x at_=some w∧ws[i]? = some w
  | [],ws,h=>by injection h with h; subst h; exact ⟨rfl,fun i x hx=>by simp at hx⟩
  |
   y::l,ws,h=>by
   simp only [Gy] at h
   obtain ⟨w,hw,h⟩:=Option.bind_eq_some_iff.1 h
   obtain ⟨r,hr,h⟩:=Option.bind_eq_some_iff.1 h
   injection h with h; subst h
   obtain ⟨a,b⟩:=Co hr
   refine ⟨by simp [a],fun i x hx=>?_⟩
   cases i with
   | zero=>injection hx with hx; subst hx; exact ⟨w,hw,rfl⟩
   | succ i=>exact b i x (by simpa using hx)
theorem Ey {l:List Wt} {i:Nat} {w:Wt} (h:l[i]? = some w):Bq (l.take (i+1))=Bq (l.take i)++[wl w]:=by
  rw [List.take_succ,h]; simp [Bq]
theorem Qoa {T:Nat} {c:Cr} {r0 r1:List (List LV)} {at_:Tm} {l:List Ct} {ws:List Wt} (hc:CrOk c) (ha:Va at_) (hl:∀ x∈l,Cp x.p) (hn:l.length≤1000) (h:Gy c.l at_ (Zb l)=some ws):Zw Tryz.prog 124 [.one (.ow 0 0),.agg (ta at_),.one (.bool true),.one (.row (Z0 l))] [.blk T (Y8 c r0 r1)] [] [.blk T (Y8 ⟨at_,ws,c.ev⟩ r0 r1)]:=by
  have cs:=Qlh (l:=l) (fun x hx=>Dp.pb (hl x hx).dp) (by omega)
  have cl:=Sq (b:=at_) (l:=[]) ha.tb (fun t ht=>by cases ht) (by decide) rfl
  obtain ⟨h1,h2⟩:=Co h
  have hs:(Zb l).length=l.length:=Fh l
  refine Z7 Tryz.func124 rfl ?_
  refine go tt [.o 8 164 18,.c [] cs] rfl trivial ?_
  refine lp (S:=Nat) 3 (fun L1 i=>(15,.v (.one (.int .i64 (i:Int))))::(8,.v (.one (.orow 2 18 none)))::L1) (fun i=>[.blk T (Y8 c r0 r1),.blk 67 (ta at_),.row false 164 18 (Bq (ws.take i))]) (fun i=>ws.length-i) (fun i=>i≤ws.length) 0 (Nat.zero_le _) rfl (fun _ _=>rfl) rfl fun i hi=>?_
  by_cases hlt:i<ws.length
  · obtain ⟨x,hx⟩:∃ x,(Zb l)[i]? = some x:=⟨_,List.getElem?_eq_getElem (by omega)⟩
    obtain ⟨w,hw,hw'⟩:=h2 i x hx
    have hm:∀ y∈[wl w],y.length=18:=fun y hy=>by rw [List.mem_singleton.1 hy]; rfl
    have hlt':decide ((i:Int)<((Z0 (Zb l)).length:Int))=true:=by simp [Z0]; omega
    have ck:=Q66 (T:=T) (r0:=r0) (r1:=r1) hc (hl x (Rm (List.mem_of_getElem? hx))) ha hw
    have hg:=Ey hw'
    obtain ⟨wc,wk,wf⟩:=w
    cases wf <;> (refine go tt [.t hlt',.x (Lk hx),.t rfl,.c [0] ck,.s (sz:=18) hm] rfl (by simp [Qa,Um]; omega) ?_; exact rd (i+1) (by omega) hlt (by rw [hg]; rfl))
  · obtain rfl:i=ws.length:=by omega
    rw [List.take_length]
    have hge:decide ((ws.length:Int)<((Z0 (Zb l)).length:Int))=false:=by simp [Z0]; omega
    exact ed tt [] [0] [.f hge,.p 2,.c [] cl] rfl trivial
abbrev crz (r0 r1:LV):List LV:=[.bool false,.nils,.bool false,.nils,.bool false,.nils,.bool false,.nils,.bool false,.nils,.nils,.int .i64 0,r0,r1]
theorem Q1t {T:Nat} {r0 r1:List (List LV)} {at_:Tm} {l:List Ct} (ha:Va at_) (hl:∀ x∈l,Cp x.p) (hn:l.length≤1000):Zw Tryz.prog 124 [.one (.ow 0 0),.agg (ta at_),.one (.bool false),.one (.row (Z0 l))] [.blk T (crz (.row r0) (.row r1))] [] [.blk T (Y8 ⟨at_,(Zb l).map fresh,0⟩ r0 r1)]:=by
  have cs:=Qlh (l:=l) (fun x hx=>Dp.pb (hl x hx).dp) (by omega)
  have cl:=Sq (b:=at_) (l:=[]) ha.tb (fun t ht=>by cases ht) (by decide) rfl
  have hs:(Zb l).length=l.length:=Fh l
  refine Z7 Tryz.func124 rfl ?_
  refine go tt [.o 8 164 18,.c [] cs] rfl trivial ?_
  refine lp (S:=Nat) 3 (fun L1 i=>(15,.v (.one (.int .i64 (i:Int))))::(8,.v (.one (.orow 2 18 none)))::L1) (fun i=>[.blk T (crz (.row r0) (.row r1)),.blk 67 (ta at_),.row false 164 18 (Bq (((Zb l).map fresh).take i))]) (fun i=>l.length-i) (fun i=>i≤l.length) 0 (Nat.zero_le _) rfl (fun _ _=>rfl) rfl fun i hi=>?_
  by_cases hlt:i<l.length
  · obtain ⟨x,hx⟩:∃ x,(Zb l)[i]? = some x:=⟨_,List.getElem?_eq_getElem (by omega)⟩
    have hm:∀ y∈[wl (fresh x)],y.length=18:=fun y hy=>by rw [List.mem_singleton.1 hy]; rfl
    have hlt':decide ((i:Int)<((Z0 (Zb l)).length:Int))=true:=by simp [Z0]; omega
    have hg:=Ey (l:=(Zb l).map fresh) (i:=i) (w:=fresh x) (by rw [List.getElem?_map,hx]; rfl)
    refine go tt [.t hlt',.x (Lk hx),.z 20,.f rfl,.s (sz:=18) hm] rfl (by simp [Qa,Um]; omega) ?_
    exact rd (i+1) (by omega) hlt (by rw [hg]; rfl)
  · obtain rfl:i=l.length:=by omega
    rw [List.take_of_length_le (by simp; omega)]
    have hge:decide ((l.length:Int)<((Z0 (Zb l)).length:Int))=false:=by simp [Z0]; omega
    exact ed tt [] [0] [.f hge,.p 2,.c [] cl] rfl trivial
theorem Qr1 {T:Nat} {r0 r1:List (List LV)} {at_:Tm} {l:List Ct} (ha:Va at_) (hl:∀ x∈l,Cp x.p) (hn:l.length≤1000):Zw Tryz.prog 79 [.one (.ow 0 0),.agg (ta at_),.one (.row (Z0 l))] [.blk T (crz (.row r0) (.row r1))] [] [.blk T (Y8 ⟨at_,(Zb l).map fresh,0⟩ r0 r1)]:=by
  have cl:=Q1t (T:=T) (r0:=r0) (r1:=r1) ha hl hn
  refine Z7 Tryz.func79 rfl ?_
  exact ed tt [] [0] [.g 12 false rfl,.c [0] cl] rfl trivial
theorem eB {a b:Bool} (h:a=b):TV.one (LV.bool a)=.one (.bool b):=h ▸ rfl
theorem Qr2 {T:Nat} {c:Cr} {r0 r1:List (List LV)} {at_:Tm} {l:List Ct} {ws:List Wt} {k:Int} (hc:CrOk c) (ha:Va at_) (hk:Li at_ c.now=some k) (h0:0≤k) (hl:∀ x∈l,Cp x.p) (hn:l.length≤1000) (h:Gy c.l at_ (Zb l)=some ws):Zw Tryz.prog 79 [.one (.ow 0 0),.agg (ta at_),.one (.row (Z0 l))] [.blk T (Y8 c r0 r1)] [] [.blk T (Y8 ⟨at_,ws,c.ev⟩ r0 r1)]:=by
  have cl:=Qoa (T:=T) (r0:=r0) (r1:=r1) hc ha hl hn h
  have cc:=Og ha.tb hc.n.tb hk
  refine Z7 Tryz.func79 rfl ?_
  exact ed tt [] [0] [.g 12 true rfl,.c [] cc,.r 20 (eB (show decide (0≤k)=true by simpa using h0)),.c [0] cl] rfl trivial
end Orr

namespace Orr
open Go Go.Proofs Orq
set_option maxRecDepth 10000
theorem Il:∀ {k:Nat} {g:List Int} {l:List (List Int)},Pb g→L9 k g=some l→l.length≤k∧∀ p∈l,Pb p
  | 0,_,_,_,h=>by cases h
  |
   k+1,g,l,hg,h=>by
   simp only [L9] at h
   split at h
   · injection h with h; subst h; exact ⟨by simp,fun p hp=>by cases hp⟩
   · obtain ⟨d,hd,h⟩:=Option.bind_eq_some_iff.1 h
     obtain ⟨rfl,hdp⟩:=Qbb hd
     obtain ⟨x,hx,h⟩:=Option.bind_eq_some_iff.1 h
     obtain ⟨q,hq,h⟩:=Option.bind_eq_some_iff.1 h
     obtain ⟨r,hr,h⟩:=Option.bind_eq_some_iff.1 h
     injection h with h; subst h
     obtain ⟨i1,i2⟩:=Il (El hg hdp hx) hr
     refine ⟨by simp; exact i1,fun p hp=>?_⟩
     rcases List.mem_cons.1 hp with rfl | hp
     · exact Qmp hq
     · exact i2 p hp
theorem Qvm {a:List Int} {l:List (List Int)} (ha:Pb a) (h:L9 66 (Qo a)=some l):Qd Tryz.prog 334 [pr a] [.one (.row (Yq l))]:=by
  have hp:=X2 ha
  refine Z7 Tryz.func334 rfl ?_
  refine go tt [.o 3 26 1,.c [] (Gp ha)] rfl trivial ?_
  refine lp (S:=Nat×List (List Int)×List Int) 1 (fun L1 s=>(4,.v (pr s.2.2))::(3,.v (.one (.orow 0 1 none)))::L1) (fun s=>[.row false 26 1 (Yq s.2.1)]) (fun s=>s.1) (fun s=>Pb s.2.2∧s.2.1.length+s.1≤66∧∃ m,L9 s.1 s.2.2=some m∧s.2.1++m=l) (66,[],Qo a) ⟨hp,Nat.le_refl _,l,h,rfl⟩ rfl (fun _ _=>rfl) rfl fun ⟨k,out,g⟩ ⟨j1,j2,m,j3,j4⟩=>?_
  dsimp only at j1 j2 j3 j4 ⊢
  cases k with
  | zero=>cases j3
  |
   succ k =>
   simp only [L9] at j3
   split at j3
   · rename_i h0
     injection j3 with j3; subst j3
     rw [List.append_nil] at j4
     subst j4
     exact en tt [.c [] (V8 _),.f (by simp; omega)] rfl rfl trivial
   · rename_i h0
     obtain ⟨d,hd,j3⟩:=Option.bind_eq_some_iff.1 j3
     obtain ⟨rfl,hdp⟩:=Qbb hd
     obtain ⟨x,hx,j3⟩:=Option.bind_eq_some_iff.1 j3
     obtain ⟨q,hq,j3⟩:=Option.bind_eq_some_iff.1 j3
     obtain ⟨r,hr,j3⟩:=Option.bind_eq_some_iff.1 j3
     injection j3 with j3; subst j3
     have hxp:=El j1 hdp hx
     refine go tt [.c [] (V8 _),.t (by simp; omega),.c [] (Hp j1.ln j1.bd),.c [] (Qou j1 hdp hx),.c [] (Qvw j1 hxp hq),.s (sz:=1) (l:=[[pl q]]) (fun c hc=>by rw [List.mem_singleton.1 hc]; rfl)] rfl (by simp [Qa,Fe]; omega) ?_
     exact rd (k,out++[q],x) (by dsimp only; omega) ⟨hxp,by simp; omega,r,hr,by rw [←j4]; simp⟩ (by rw [Qbe]; rfl)
theorem Qag:∀ {l r:List (List Int)},Qb8 l=some r→r.length=l.length∧∀ i w,l[i]? = some w→match l[i+1]? with
    | some v=>∃ f,Px w v=some f∧r[i]? = some f
    | none=>r[i]? = some w
  | [],r,h=>by injection h with h; subst h; exact ⟨rfl,fun i w hw=>by simp at hw⟩
  |
   [w],r,h=>by
   injection h with h; subst h
   refine ⟨rfl,fun i x hx=>?_⟩
   cases i with
   | zero=>simpa using hx
   | succ i=>simp at hx
  |
   w::v::l,r,h=>by
   simp only [Qb8] at h
   obtain ⟨f,hf,h⟩:=Option.bind_eq_some_iff.1 h
   obtain ⟨s,hs,h⟩:=Option.bind_eq_some_iff.1 h
   injection h with h; subst h
   obtain ⟨i1,i2⟩:=Qag hs
   refine ⟨by simp [i1],fun i x hx=>?_⟩
   cases i with
   |
    zero =>
    injection hx with hx; subst hx
    exact ⟨f,hf,rfl⟩
   |
    succ i =>
    have:=i2 i x (by simpa using hx)
    simpa using this
theorem Qff:∀ {l r:List (List Int)},(∀ p∈l,Pb p)→Qb8 l=some r→∀ p∈r,Pb p
  | [],r,_,h=>by injection h with h; subst h; exact fun p hp=>by cases hp
  | [w],r,hl,h=>by injection h with h; subst h; exact hl
  |
   w::v::l,r,hl,h=>by
   simp only [Qb8] at h
   obtain ⟨f,hf,h⟩:=Option.bind_eq_some_iff.1 h
   obtain ⟨s,hs,h⟩:=Option.bind_eq_some_iff.1 h
   injection h with h; subst h
   intro p hp
   rcases List.mem_cons.1 hp with rfl | hp
   · exact Qmp hf
   · exact Qff (fun p hp=>hl p (List.mem_cons_of_mem _ hp)) hs p hp
theorem Qrz {a:List Int} {l r:List (List Int)} (ha:Pb a) (h:L9 66 (Qo a)=some l) (hr:Qb8 l=some r):Qd Tryz.prog 322 [pr a] [.one (.row (Yq r))]:=by
  obtain ⟨i1,i2⟩:=Il (X2 ha) h
  obtain ⟨j1,j2⟩:=Qag hr
  have hw:=Fe l
  refine Z7 Tryz.func322 rfl ?_
  refine go tt [.c [] (Qvm ha h),.i (Yq l).length,.i (Yq l).length] rfl (by simp [Qa,hw]; omega) ?_
  rw [hw,Ft fun i=>[pl (r.getD i [])]]
  refine lp (S:=Nat) 1 (fun L1 k=>(14,.v (.one (.int .i64 (k:Int))))::L1) (fun k=>[.row false 26 1 (fil (fun i=>[pl (r.getD i [])]) [.nils] l.length k)]) (fun k=>l.length-k) (fun k=>k≤l.length) 0 (Nat.zero_le _) rfl (fun _ _=>rfl) rfl fun k hk=>?_
  by_cases hlt:k<l.length
  · obtain ⟨w,hx⟩:∃ w,l[k]? = some w:=⟨_,List.getElem?_eq_getElem hlt⟩
    have e:=Tj (fun i=>[pl (r.getD i [])]) [.nils] hlt
    have hg:=j2 k w hx
    by_cases h2:k+1<l.length
    · obtain ⟨v,hv⟩:∃ v,l[k+1]? = some v:=⟨_,List.getElem?_eq_getElem h2⟩
      rw [hv] at hg
      obtain ⟨f,f1,f2⟩:=hg
      have e2:r.getD k []=f:=by rw [List.getD_eq_getElem?_getD,f2]; rfl
      rw [e2] at e
      refine go tt [.t (by simp [hw]; omega),.x (Ji hx),.i k,.t (by simp [hw]; omega),.x (i:=k+1) (Ji hv),.c [] (Qvw (i2 w (List.mem_of_getElem? hx)) (i2 v (List.mem_of_getElem? hv)) f1),.i k] rfl (by simp [Qa,Gx,hw]; omega) ?_
      rw [List.set_set,e]
      exact rd (k+1) (by omega) hlt rfl
    · have hv:l[k+1]? = none:=List.getElem?_eq_none (by omega)
      rw [hv] at hg
      have e2:r.getD k []=w:=by rw [List.getD_eq_getElem?_getD,hg]; rfl
      rw [e2] at e
      refine go tt [.t (by simp [hw]; omega),.x (Ji hx),.i k,.f (by simp [hw]; omega)] rfl (by simp [Qa,Gx,hw]; omega) ?_
      rw [e]
      exact rd (k+1) (by omega) hlt rfl
  · obtain rfl:k=l.length:=by omega
    have e:fil (fun i=>[pl (r.getD i [])]) [.nils] l.length l.length=Yq r:=by
      rw [Ti,←j1]
      refine List.ext_getElem? fun i=>?_
      simp only [Yq,List.getElem?_map]
      by_cases hi:i<r.length
      · rw [List.getElem?_range hi]; simp [List.getD_eq_getElem?_getD,List.getElem?_eq_getElem hi]
      · rw [List.getElem?_eq_none (by simpa using hi),List.getElem?_eq_none (by simpa using hi)]; rfl
    rw [e]
    exact en tt [.f (by simp [hw])] rfl rfl trivial
theorem Qmw {p:List Int} (tp:Qi p):Qo (Qo p)=Qo p:=by
  by_cases h:p.length=0
  · have e:Qo p=[]:=by unfold Qo; rw [if_pos h]
    rw [e]; rfl
  · obtain ⟨h1,h2,h3,h4,_⟩:=Ky tp h
    have hc:J8 (Qo p)=1:=by
      have h5:J8 (Qo p)∣1:=h3 _ fun k=>by
        by_cases hk:k<(Qo p).length
        · rw [List.getD_eq_getElem?_getD,List.getElem?_eq_getElem hk]; exact Fc _ (List.getElem_mem hk)
        · rw [List.getD_eq_getElem?_getD,List.getElem?_eq_none (by omega)]; exact Int.dvd_zero _
      have h6:0≤J8 (Qo p):=by unfold J8; omega
      exact Int.eq_one_of_dvd_one h6 h5
    have hf:∀ q:List Int,0<Qt q→Z9 q=J8 q:=fun q hq=>by unfold Z9; rw [if_neg (by omega)]
    have hf:=(hf _ h4).trans hc
    have e0:∀ q:List Int,q.length≠0→Qo q=Wi q (Z9 q):=fun q hq=>by unfold Qo; rw [if_neg hq]
    have e:=e0 (Qo p) (by omega)
    rw [hf] at e
    rw [e]
    unfold Wi
    have e2:(Qo p).map (· / (1:Int))=Qo p:=by
      conv=>rhs; rw [←List.map_id (Qo p)]
      exact List.map_congr_left fun z _=>by simp
    rw [e2]
    exact h1
theorem Qrh (i:Nat):(i:Int).tmod 2=((i % 2:Nat):Int):=rfl
theorem Q7b {a:List Int} (ha:Pb a) (h:(Qo a).length=0):Qd Tryz.prog 304 [pr a] [pr []] :=
  w tt Tryz.func304 rfl [.c [] (Gp ha),.t (by simp [List.eq_nil_of_length_eq_zero h])] rfl rfl trivial
theorem Mp:∀ {l:List (List Int)} {i:Nat} {p o:List Int},Pb p→(∀ f∈l,Pb f)→C5 i p l=some o→Pb o
  | [],i,p,o,hp,_,h=>by simp only [C5] at h; injection h with h; subst h; exact hp
  |
   f::l,i,p,o,hp,hl,h=>by
   simp only [C5] at h
   split at h
   · obtain ⟨q,hq,h⟩:=Option.bind_eq_some_iff.1 h
     obtain ⟨rfl,hq'⟩:=Ta (Z6 _ _) hq
     exact Mp hq' (fun f hf=>hl f (List.mem_cons_of_mem _ hf)) h
   · exact Mp hp (fun f hf=>hl f (List.mem_cons_of_mem _ hf)) h
theorem Qyp:Pb [1]:=⟨rfl,by decide,fun z hz=>by rw [List.mem_singleton.1 hz]; decide⟩
theorem Zaa {a o:List Int} (ha:Pb a) (h:Qmt a=some o):Qd Tryz.prog 304 [pr a] [pr o]:=by
  unfold Qmt at h
  split at h
  · rename_i h0
    injection h with h; subst h
    exact Q7b ha h0
  rename_i h0
  obtain ⟨l,hl,h⟩:=Option.bind_eq_some_iff.1 h
  obtain ⟨fs,hf,h⟩:=Option.bind_eq_some_iff.1 h
  have hpa:=X2 ha
  have hl':L9 66 (Qo (Qo a))=some l:=by rw [Qmw ha.t]; exact hl
  obtain ⟨i1,i2⟩:=Il (X2 ha) hl
  have i3:=Qff i2 hf
  obtain ⟨j1,_⟩:=Qag hf
  have hw:=Fe fs
  have co:=Qu0 (p:=[1]) (by decide) (fun z hz=>by rw [List.mem_singleton.1 hz]; decide)
  rw [show trim [1]=[1] from rfl] at co
  refine Z7 Tryz.func304 rfl ?_
  refine go tt [.c [] (Gp ha),.f (by simpa using h0),.c [] co,.c [] (Qrz hpa hl' hf)] rfl (by simp [Qa]) ?_
  refine lp (S:=Nat×List Int) 0 (fun L1 s=>(16,.v (.one (.int .i64 (s.1:Int))))::(3,.v (pr s.2))::L1) (fun _=>[]) (fun s=>fs.length-s.1) (fun s=>s.1≤fs.length∧Pb s.2∧C5 s.1 s.2 (fs.drop s.1)=some o) (0,[1]) ⟨Nat.zero_le _,Qyp,h⟩ rfl (fun _ _=>rfl) rfl fun ⟨i,p⟩ ⟨k1,k2,k3⟩=>?_
  dsimp only at k1 k2 k3 ⊢
  by_cases hlt:i<fs.length
  · obtain ⟨f,hx⟩:∃ w,fs[i]? = some w:=⟨_,List.getElem?_eq_getElem hlt⟩
    have hdr:fs.drop i=f::fs.drop (i+1):=by
      rw [List.drop_eq_getElem_cons hlt]; congr 1
      have:=List.getElem?_eq_getElem hlt; rw [hx] at this; injection this with this; exact this.symm
    rw [hdr] at k3
    simp only [C5] at k3
    have pf:=i3 f (List.mem_of_getElem? hx)
    by_cases h2:i % 2=0
    · rw [if_pos h2] at k3
      obtain ⟨q,hq,k3⟩:=Option.bind_eq_some_iff.1 k3
      obtain ⟨rfl,hq'⟩:=Ta (Z6 _ _) hq
      refine go tt [.t (by simp [hw]; omega),.x (Ji hx),.t (by rw [Qrh,h2]; rfl),.c [] (Qle k2.t pf.t (Nat.lt_of_le_of_lt k2.l (by decide)) (Nat.lt_of_le_of_lt pf.l (by decide)) k2.b pf.b (by decide))] rfl (by simp [Qa]; omega) ?_
      exact rd (i+1,Zi p f) (by dsimp only; omega) ⟨hlt,hq',k3⟩ rfl
    · rw [if_neg h2] at k3
      refine go tt [.t (by simp [hw]; omega),.x (Ji hx),.f (by rw [Qrh,show i % 2=1 by omega]; rfl)] rfl (by simp [Qa]; omega) ?_
      exact rd (i+1,p) (by dsimp only; omega) ⟨hlt,k2,k3⟩ rfl
  · obtain rfl:i=fs.length:=by omega
    rw [List.drop_length] at k3
    simp only [C5] at k3
    injection k3 with k3; subst k3
    exact en tt [.f (by simp [hw])] rfl rfl trivial
end Orr

namespace Orr
open Go Go.Proofs Orq
set_option maxRecDepth 10000
theorem Tl (z:Int):Ql (z.natAbs:Int)=Ql z:=by unfold Ql; simp
theorem Qve {x y:LV} {z:Int} (hi:Xn x y z) (hs:Ql z≤4294967295):Qd Tryz.prog 330 [.agg [x,y]] [.agg (Zt (z.natAbs:Int))]:=by
  obtain ⟨b,l,rfl,rfl,hl,rfl⟩:=hi
  have e:(Qj false (val l))=((Qj b (val l)).natAbs:Int):=by rw [Xz]; rfl
  rw [←e]
  exact w tt Tryz.func330 rfl [.c [] (Nl hl (Nat.le_trans (Yk hs) (by decide))),.c [] (Yo _ _)] rfl rfl trivial
theorem Q2k {n d:Int} (h0:d≠0) (hn:Ql n≤4294967295) (hd:Ql d≤4294967295):Qd Tryz.prog 331 [.agg (Zt n),.agg (Zt d)] [.agg (rl (Rat.divInt n d)),.one (.int .i64 0)] :=
  w tt Tryz.func331 rfl [.c [] (Uy (Qe d) hd),.c [] G8,.f (by simpa using h0),.c [] (Uy (Qe n) hn),.c [] (Ss h0 hn hd)] rfl rfl trivial
theorem Qs6 (l:List Int) (z:Int):most (l++[z])=if most l<z.natAbs then z.natAbs else most l:=by unfold most; rw [List.foldl_append]; rfl
theorem Qqa {s:Nat}:∀ {l:List Int},Bd s l→Ql (most l:Int)≤s:=fun {l}=>by
  suffices h:∀ (l:List Int) (m:Nat),Bd s l→Ql (m:Int)≤s→Ql ((l.foldl (fun m z=>if m<z.natAbs then z.natAbs else m) m:Nat):Int)≤s from fun hb=>h l 0 hb (by simp [Ql,sz])
  intro l
  induction l with
  | nil=>exact fun m _ h=>h
  |
   cons z l ih =>
   intro m hb hm
   refine ih _ (fun y hy=>hb y (List.mem_cons_of_mem _ hy)) ?_
   show Ql ((if m<z.natAbs then z.natAbs else m:Nat):Int)≤s
   split
   · rw [Tl]; exact hb z (List.mem_cons_self ..)
   · exact hm
def ozi:Option Nat→List LV
  | none=>[.bool false,.nils]
  | some m=>Zt (m:Int)
def ozr:Option Nat→List LV
  | none=>[.bool false,.row []]
  | some m=>Zt (m:Int)
theorem Q1p {p:List Int} (hp:Pb p) (h0:p.length≠0):Qd Tryz.prog 319 [pr p] [.agg (rl (Zz p)),.one (.int .i64 0)]:=by
  have hl:=hp.l
  have hll:(p.take (p.length-1)).length=p.length-1:=by simp
  have hbt:Bd 16777216 (p.take (p.length-1)):=fun z hz=>hp.b z (List.mem_of_mem_take hz)
  refine Z7 Tryz.func319 rfl ?_
  refine go tt [.c [] (X1 hp.t hp.ln hp.bd),.f (by simpa using h0),.r 18 (eI (b:=((p.length-1:Nat):Int)) (by simp; omega)),.i (p.length-1)] rfl (by simp [Qa]; omega) ?_
  rw [←List.map_take]
  refine lp (S:=Nat×Option Nat) 2 (fun L1 s=>(21,.v (.one (.int .i64 (s.1:Int))))::L1) (fun s=>[.blk 41 [.bool false,.nils,.bool false,.nils],.blk 29 (ozi s.2)]) (fun s=>p.length-1-s.1) (fun s=>s.1≤p.length-1∧most ((p.take (p.length-1)).take s.1)=s.2.getD 0) (0,none) ⟨Nat.zero_le _,rfl⟩ rfl (fun _ _=>rfl) rfl fun ⟨i,o⟩ ⟨j1,j2⟩=>?_
  dsimp only at j1 j2 ⊢
  by_cases hlt:i<p.length-1
  · obtain ⟨z,hz⟩:∃ w,(p.take (p.length-1))[i]? = some w:=⟨_,List.getElem?_eq_getElem (by omega)⟩
    have bz:Ql z≤16777216:=hbt z (List.mem_of_getElem? hz)
    have hst:most ((p.take (p.length-1)).take (i+1))=if o.getD 0<z.natAbs then z.natAbs else o.getD 0:=by
      rw [List.take_succ,hz]; show most (_++[z])=_; rw [Qs6,j2]
    have ca:=Qve (Qe z) (Nat.le_trans bz (by decide))
    have hl1:decide ((i:Int)<(((p.take (p.length-1)).map Zt).length:Int))=true:=by simp; omega
    have bm:Ql ((o.getD 0:Nat):Int)≤16777216:=by rw [←j2]; exact Qqa fun y hy=>hbt y (List.mem_of_mem_take hy)
    have hcm:Kk (z.natAbs:Int) ((o.getD 0:Nat):Int)>0↔o.getD 0<z.natAbs:=by unfold Kk; split <;> (try split) <;> omega
    have cc:Qd Tryz.prog 199 [.agg (Zt (z.natAbs:Int)),.agg (ozr o)] [.one (.int .i64 (Kk (z.natAbs:Int) ((o.getD 0:Nat):Int)))]:=by
      cases o with
      | none=>exact Or (Qe _) Wp (by rw [Tl]; omega) (by decide)
      | some m=>exact Or (Qe _) (Qe _) (by rw [Tl]; omega) (Nat.le_trans bm (by decide))
    by_cases hc:o.getD 0<z.natAbs
    · rw [if_pos hc] at hst
      have hd:decide (Kk (z.natAbs:Int) ((o.getD 0:Nat):Int)>0)=true:=by simpa using hcm.2 hc
      cases o <;> (refine go tt [.t hl1,.x (Xd (f:=Zt) hz),.c [] ca,.c [] cc,.t hd] rfl (by simp [Qa]; omega) ?_; exact rd (i+1,some z.natAbs) (by dsimp only; omega) ⟨hlt,hst⟩ rfl)
    · rw [if_neg hc] at hst
      have hd:decide (Kk (z.natAbs:Int) ((o.getD 0:Nat):Int)>0)=false:=by
        have:=mt hcm.1 hc; simpa using this
      cases o with
      | none=>refine go tt [.t hl1,.x (Xd (f:=Zt) hz),.c [] ca,.c [] cc,.f hd] rfl (by simp [Qa]; omega) ?_; exact rd (i+1,none) (by dsimp only; omega) ⟨hlt,hst⟩ rfl
      | some m=>refine go tt [.t hl1,.x (Xd (f:=Zt) hz),.c [] ca,.c [] cc,.f hd] rfl (by simp [Qa]; omega) ?_; exact rd (i+1,some m) (by dsimp only; omega) ⟨hlt,hst⟩ rfl
  · obtain rfl:i=p.length-1:=by omega
    rw [List.take_of_length_le (by omega)] at j2
    have bl:Ql (Qt p)≤16777216:=hp.b _ (Qa4 h0)
    have ln:((Qt p).natAbs:Int)≠0:=by have:=U3 hp.t h0; omega
    have cl:=Wy hp.t hp.ln hp.bd
    have ca:=Qve (Qe (Qt p)) (Nat.le_trans bl (by decide))
    have bm:Ql ((o.getD 0:Nat):Int)≤16777216:=by rw [←j2]; exact Qqa hbt
    have cd:Qd Tryz.prog 111 [.agg (Zt ((Qt p).natAbs:Int)),.agg (ozr o)] [.agg (Zt (((Qt p).natAbs:Int)+(most (p.take (p.length-1)):Int)))]:=by
      rw [j2]
      cases o with
      | none=>exact Nm (Qe _) Wp (by rw [Tl]; omega) (by decide)
      | some m=>exact Nm (Qe _) (Qe _) (by rw [Tl]; omega) (Nat.le_trans bm (by decide))
    have cm:=Q2k (n:=((Qt p).natAbs:Int)+(most (p.take (p.length-1)):Int)) ln (Nat.le_trans (Mj _ _) (by rw [Tl,j2]; omega)) (by rw [Tl]; omega)
    have hf:decide (((p.length-1:Nat):Int)<(((p.take (p.length-1)).map Zt).length:Int))=false:=by simp
    cases o <;> exact en tt [.f hf,.c [] cl,.c [] ca,.c [] cd,.c [] cm] rfl rfl trivial
end Orr

namespace Orr
open Go Go.Proofs Orq
set_option maxRecDepth 10000
theorem Q5r {z:Int}:Qd Tryz.prog 350 [.agg (Zt z)] [.one (.int .i64 (Int.sign z))]:=by
  by_cases h0:z=0
  · subst h0
    exact w tt Tryz.func350 rfl [.t (by simp [Qf,Zs])] rfl rfl trivial
  · have hl:(Q4 z.natAbs).length≠0:=fun h=>h0 (Qs5.1 h)
    have hl':decide (((lm (Q4 z.natAbs)).length:Int)=0)=false:=by simpa [Qf] using hl
    by_cases h1:z<0
    · rw [Int.sign_eq_neg_one_of_neg h1]
      exact w tt Tryz.func350 rfl [.f hl',.t (by simpa using h1)] rfl rfl trivial
    · rw [Int.sign_eq_one_of_pos (by omega)]
      exact w tt Tryz.func350 rfl [.f hl',.f (by simpa using h1)] rfl rfl trivial
theorem Qum {p:List Int} (hp:Pb p):Qd Tryz.prog 342 [pr p] [.one (.int .i64 (Se p)),.one (.int .i64 (Cf p))]:=by
  have hb:-1≤(Qt p).sign∧(Qt p).sign≤1:=by rcases Gh (Qt p) with h | h | h <;> omega
  by_cases h:p.length % 2=0
  · have e:Se p=-(Qt p).sign:=by unfold Se; rw [if_pos h]
    rw [e]
    exact w tt Tryz.func342 rfl [.c [] (X1 hp.t hp.ln hp.bd),.c [] (Wy hp.t hp.ln hp.bd),.c [] Q5r,.t (by rw [Qrh]; simp [h])] rfl rfl (by simp [Qa,Qt] at hb ⊢; omega)
  · have e:Se p=(Qt p).sign:=by unfold Se; rw [if_neg h]
    rw [e]
    exact w tt Tryz.func342 rfl [.c [] (X1 hp.t hp.ln hp.bd),.c [] (Wy hp.t hp.ln hp.bd),.c [] Q5r,.f (by rw [Qrh]; simp; omega)] rfl rfl (by simp [Qa])
theorem Qvo {p:List Int} (hp:Pb p):Qd Tryz.prog 341 [pr p] [.one (.int .i64 (Se p))]:=w tt Tryz.func341 rfl [.c [] (Qum hp)] rfl rfl trivial
theorem Q2g {p:List Int} (hp:Pb p):Qd Tryz.prog 343 [pr p] [.one (.int .i64 (Cf p))]:=w tt Tryz.func343 rfl [.c [] (Qum hp)] rfl rfl trivial
theorem Q7l {q:Rat} (hq:Qs 4294967295 q):Qd Tryz.prog 156 [.agg (rl q)] [.agg (rl (-q))]:=by
  exact w tt Tryz.func156 rfl [.c [] (Oy hq),.c [] (Oj (Qe _) hq.1)] rfl rfl trivial
theorem Qhz {l:List (List Int)} {fid:Nat} {sg:List Int→Int} (hl:l.length≤1000) (hs:∀ p,-1≤sg p∧sg p≤1) (h:∀ p∈l,Qd Tryz.prog fid [pr p] [.one (.int .i64 (sg p))]):Qd Tryz.prog 300 [.one (.sh [.row (Yq l)]),.one (.fn fid [] [])] [.one (.int .i64 (Ki sg l:Nat))]:=by
  have hpl:=Fe l
  refine Z7 Tryz.func300 rfl ?_
  refine go tt [] rfl trivial ?_
  refine lp (S:=Nat) 0 (fun L1 i=>(15,.v (.one (.int .i64 (i:Int))))::(5,.v (.one (.int .i64 ((Na sg l i).1:Int))))::(6,.v (.one (.int .i64 (Na sg l i).2)))::L1) (fun _=>[]) (fun i=>l.length-i) (fun i=>i≤l.length) 0 (Nat.zero_le _) rfl (fun _ _=>rfl) rfl fun i hi=>?_
  by_cases hlt:i<l.length
  · obtain ⟨p,hp⟩:∃ p,l[i]? = some p:=⟨_,List.getElem?_eq_getElem hlt⟩
    have hst:Na sg l (i+1)=Yh sg (Na sg l i) p:=Uo _ _ _ hp
    obtain ⟨b1,b2,b3⟩:=Qgz hs l i
    have b4:=hs p
    by_cases h0:sg p=0
    · refine go tt [.t (by simp [hpl]; omega),.x (Ji hp),.c [] (h p (List.mem_of_getElem? hp)),.t (by simpa using h0)] rfl (by simp [Qa]; omega) ?_
      exact rd (i+1) (by omega) hlt (by rw [hst,show Yh sg (Na sg l i) p=Na sg l i from by unfold Yh; rw [if_pos h0]]; rfl)
    · by_cases h1:(Na sg l i).2=-(sg p)
      · refine go tt [.t (by simp [hpl]; omega),.x (Ji hp),.c [] (h p (List.mem_of_getElem? hp)),.f (by simpa using h0),.t (by simpa using h1)] rfl (by simp [Qa]; omega) ?_
        exact rd (i+1) (by omega) hlt (by rw [hst,show Yh sg (Na sg l i) p=((Na sg l i).1+1,sg p) from by unfold Yh; rw [if_neg h0,if_pos h1]]; rfl)
      · refine go tt [.t (by simp [hpl]; omega),.x (Ji hp),.c [] (h p (List.mem_of_getElem? hp)),.f (by simpa using h0),.f (by simpa using h1)] rfl (by simp [Qa]; omega) ?_
        exact rd (i+1) (by omega) hlt (by rw [hst,show Yh sg (Na sg l i) p=((Na sg l i).1,sg p) from by unfold Yh; rw [if_neg h0,if_neg h1]]; rfl)
  · obtain rfl:i=l.length:=by omega
    refine en tt [.f (by simp [hpl])] rfl ?_ trivial
    unfold Na Ki; rw [List.take_length]
theorem Lp (p:List Int):(-1≤Se p∧Se p≤1)∧-1≤Cf p∧Cf p≤1:=by
  have hb:-1≤(Qt p).sign∧(Qt p).sign≤1:=by rcases Gh (Qt p) with h | h | h <;> omega
  unfold Se Cf
  split <;> omega
theorem Q1q {l:List (List Int)} (hl:l.length≤1000) (hp:∀ p∈l,Pb p):Qd Tryz.prog 321 [.one (.sh [.row (Yq l)])] [.one (.int .i64 (P0 l))]:=by
  have c1:Qd Tryz.prog 332 [.one (.sh [.row (Yq l)])] [.one (.int .i64 (Ki Se l:Nat))] :=
    w tt Tryz.func332 rfl [.c [] (Qhz hl (fun p=>(Lp p).1) fun p h=>Qvo (hp p h))] rfl rfl trivial
  have c2:Qd Tryz.prog 333 [.one (.sh [.row (Yq l)])] [.one (.int .i64 (Ki Cf l:Nat))] :=
    w tt Tryz.func333 rfl [.c [] (Qhz hl (fun p=>(Lp p).2) fun p h=>Q2g (hp p h))] rfl rfl trivial
  have b1:Ki Se l≤l.length:=Ul (fun p=>(Lp p).1) l
  have b2:Ki Cf l≤l.length:=Ul (fun p=>(Lp p).2) l
  exact w tt Tryz.func321 rfl [.c [] c1,.c [] c2] rfl rfl (by simp [Qa]; omega)
theorem Qk5 {l:List (List Int)} {lo hi:Rat} (hl:l.length≤1000):-1000≤Jc l lo hi∧Jc l lo hi≤1000:=by
  have b1:Wa l lo≤l.length:=Ul (fun p=>Rf p lo) l
  have b2:Wa l hi≤l.length:=Ul (fun p=>Rf p hi) l
  unfold Jc; split <;> omega
end Orr

namespace Orr
open Go Go.Proofs Orq
set_option maxRecDepth 10000
abbrev tal (l:List Tm):List (List LV):=l.map fun t=>ta t
theorem Ix {p:List Int} {c:List (List Int)} (hp:Pb p):∀ {k:Nat} {lo hi:Rat} {n:Int} {r:List Tm},Qb lo→Qb hi→Ge p c k lo hi n=some r→∀ t∈r,Tb t
  | 0,_,_,_,_,_,_,h=>by cases h
  |
   k+1,lo,hi,n,r,hl,hh,h=>by
   simp only [Ge] at h
   split at h
   · injection h with h; subst h; exact fun t ht=>by cases ht
   · split at h
     · injection h with h; subst h
       intro t ht; rw [List.mem_singleton.1 ht]; exact ⟨hp,hl,hh⟩
     · obtain ⟨m,hm,h⟩:=Option.bind_eq_some_iff.1 h
       obtain ⟨rfl,qm⟩:=Oz hm
       obtain ⟨x,hx,h⟩:=Option.bind_eq_some_iff.1 h
       obtain ⟨y,hy,h⟩:=Option.bind_eq_some_iff.1 h
       injection h with h; subst h
       intro t ht
       rcases List.mem_append.1 ht with ht | ht
       · exact Ix hp hl qm hx t ht
       · exact Ix hp qm hh hy t ht
theorem Q9f (l:List Tm):∀ c∈tal l,c.length=9:=fun c hc=>by obtain ⟨t,_,rfl⟩:=List.mem_map.1 hc; rfl
theorem Qlr {p:List Int} {c:List (List Int)} (hp:Pb p) (hcl:c.length≤1000) (hc:∀ q∈c,Pb q):∀ {k:Nat} {lo hi:Rat} {n:Int} {r:List Tm},Qb lo→Qb hi→k≤100000→-(1000*(100001-k:Nat))≤n∧n≤1000*(100001-k:Nat)→Ge p c k lo hi n=some r→r.length≤1000000→Zw Tryz.prog 320 [pr p,.one (.sh [.row (Yq c)]),.agg (rl lo),.agg (rl hi),.one (.int .i64 n)] [] [.one (.orow 0 9 none)] [.row false 67 9 (tal r)]
  | 0,_,_,_,_,_,_,_,_,h,_=>by cases h
  |
   k+1,lo,hi,n,r,hl,hh,hk,hn,h,hr=>by
   simp only [Ge] at h
   split at h
   · rename_i h0
     injection h with h; subst h
     refine Z7 Tryz.func320 rfl ?_
     exact ed tt [] [2] [.t (by simpa using h0),.o 10 67 9] rfl trivial
   · rename_i h0
     split at h
     · rename_i h1
       injection h with h; subst h
       refine Z7 Tryz.func320 rfl ?_
       exact ed tt [] [2] [.f (by simpa using h0),.t (by simpa using h1),.c [] (X1 hp.t hp.ln hp.bd),.c [] (Gq hl.s32),.c [] (Gq hh.s32),.lo] rfl trivial
     · rename_i h1
       obtain ⟨m,hm,h⟩:=Option.bind_eq_some_iff.1 h
       obtain ⟨rfl,qm⟩:=Oz hm
       obtain ⟨x,hx,h⟩:=Option.bind_eq_some_iff.1 h
       obtain ⟨y,hy,h⟩:=Option.bind_eq_some_iff.1 h
       injection h with h; subst h
       have hb:=Qk5 (l:=c) (lo:=lo) (hi:=mid lo hi) hcl
       rw [List.length_append] at hr
       have c1:=Qlr hp hcl hc hl qm (by omega) (by omega) hx (by omega)
       have c2:=Qlr hp hcl hc qm hh (by omega) (by omega) hy (by omega)
       rw [show tal (x++y)=tal x++tal y from List.map_append]
       refine Z7 Tryz.func320 rfl ?_
       exact ed tt [] [3] [.f (by simpa using h0),.f (by simpa using h1),.c [] (Q5q hl hh),.c [] (Qci hcl hc hl qm),.c [3] c1,.c [4] c2,.s (Q9f y)] rfl (by simp [Qa]; omega)
theorem Q13 {p:List Int} {r:List Tm} (hp:Pb p) (h:Qbn p=some r) (hr:r.length≤1000000):Qd Tryz.prog 303 [pr p] [.one (tas r),.one (.int .i64 0)]:=by
  unfold Qbn at h
  obtain ⟨c,h1,h⟩:=Option.bind_eq_some_iff.1 h
  obtain ⟨q,h2,h⟩:=Option.bind_eq_some_iff.1 h
  obtain ⟨b,h3,h⟩:=Option.bind_eq_some_iff.1 h
  obtain ⟨rfl,hb⟩:=Oz h3
  obtain ⟨k1,k2⟩:=chain_ok hp h1
  have hq:=Ek hp h2
  have q0:q.length≠0:=by
    unfold Hr at h1
    obtain ⟨a,a1,h1⟩:=Option.bind_eq_some_iff.1 h1
    rw [h2] at a1; injection a1 with a1; subst a1
    split at h1
    · cases h1
    · assumption
  have qn:Qb (-Zz q):=⟨by rw [Rat.neg_num,Xc]; exact hb.1,by rw [Rat.neg_den]; exact hb.2⟩
  have bb1:Ki Se c≤c.length:=Ul (fun p=>(Lp p).1) c
  have bb2:Ki Cf c≤c.length:=Ul (fun p=>(Lp p).2) c
  have hn:-(1000*(100001-100000:Nat):Int)≤P0 c∧P0 c≤1000*(100001-100000:Nat):=by unfold P0; omega
  have cr:=Qlr hq (by omega) k2 qn hb (Nat.le_refl _) hn h hr
  refine Z7 Tryz.func303 rfl ?_
  exact ed tt [1] [] [.c [] (Qu9 hp h1),.f rfl,.c [] (Oo hp h2),.c [] (Q1p hq q0),.c [] (Q7l hb.s32),.c [] (Q1q (by omega) k2),.c [1] cr] rfl trivial
end Orr

namespace Orr
open Go Go.Proofs Orq
set_option maxRecDepth 10000
def Qn (l:List Pt):List (List LV):=l.map Zu
theorem Ur {l:List Pt} {i:Nat} {c:Pt} (h:l[i]? = some c):(Qn l)[i]? = some (Zu c):=Xd h
theorem Wu (l:List Pt):(Qn l).length=l.length:=by simp [Qn]
theorem Qq6 (l:List Pt):∀ c∈Qn l,c.length=5:=fun c hc=>by
  obtain ⟨x,_,rfl⟩:=List.mem_map.1 hc; rfl
end Orr

namespace Orr
open Go Go.Proofs Orq
set_option maxRecDepth 10000
theorem Q14:Qd Tryz.prog 230 [pr []] [.one .nilp,.one (.int .i64 2)]:=by
  have h:Vf []=some []:=rfl
  exact w tt Tryz.func230 rfl [.c [] (Oo Ej h),.t rfl] rfl rfl trivial
theorem Qu8:Qd Tryz.prog 303 [pr []] [.one (.row []),.one (.int .i64 2)] :=
  w tt Tryz.func303 rfl [.c [] Q14,.t rfl] rfl rfl trivial
theorem Q8o {a o:List Int} (ha:Pb a) (h:Qmt a=some o):Pb o:=by
  unfold Qmt at h
  split at h
  · injection h with h; subst h; exact Ej
  · obtain ⟨l,hl,h⟩:=Option.bind_eq_some_iff.1 h
    obtain ⟨fs,hf,h⟩:=Option.bind_eq_some_iff.1 h
    exact Mp Qyp (Qff (Il (X2 ha) hl).2 hf) h
theorem Quo {p:List Int} {l:List Tm} (hp:Pb p) (h:Bm p=some l) (hl:l.length≤1000000):Qd Tryz.prog 276 [pr p] [.one (tas l)]:=by
  unfold Bm at h
  obtain ⟨q,hq,h⟩:=Option.bind_eq_some_iff.1 h
  have qp:=Q8o hp hq
  have co:=Zaa hp hq
  split at h
  · rename_i h0
    injection h with h; subst h
    obtain rfl:=List.eq_nil_of_length_eq_zero h0
    exact w tt Tryz.func276 rfl [.c [] co,.c [] Qu8,.t rfl] rfl rfl trivial
  · exact w tt Tryz.func276 rfl [.c [] co,.c [] (Q13 qp h hl),.f rfl] rfl rfl trivial
def ota:Option Tm→List LV
  | none=>zTr
  | some t=>ta t
theorem Q1s {p:List Int} {a:Tm} {l:List Tm} {r:Option Tm} (hp:Pb p) (ha:Tb a) (h:Bm p=some l) (hl:l.length≤1000000) (ht:∀ t∈l,Tb t) (hr:Nf a l=some r):Qd Tryz.prog 241 [pr p,.agg (ta a)] [.agg (ota r),.one (.bool r.isSome)]:=by
  have hll:(l.map fun t=>ta t).length=l.length:=by simp
  refine Z7 Tryz.func241 rfl ?_
  refine go tt [.c [] (Quo hp h hl)] rfl trivial ?_
  refine lp (S:=Nat) 2 (fun L1 i=>(11,.v (.one (.int .i64 (i:Int))))::L1) (fun _=>[.blk 67 (ta a),.blk 67 zTm]) (fun i=>l.length-i) (fun i=>i≤l.length∧Nf a (l.drop i)=some r) 0 ⟨Nat.zero_le _,hr⟩ rfl (fun _ _=>rfl) rfl fun i ⟨hi,hf⟩=>?_
  by_cases hlt:i<l.length
  · obtain ⟨t,hx⟩:∃ t,l[i]? = some t:=⟨_,List.getElem?_eq_getElem hlt⟩
    have hdr:l.drop i=t::l.drop (i+1):=by
      rw [List.drop_eq_getElem_cons hlt]; congr 1
      have:=List.getElem?_eq_getElem hlt; rw [hx] at this; injection this with this; exact this.symm
    rw [hdr] at hf
    simp only [Nf] at hf
    obtain ⟨c,c1,hf⟩:=Option.bind_eq_some_iff.1 hf
    have cc:=Og (ht t (List.mem_of_getElem? hx)) ha c1
    by_cases hc:0<c
    · rw [if_pos hc] at hf
      injection hf with hf; subst hf
      exact en tt [.t (by simp; omega),.x (I7 hx),.c [] cc,.t (by simpa using hc)] rfl rfl trivial
    · rw [if_neg hc] at hf
      refine go tt [.t (by simp; omega),.x (I7 hx),.c [] cc,.f (by simpa using hc)] rfl (by simp [Qa]; omega) ?_
      exact rd (i+1) (by omega) ⟨hlt,hf⟩ rfl
  · obtain rfl:i=l.length:=by omega
    rw [List.drop_length] at hf
    simp only [Nf] at hf
    injection hf with hf; subst hf
    exact en tt [.f (by simp)] rfl rfl trivial
end Orr

namespace Orr
open Go Go.Proofs Orq
set_option maxRecDepth 10000
def Pk (now:Tm):List Wt→Option (List Wt)
  | []=>some []
  | w::l=>(if w.known=true then some w else (Ag w.c.p now).bind fun r=>some ⟨w.c,true,r⟩).bind fun w'=>(Pk now l).bind fun r=>some (w'::r)
theorem Ee {now:Tm}:∀ {l ws:List Wt},Pk now l=some ws→ws.length=l.length∧∀ (i:Nat) (w:Wt),l[i]? = some w→∃ v,ws[i]? = some v∧(w.known=true∧v=w∨w.known=false∧∃ r,Ag w.c.p now=some r∧v=⟨w.c,true,r⟩)
  | [],ws,h=>by injection h with h; subst h; exact ⟨rfl,fun i x hx=>by simp at hx⟩
  |
   y::l,ws,h=>by
   simp only [Pk] at h
   obtain ⟨v,hv,h⟩:=Option.bind_eq_some_iff.1 h
   obtain ⟨r,hr,h⟩:=Option.bind_eq_some_iff.1 h
   injection h with h; subst h
   obtain ⟨a,b⟩:=Ee hr
   refine ⟨by simp [a],fun i x hx=>?_⟩
   cases i with
   |
    zero =>
    injection hx with hx; subst hx
    refine ⟨v,rfl,?_⟩
    split at hv
    · rename_i hk; injection hv with hv; exact .inl ⟨hk,hv.symm⟩
    · rename_i hk
      obtain ⟨q,hq,hv⟩:=Option.bind_eq_some_iff.1 hv
      injection hv with hv
      exact .inr ⟨by simpa using hk,q,hq,hv.symm⟩
   | succ i=>exact b i x (by simpa using hx)
theorem Qun {p:List Int} {a:Tm} {r:Option Tm} (hp:Cp p) (ha:Va a) (h:Ag p a=some r):Qd Tryz.prog 241 [pr p,.agg (ta a)] [.agg (ota r),.one (.bool r.isSome)]:=by
  obtain ⟨l,l1,l2,l3,_⟩:=P9 hp
  unfold Ag at h
  rw [l1] at h
  exact Q1s (Dp.pb hp.dp) ha.tb l1 (by omega) (fun t ht=>(l3 t ht).tb) h
theorem Q1u {T:Nat} {c:Cr} {r0 r1:List (List LV)} {ws:List Wt} (hc:CrOk c) (h:Pk c.now c.l=some ws):Zw Tryz.prog 195 [.one (.ow 0 0)] [.blk T (Y8 c r0 r1)] [] [.blk T (Y8 { c with l:=ws } r0 r1)]:=by
  have hk:=hc.k
  have hw:=Um c.l
  obtain ⟨h1,h2⟩:=Ee h
  refine Z7 Tryz.func195 rfl ?_
  refine go tt [.o 2 164 18,.c [0] (Qes hc.n)] rfl trivial ?_
  refine lp (S:=Nat) 3 (fun L1 i=>(13,.v (.one (.int .i64 (i:Int))))::(2,.v (.one (.orow 1 18 none)))::L1) (fun i=>[.blk T (Y8 c r0 r1),.row false 164 18 (Bq (ws.take i)),.blk 67 (ta c.now)]) (fun i=>c.l.length-i) (fun i=>i≤c.l.length) 0 (Nat.zero_le _) rfl (fun _ _=>rfl) rfl fun i hi=>?_
  by_cases hlt:i<c.l.length
  · obtain ⟨w,hx⟩:∃ w,c.l[i]? = some w:=⟨_,List.getElem?_eq_getElem hlt⟩
    obtain ⟨v,hv,h3⟩:=h2 i w hx
    have hm:∀ y∈[wl v],y.length=18:=fun y hy=>by rw [List.mem_singleton.1 hy]; rfl
    have hg:=Ey hv
    have hl:decide ((i:Int)<((Bq c.l).length:Int))=true:=by simp [hw]; omega
    rcases h3 with ⟨k1,rfl⟩ | ⟨k1,r,k2,rfl⟩
    · obtain ⟨vc,vk,vf⟩:=v
      cases vf <;> (refine go tt [.t hl,.x (Y5 hx),.f (by rw [show vk=true from k1]; rfl),.s (sz:=18) hm] rfl (by simp [Qa,Um]; omega) ?_; exact rd (i+1) (by omega) hlt (by rw [hg]; rfl))
    · have cg:=Qun (hc.l w (List.mem_of_getElem? hx)).p hc.n k2
      obtain ⟨wc,wk,wf⟩:=w
      cases r <;> cases wf <;> (refine go tt [.t hl,.x (Y5 hx),.t (by rw [show wk=false from k1]; rfl),.c [] cg,.s (sz:=18) hm] rfl (by simp [Qa,Um]; omega) ?_; exact rd (i+1) (by omega) hlt (by rw [hg]; rfl))
  · obtain rfl:i=c.l.length:=by omega
    rw [←h1,List.take_length]
    exact ed tt [1] [0] [.f (by simp [hw,h1])] rfl trivial
def Qjd (ws:List Wt):Option (Option Tm):=match ws.filterMap (·.fails) with
  | []=>some none
  | b::l=>(Tn b l).map some
theorem Io {c:Cr} {ws:List Wt} (hc:CrOk c) (h:Pk c.now c.l=some ws):CrOk { c with l:=ws }:=by
  obtain ⟨h1,h2⟩:=Ee h
  refine ⟨hc.n,fun v hv=>?_,by show ws.length≤1000; rw [h1]; exact hc.k⟩
  obtain ⟨i,hi⟩:=List.getElem?_of_mem hv
  have hil:i<c.l.length:=by rw [←h1]; exact (List.getElem?_eq_some_iff.1 hi).1
  obtain ⟨v',h3,h4⟩:=h2 i _ (List.getElem?_eq_getElem hil)
  rw [hi] at h3; injection h3 with h3; subst h3
  have hw:=hc.l _ (List.getElem_mem hil)
  rcases h4 with ⟨_,rfl⟩ | ⟨_,r,k2,rfl⟩
  · exact hw
  · obtain ⟨r',r1,r2⟩:=Qyd hw.p hc.n
    rw [k2] at r1; injection r1 with r1; subst r1
    refine ⟨hw.p,fun t ht=>?_⟩
    have ht:r=some t:=ht
    subst ht
    exact r2.2.1
theorem Q1v {T:Nat} {c:Cr} {r0 r1:List (List LV)} {ws:List Wt} {r:Option Tm} (hc:CrOk c) (h:Pk c.now c.l=some ws) (hr:Qjd ws=some r):Zw Tryz.prog 135 [.one (.ow 0 0)] [.blk T (Y8 c r0 r1)] [.agg (ota r),.one (.bool r.isSome)] [.blk T (Y8 { c with l:=ws } r0 r1)]:=by
  have hcl:=Q1u (T:=T) (r0:=r0) (r1:=r1) hc h
  have hc':=Io hc h
  have hk:=hc'.k
  have hw:=Um ws
  have hvb:∀ t∈ws.filterMap (·.fails),Tb t:=fun t ht=>by
    obtain ⟨w,w1,w2⟩:=List.mem_filterMap.1 ht
    exact ((hc'.l w w1).f t w2).tb
  refine Z7 Tryz.func135 rfl ?_
  refine go tt [.c [0] hcl,.o 4 67 9] rfl trivial ?_
  refine lp (S:=Nat) 3 (fun L1 i=>(14,.v (.one (.int .i64 (i:Int))))::(4,.v (.one (.orow 2 9 none)))::L1) (fun i=>[.blk T (Y8 { c with l:=ws } r0 r1),.blk 67 zTm,.row false 67 9 (tal ((ws.take i).filterMap (·.fails)))]) (fun i=>ws.length-i) (fun i=>i≤ws.length) 0 (Nat.zero_le _) rfl (fun _ _=>rfl) rfl fun i hi=>?_
  by_cases hlt:i<ws.length
  · obtain ⟨w,hx⟩:∃ w,ws[i]? = some w:=⟨_,List.getElem?_eq_getElem hlt⟩
    have hl:decide ((i:Int)<((Bq ws).length:Int))=true:=by simp [hw]; omega
    have hfl:((ws.take i).filterMap (·.fails)).length≤i:=Nat.le_trans (List.length_filterMap_le _ _) (by rw [List.length_take]; omega)
    have hg:(ws.take (i+1)).filterMap (·.fails)=(ws.take i).filterMap (·.fails)++(match w.fails with | none=>[] | some t=>[t]):=by
      rw [List.take_succ,hx,List.filterMap_append]
      show _++List.filterMap (·.fails) [w]=_
      cases hwf:w.fails <;> simp [hwf]
    obtain ⟨wc,wk,wf⟩:=w
    have hk:ws.length≤1000:=hk
    cases wf with
    |
     none =>
     refine go tt [.t hl,.x (Y5 hx),.f rfl] rfl (by simp [Qa]; omega) ?_
     exact rd (i+1) (by omega) hlt (by rw [hg]; simp; rfl)
    |
     some t =>
     refine go tt [.t hl,.x (Y5 hx),.t rfl,.s (l:=[ta t]) (sz:=9) (fun c hc=>by rw [List.mem_singleton.1 hc]; rfl)] rfl (by simp [Qa]; omega) ?_
     exact rd (i+1) (by omega) hlt (by rw [hg]; simp [tal]; rfl)
  · obtain rfl:i=ws.length:=by omega
    rw [List.take_length]
    have hf:decide ((ws.length:Int)<((Bq ws).length:Int))=false:=by simp [hw]
    have hln:(ws.filterMap (·.fails)).length≤1000:=Nat.le_trans (List.length_filterMap_le _ _) hk
    unfold Qjd at hr
    cases hfm:ws.filterMap (·.fails) with
    |
     nil =>
     rw [hfm] at hr
     injection hr with hr; subst hr
     exact ed tt [] [0] [.f hf,.p 2,.c [] Quq] rfl trivial
    |
     cons b l =>
     rw [hfm] at hr hvb hln
     obtain ⟨m,m1,rfl⟩:=Option.map_eq_some_iff.1 hr
     have cl:=Sq (hvb b (List.mem_cons_self ..)) (fun t ht=>hvb t (List.mem_cons_of_mem _ ht)) (by simp at hln; omega) m1
     exact ed tt [] [0] [.f hf,.p 2,.c [] cl] rfl trivial
end Orr

namespace Orr
open Go Go.Proofs Orq
set_option maxRecDepth 10000
theorem Qa2 {at_:Tm} {x:Ct}:∀ {l:List Wt} {w:Wt},Fw l x at_=some w→w=fresh x∨∃ v∈l,v.known=true∧v.c.p=x.p∧w=⟨x,true,v.fails⟩∧∀ t,v.fails=some t→∃ c,Li t at_=some c∧0<c
  | [],w,h=>by simp only [Fw] at h; injection h with h; exact .inl h.symm
  |
   v::l,w,h=>by
   simp only [Fw] at h
   have tl:Fw l x at_=some w→w=fresh x∨∃ v'∈v::l,v'.known=true∧v'.c.p=x.p∧w=⟨x,true,v'.fails⟩∧∀ t,v'.fails=some t→∃ c,Li t at_=some c∧0<c:=fun h=>by
     rcases Qa2 h with h | ⟨v',h1,h2⟩
     · exact .inl h
     · exact .inr ⟨v',List.mem_cons_of_mem _ h1,h2⟩
   split at h
   · rename_i hk
     cases hf:v.fails with
     |
      none =>
      rw [hf] at h
      injection h with h
      exact .inr ⟨v,List.mem_cons_self ..,hk.2.1,hk.2.2,by rw [hf]; exact h.symm,fun t ht=>by rw [hf] at ht; cases ht⟩
     |
      some t =>
      rw [hf] at h
      obtain ⟨c,c1,h⟩:=Option.bind_eq_some_iff.1 h
      split at h
      · rename_i h0
        injection h with h
        exact .inr ⟨v,List.mem_cons_self ..,hk.2.1,hk.2.2,by rw [hf]; exact h.symm,fun u hu=>by rw [hf] at hu; injection hu with hu; subst hu; exact ⟨c,c1,h0⟩⟩
      · exact tl h
   · exact tl h
theorem lay_ok {c:Cr} {at_:Tm} {l:List Ct} {ws:List Wt} (ev:Int) (hc:CrOk c) (ha:Va at_) (hl:∀ x∈l,Cp x.p) (hn:l.length≤1000) (h:Gy c.l at_ (Zb l)=some ws):CrOk ⟨at_,ws,ev⟩:=by
  obtain ⟨h1,h2⟩:=Co h
  refine ⟨ha,fun w hw=>?_,by show ws.length≤1000; rw [h1,Fh]; exact hn⟩
  obtain ⟨i,hi⟩:=List.getElem?_of_mem hw
  have hil:i<(Zb l).length:=by rw [←h1]; exact (List.getElem?_eq_some_iff.1 hi).1
  obtain ⟨v,h3,h4⟩:=h2 i _ (List.getElem?_eq_getElem hil)
  rw [hi] at h4; injection h4 with h4; subst h4
  have hx:=hl _ (Rm (List.getElem_mem hil))
  rcases Qa2 h3 with e | ⟨v,v1,_,v3,e,_⟩
  · rw [e]; exact ⟨hx,fun t ht=>by cases ht⟩
  · rw [e]; exact ⟨hx,fun t ht=>(hc.l v v1).f t ht⟩
def goF {β:Type} (Bc:Tm→List Ct) (Br:Tm→β) (t:Rat):Nat→Cr→β→Int→Option (Cr×β×Int)
  | 0,_,_,_=>none
  |
   k+1,c,r,n=>(Pk c.now c.l).bind fun ws=>(Qjd ws).bind fun o=>match o with
   | none=>some (⟨tq t,ws,c.ev⟩,r,n)
   | some a=>if 0<Q3 a t then some (⟨tq t,ws,c.ev⟩,r,n) else (Gy ws a (Zb (Bc a))).bind fun w2=>goF Bc Br t k ⟨a,w2,c.ev+1⟩ (Br a) (n+1)
theorem Qyh {ws:List Wt} {a:Tm} (h:Qjd ws=some (some a)) (hv:∀ t∈ws.filterMap (·.fails),Va t):a∈ws.filterMap (·.fails)∧∀ t∈ws.filterMap (·.fails),¬Un t a:=by
  unfold Qjd at h
  cases hf:ws.filterMap (·.fails) with
  | nil=>rw [hf] at h; injection h with h; cases h
  |
   cons b l =>
   rw [hf] at h hv
   obtain ⟨m,m1,m2⟩:=Option.map_eq_some_iff.1 h
   injection m2 with m2; subst m2
   obtain ⟨m',n1,n2,n3⟩:=Ea l b hv
   rw [m1] at n1; injection n1 with n1; subst n1
   exact ⟨n2,n3⟩
theorem Q8n {c:Cr} {ws:List Wt} {a:Tm} (hc:CrOk c) (h:Pk c.now c.l=some ws) (hr:Qjd ws=some (some a)):Va a:=by
  have hc':=Io hc h
  have hv:∀ t∈ws.filterMap (·.fails),Va t:=fun t ht=>by
    obtain ⟨w,w1,w2⟩:=List.mem_filterMap.1 ht
    exact (hc'.l w w1).f t w2
  exact hv a (Qyh hr hv).1
structure BuildOk (Bc:Tm→List Ct):Prop where
  p:∀ a,Va a→∀ x∈Bc a,Cp x.p
  n:∀ a,Va a→(Bc a).length≤1000
theorem Qcj {T:Nat} {c:Cr} {r0 r1:List (List LV)}:Zw Tryz.prog 34 [.one (.ow 0 0)] [.blk T (Y8 c r0 r1)] [.one (.int .i64 c.ev)] [.blk T (Y8 c r0 r1)]:=by
  refine Z7 Tryz.func34 rfl ?_
  exact ed tt [] [0] [] rfl trivial
end Orr

namespace Orr
open Go Go.Proofs Orq
set_option maxRecDepth 10000
end Orr

namespace Orr
open Go Go.Proofs Orq
set_option maxRecDepth 10000
theorem Qsi {a:Tm} (ha:Va a):Li a a=some 0:=by
  obtain ⟨c,c1,c2⟩:=B8 ha ha
  rcases c2 with ⟨_,h⟩ | ⟨e,_⟩ | ⟨_,h⟩
  · exact absurd h fun h=>Pm ha.cut ha.cut h h
  · rw [c1,e]
  · exact absurd h fun h=>Pm ha.cut ha.cut h h
end Orr

namespace Orr
open Go Go.Proofs Orq
set_option maxRecDepth 10000
abbrev idl (l:List Int):List (List LV):=l.map fun (z:Int)=>[.int .i64 z]
def Hl (v n:Int):Int:=if n<1 then 0 else v.emod n
theorem Qtx {v n:Int} (h:0<n):(if v.tmod n<0 then v.tmod n+n else v.tmod n)=v % n:=by
  have h3:=Int.emod_nonneg v (show n≠0 by omega)
  have h4:=Int.emod_lt_of_pos v h
  have h1:=Int.tmod_eq_emod (a:=v) (b:=n)
  have hn:((n.natAbs:Nat):Int)=n:=by omega
  split at h1
  · rw [h1]; simp; omega
  · rename_i hc
    rw [h1,hn]
    have:v % n≠0:=fun e=>hc (.inr (Int.dvd_of_emod_eq_zero e))
    rw [if_pos (by omega)]; omega
theorem Sr {v n:Int} (hv:-9223372036854775808≤v∧v≤9223372036854775807) (hn:n≤1000000000):Qd Tryz.prog 15 [.one (.int .i64 v),.one (.int .i64 n)] [.one (.int .i64 (Hl v n))]:=by
  unfold Hl
  by_cases h:n<1
  · rw [if_pos h]
    exact w tt Tryz.func15 rfl [.t (by simpa using h)] rfl rfl trivial
  · rw [if_neg h]
    have e:=Qtx (v:=v) (n:=n) (by omega)
    have h3:=Int.emod_nonneg v (show n≠0 by omega)
    have h4:=Int.emod_lt_of_pos v (show 0<n by omega)
    show Qd Tryz.prog 15 [.one (.int .i64 v),.one (.int .i64 n)] [.one (.int .i64 (v % n))]
    by_cases h0:v.tmod n<0
    · rw [if_pos h0] at e
      have b:-n≤v.tmod n:=by omega
      exact w tt Tryz.func15 rfl [.f (by simpa using h),.t (by simpa using h0)] rfl (by rw [e]) (by simp [Qa]; omega)
    · rw [if_neg h0] at e
      exact w tt Tryz.func15 rfl [.f (by simpa using h),.f (by simpa using h0)] rfl (by rw [e]) (by simp [Qa]; omega)
end Orr

namespace Orr
open Go Go.Proofs
set_option maxRecDepth 10000
def frow (p:List Rat):List (List LV):=p.map fr
theorem Jt (p:List Rat):(frow p).length=p.length:=by simp [frow]
theorem Fu {p:List Rat} {i:Nat} {q:Rat} (h:p[i]? = some q):(frow p)[i]? = some (fr q):=Xd h
theorem Qdc (p:List Rat) (q:Rat):frow (p++[q])=frow p++[fr q]:=by simp [frow]
theorem Lt (p:List Rat):∀ c∈frow p,c.length=4:=fun c hc=>by obtain ⟨x,_,rfl⟩:=List.mem_map.1 hc; rfl
abbrev rp (p:List Rat):LV:=.row (frow p)
theorem Qmn (q:Rat):∀ c∈[fr q],c.length=4:=fun c hc=>by rw [List.mem_singleton.1 hc]; rfl
theorem Qvi:Qd Tryz.prog 308 [] [.agg (fr 0)]:=w tt Tryz.func308 rfl [.c [] (Ol (n:=0) (by decide))] rfl rfl trivial
theorem Su {p:List Rat}:Qd Tryz.prog 280 [.one (rp p)] [.one (rp (Wj p))]:=by
  refine Z7 Tryz.func280 rfl (ln 0 rfl rfl fun hl=>?_)
  rw [Jt] at hl
  have hpl:=Jt p
  refine go tt [] rfl trivial ?_
  refine lp (S:=Nat) 0 (fun L1 n=>(3,.v (.one (.int .i64 (n:Int))))::L1) (fun _=>[]) id (fun n=>n≤p.length∧∀ j x,n≤j→p[j]? = some x→x=0) (frow p).length ⟨by rw [hpl]; exact Nat.le_refl _,fun j x h1 h2=>by
    have:=(List.getElem?_eq_some_iff.1 h2).1; rw [hpl] at h1; omega⟩ rfl (fun _ _=>rfl) rfl fun n hs=>?_
  obtain ⟨h1,h2⟩:=hs
  cases n with
  |
   zero =>
   have e:=Er h1 (fun j x h=>h2 j x h) (fun h=>absurd h (by decide))
   exact en tt [.g 8 false (by simp),.f rfl,.i 0] rfl (by rw [e]; rfl) (by simp [Qa])
  |
   succ n =>
   obtain ⟨x,hx⟩:∃ x,p[n]? = some x:=⟨_,List.getElem?_eq_getElem (by omega)⟩
   have hn:=Rat.num_eq_zero (q:=x)
   by_cases h0:x=0
   · refine go tt [.g 8 true (by simp),.r 11 (eI (b:=(n:Int)) (by simp)),.x (Fu hx),.c [] (Vy (z:=x.num)),.t (decide_eq_true (hn.2 h0)),.r 18 (eI (b:=(n:Int)) (by simp))] rfl (by simp [Qa]; omega) ?_
     exact rd n (by simp) ⟨by omega,fun j y h3 h4=>by
         rcases Nat.eq_or_lt_of_le h3 with rfl | h3
         · rw [hx] at h4; injection h4 with h4; rw [←h4,h0]
         · exact h2 j y h3 h4⟩ rfl
   · have e:=Er h1 (fun j x h=>h2 j x h) (fun _=>⟨x,hx,h0⟩)
     exact en tt [.g 8 true (by simp),.r 11 (eI (b:=(n:Int)) (by simp)),.x (Fu hx),.c [] (Vy (z:=x.num)),.f (decide_eq_false fun h=>h0 (hn.1 h)),.i (n+1)] rfl (by rw [e]; simp [rp,frow,List.map_take]) (by simp [Qa,hpl] <;> omega)
theorem Q5x {p:List Rat} {i:Nat} (hi:i<1099511627776):Qd Tryz.prog 286 [.one (rp p),.one (.int .i64 (i:Int))] [.agg (fr (p.getD i 0))]:=by
  have hpl:=Jt p
  by_cases h:i<p.length
  · have e:p.getD i 0=p[i]:=by rw [List.getD_eq_getElem?_getD,List.getElem?_eq_getElem h]; rfl
    rw [e]
    exact w tt Tryz.func286 rfl [.g 7 false (decide_eq_false (by omega)),.f (decide_eq_false (by omega)),.x (Fu (List.getElem?_eq_getElem h))] rfl rfl trivial
  · have e:p.getD i 0=0:=by rw [List.getD_eq_getElem?_getD,List.getElem?_eq_none (by omega)]; rfl
    rw [e]
    exact w tt Tryz.func286 rfl [.g 7 false (decide_eq_false (by omega)),.t (decide_eq_true (by omega)),.c [] Qvi] rfl rfl trivial
theorem Qvu:Qd Tryz.prog 281 [.one (ids [1])] [.one (rp (zp [1]))]:=by
  have cc:=Su (p:=zp [1])
  rw [Wc,show trim [1]=[1] from rfl] at cc
  refine Z7 Tryz.func281 rfl ?_
  refine go tt [.o 3 49 4] rfl trivial ?_
  refine lp (S:=Nat) 1 (fun L1 i=>(7,.v (.one (.int .i64 (i:Int))))::(3,.v (.one (.orow 0 4 none)))::L1) (fun i=>[.row false 49 4 (frow ((zp [1]).take i))]) (fun i=>1-i) (fun i=>i≤1) 0 (by decide) rfl (fun _ _=>rfl) rfl fun i hi=>?_
  rcases (show i=0∨i=1 by omega) with rfl | rfl
  · refine go tt [.t rfl,.x (l:=idl [1]) (i:=0) (xs:=[.int .i64 1]) rfl,.c [] (Ol (n:=1) (by decide)),.s (sz:=4) (Qmn _)] rfl (by simp [Qa,frow]) ?_
    exact rd 1 (by omega) (by omega) rfl
  · exact en tt [.f rfl,.c [] cc] rfl rfl trivial
theorem Me {p:List Int} (hb:Bd 90000000 p) (hl:p.length≤1000000):Qd Tryz.prog 249 [pr p] [.one (rp (zp (trim p)))]:=by
  have hpl:(p.map Zt).length=p.length:=by simp
  have cc:=Su (p:=zp p)
  rw [Wc] at cc
  show Qd Tryz.prog 249 [.one (.row (p.map Zt))] _
  refine Z7 Tryz.func249 rfl ?_
  refine go tt [.o 3 49 4] rfl trivial ?_
  refine lp (S:=Nat) 1 (fun L1 i=>(7,.v (.one (.int .i64 (i:Int))))::(3,.v (.one (.orow 0 4 none)))::L1) (fun i=>[.row false 49 4 (frow (zp (p.take i)))]) (fun i=>p.length-i) (fun i=>i≤p.length) 0 (Nat.zero_le _) rfl (fun _ _=>rfl) rfl fun i hi=>?_
  have hol:(frow (zp (p.take i))).length=i:=by rw [Jt,J6,List.length_take]; omega
  by_cases h:i<p.length
  · obtain ⟨z,hz⟩:∃ z,p[i]? = some z:=⟨_,List.getElem?_eq_getElem h⟩
    have hzb:=hb z (List.mem_of_getElem? hz)
    have hg:frow (zp (p.take (i+1)))=frow (zp (p.take i))++[fr (z:Rat)]:=by
      rw [List.take_succ,hz]; simp [frow,zp]
    refine go tt [.t (decide_eq_true (by omega)),.x (Xd (f:=Zt) hz),.c [] (Oi (z:=z) (by omega)),.c [] (Ub (n:=1) (by decide)),.c [] (Vp (n:=z)),.s (sz:=4) (Qmn _)] rfl (by simp [Qa,hol,-List.getD_eq_getElem?_getD]; omega) ?_
    exact rd (i+1) (by omega) h (by rw [hg]; rfl)
  · have e:i=p.length:=by omega
    rw [e,List.take_length]
    exact en tt [.f (decide_eq_false (by omega)),.c [] cc] rfl rfl trivial
theorem Q5w {p:List Int} (hb:Bd 90000000 p) (hl:p.length≤1000000):Qd Tryz.prog 277 [.one (rp (zp p))] [pr p]:=by
  have hpl:(frow (zp p)).length=p.length:=by rw [Jt,J6]
  show Qd Tryz.prog 277 [.one (rp (zp p))] [.one (.row (p.map Zt))]
  refine Z7 Tryz.func277 rfl ?_
  refine go tt [.o 3 29 2] rfl trivial ?_
  refine lp (S:=Nat) 1 (fun L1 i=>(7,.v (.one (.int .i64 (i:Int))))::(3,.v (.one (.orow 0 2 none)))::L1) (fun i=>[.row false 29 2 ((p.take i).map Zt)]) (fun i=>p.length-i) (fun i=>i≤p.length) 0 (Nat.zero_le _) rfl (fun _ _=>rfl) rfl fun i hi=>?_
  have hol:((p.take i).map Zt).length=i:=by rw [List.length_map,List.length_take]; omega
  by_cases h:i<p.length
  · obtain ⟨z,hz⟩:∃ z,p[i]? = some z:=⟨_,List.getElem?_eq_getElem h⟩
    have hzb:=hb z (List.mem_of_getElem? hz)
    have hq:∀ c∈[Zt z],c.length=2:=fun c hc=>by rw [List.mem_singleton.1 hc]; rfl
    have hg:(p.take (i+1)).map Zt=(p.take i).map Zt++[Zt z]:=by
      rw [List.take_succ,hz]; simp
    refine go tt [.t (decide_eq_true (by omega)),.x (Fu (Q04 hz)),.c [] (Qr7 (z:=z) (by omega)),.s (sz:=2) hq] rfl (by simp [Qa]; omega) ?_
    exact rd (i+1) (by omega) h (by rw [hg]; rfl)
  · have e:i=p.length:=by omega
    rw [e,List.take_length]
    exact en tt [.f (decide_eq_false (by omega))] rfl rfl trivial
theorem Qlm {p q:List Rat} (hp:Rb 20000000 p) (hq:Rb 20000000 q) (hlp:p.length≤1000000) (hlq:q.length≤1000000):Qd Tryz.prog 255 [.one (rp p),.one (rp q)] [.one (rp (Qtl p q))]:=by
  have h1:=Jt p
  have h2:=Jt q
  obtain ⟨M,hM⟩:∃ M,M=max p.length q.length:=⟨_,rfl⟩
  have cc:=Su (p:=Sf (fun i=>p.getD i 0+q.getD i 0) M)
  unfold Qtl
  rw [←hM]
  refine Z7 Tryz.func255 rfl ?_
  refine go tt [.o 5 49 4] rfl trivial ?_
  refine lp (S:=Nat) 1 (fun L1 i=>(6,.v (.one (.int .i64 (i:Int))))::(5,.v (.one (.orow 0 4 none)))::L1) (fun i=>[.row false 49 4 (frow (Sf (fun i=>p.getD i 0+q.getD i 0) i))]) (fun i=>M-i) (fun i=>i≤M) 0 (Nat.zero_le _) rfl (fun _ _=>rfl) rfl fun i hi=>?_
  have hol:(frow (Sf (fun i=>p.getD i 0+q.getD i 0) i)).length=i:=by rw [Jt,Ds]
  by_cases h:i<M
  · refine go tt [.r 12 (eI (b:=(M:Int)) (by omega)),.t (decide_eq_true (by omega)),.c [] (Q5x (p:=p) (i:=i) (by omega)),.c [] (Q5x (p:=q) (i:=i) (by omega)),.c [] (Quj (hp.getD (by decide) i) (hq.getD (by decide) i)),.s (sz:=4) (Qmn _)] rfl (by simp [Qa,hol,-List.getD_eq_getElem?_getD]; omega) ?_
    exact rd (i+1) (by omega) h (by rw [Qei,Qdc]; rfl)
  · have e:i=M:=by omega
    rw [e]
    exact en tt [.r 12 (eI (b:=(M:Int)) (by omega)),.f (decide_eq_false (by omega)),.c [] cc] rfl rfl trivial
theorem Hq {p:List Rat} {c:Rat} (hp:Rb 40000000 p) (hc:Qs 40000000 c) (hlp:p.length≤1000000):Qd Tryz.prog 248 [.one (rp p),.agg (fr c)] [.one (rp (Vo p c))]:=by
  have h1:=Jt p
  have cc:=Su (p:=Sf (fun i=>p.getD i 0*c) p.length)
  unfold Vo
  refine Z7 Tryz.func248 rfl ?_
  refine go tt [.o 5 49 4] rfl trivial ?_
  refine lp (S:=Nat) 2 (fun L1 i=>(9,.v (.one (.int .i64 (i:Int))))::(5,.v (.one (.orow 1 4 none)))::L1) (fun i=>[.blk 49 (fr c),.row false 49 4 (frow (Sf (fun i=>p.getD i 0*c) i))]) (fun i=>p.length-i) (fun i=>i≤p.length) 0 (Nat.zero_le _) rfl (fun _ _=>rfl) rfl fun i hi=>?_
  have hol:(frow (Sf (fun i=>p.getD i 0*c) i)).length=i:=by rw [Jt,Ds]
  by_cases h:i<p.length
  · have hg:p[i]? = some (p.getD i 0):=by rw [List.getD_eq_getElem?_getD,List.getElem?_eq_getElem h]; rfl
    refine go tt [.t (decide_eq_true (by omega)),.x (Fu hg),.c [] (Qut (hp.getD (by decide) i) hc),.s (sz:=4) (Qmn _)] rfl (by simp [Qa,hol,-List.getD_eq_getElem?_getD]; omega) ?_
    exact rd (i+1) (by omega) h (by rw [Qei,Qdc]; rfl)
  · have e:i=p.length:=by omega
    rw [e]
    exact en tt [.f (decide_eq_false (by omega)),.c [] cc] rfl rfl trivial
theorem Qlp {p:List Rat} (hp:Rb 40000000 p) (hlp:p.length≤1000000):Qd Tryz.prog 253 [.one (rp p)] [.one (rp (Qgl p))]:=by
  have cs:=Hq (p:=p) (c:=-1) hp ⟨by decide,by decide⟩ hlp
  have co:=Ol (n:=-1) (by decide)
  rw [show ((-1:Int):Rat)=-1 from rfl] at co
  exact w tt Tryz.func253 rfl [.c [] co,.c [] cs] rfl rfl trivial
theorem Q4f {s t:Nat} {a b:Rat} (ha:Qs s a) (hb:Qs t b):Qs (s+t+1) (a*b):=by
  rw [←Qdp]
  unfold Z1
  rw [if_neg (Int.mul_ne_zero (Wo a) (Wo b))]
  have h1:=Q0 a.num b.num
  have h2:=Q0 (a.den:Int) (b.den:Int)
  have:=ha.1; have:=ha.2; have:=hb.1; have:=hb.2
  exact Qs.divInt (by omega) (by omega) (by omega)
theorem Qzi {s:Nat} {p:List Rat} (hp:Rb s p):Rb (s+2) (Qgl p):=by
  unfold Qgl Vo
  refine Rb.trim (Q45 fun i hi=>?_)
  have h1:Qs (s+0) (p.getD i 0):=by
    have hi:i<p.length:=hi
    rw [List.getD_eq_getElem?_getD,List.getElem?_eq_getElem hi]
    exact hp _ (List.getElem_mem hi)
  have:=Q4f h1 (show Qs 1 (-1:Rat) from ⟨by decide,by decide⟩)
  exact this.mono (by omega)
theorem Qj5 (p:List Rat):(Qgl p).length≤p.length:=by
  unfold Qgl Vo
  exact Nat.le_trans (Qec _) (by rw [Ds]; exact Nat.le_refl _)
theorem Q7k {p q:List Rat} (hp:Rb 19000000 p) (hq:Rb 19000000 q) (hlp:p.length≤1000000) (hlq:q.length≤1000000):Qd Tryz.prog 208 [.one (rp p),.one (rp q)] [.one (rp (Qzu p q))] :=
  w tt Tryz.func208 rfl [.c [] (Qlp (hq.mono (by decide)) hlq),.c [] (Qlm (hp.mono (by decide)) ((Qzi hq).mono (by decide)) hlp (Nat.le_trans (Qj5 q) hlq))] rfl rfl trivial
end Orr

namespace Orr
open Go Go.Proofs
set_option maxRecDepth 10000
theorem Quu {a b:Int} (ha:Ql a≤40000000) (hb:Ql b≤40000000):Qd Tryz.prog 279 [.agg (fr (a:Rat)),.agg (fr (b:Rat))] [.agg (fr ((a*b:Int):Rat))]:=by
  have h:=Qut (Uq ha (by decide)) (Uq hb (by decide))
  rw [←Rat.intCast_mul] at h; exact h
theorem Q64 {a b:Int} (ha:Ql a≤20000000) (hb:Ql b≤20000000):Qd Tryz.prog 285 [.agg (fr (a:Rat)),.agg (fr (b:Rat))] [.agg (fr ((a+b:Int):Rat))]:=by
  have h:=Quj (Uq ha (by decide)) (Uq hb (by decide))
  rw [←Rat.intCast_add] at h; exact h
theorem Qim (l:List Int) (i:Nat) (z:Int):(frow (zp l)).set i (fr (z:Rat))=frow (zp (l.set i z)):=by simp [frow,zp,List.map_set]
theorem Q05 {p:List Int} {i:Nat} (h:i<p.length):(zp p)[i]? = some ((p.getD i 0:Int):Rat):=Q04 (Xt h)
theorem Je {p:List Int} {i:Nat} (h:i<p.length):(frow (zp p))[i]? = some (fr ((p.getD i 0:Int):Rat)):=Fu (Q05 h)
theorem Ih (p:List Int):(frow (zp p)).length=p.length:=by rw [Jt,J6]
abbrev zR:List LV:=[.nils,.bool false,.nils,.bool false]
theorem Qfg {n i:Nat} (h:i<n):(List.replicate i (fr 0)++List.replicate (n-i) zR).set i (fr 0)=List.replicate (i+1) (fr 0)++List.replicate (n-(i+1)) zR:=by
  rw [List.set_append_right _ _ (by simp),List.length_replicate,Nat.sub_self,show n-i=n-(i+1)+1 by omega,List.replicate_succ (n:=n-(i+1)),List.set_cons_zero,List.replicate_succ' (n:=i),List.append_assoc]; rfl
theorem Qbz (n:Nat):List.replicate n (fr 0)++List.replicate (n-n) zR=frow (zp (List.replicate n 0)):=by simp [zp,frow]
theorem Qe1 {p q:List Int} {s t:Nat} (hlp:p.length≤1000000) (hlq:q.length≤1000000) (hp:Bd s p) (hq:Bd t q) (hst:s+t≤19000000):Qd Tryz.prog 283 [.one (rp (zp p)),.one (rp (zp q))] [.one (rp (zp (Zi p q)))]:=by
  have hpl:=Ih p
  have hql:=Ih q
  rcases Nat.eq_zero_or_pos p.length with h0 | h0
  · have e:Zi p q=[]:=by unfold Zi; rw [if_pos (.inl h0)]
    rw [e]
    exact w tt Tryz.func283 rfl [.g 12 true (decide_eq_true (by omega)),.t rfl] rfl rfl trivial
  rcases Nat.eq_zero_or_pos q.length with h1 | h1
  · have e:Zi p q=[]:=by unfold Zi; rw [if_pos (.inr h1)]
    rw [e]
    exact w tt Tryz.func283 rfl [.g 12 false (decide_eq_false (by omega)),.t (decide_eq_true (by omega))] rfl rfl trivial
  have e:Zi p q=trim (Ku p q (List.replicate (p.length+q.length-1) 0) p.length):=by unfold Zi; rw [if_neg (by omega)]
  rw [e]
  obtain ⟨N,hN⟩:∃ N,N=p.length+q.length-1:=⟨_,rfl⟩
  rw [←hN]
  obtain ⟨o,ho⟩:∃ o,o=List.replicate N (0:Int):=⟨_,rfl⟩
  rw [←ho]
  have hol:o.length=N:=by rw [ho]; simp
  have ho0:∀ m,o.getD m 0=0:=fun m=>by rw [ho]; exact J1 N m
  have cc:=Su (p:=zp (Ku p q o p.length))
  rw [Wc] at cc
  refine Z7 Tryz.func283 rfl ?_
  refine go tt [.g 12 false (decide_eq_false (by omega)),.f (decide_eq_false (by omega)),.r 22 (eI (b:=(N:Int)) (by omega)),.i N,.i N,.r 25 (eI (b:=(N:Int)) (by simp))] rfl (by simp [Qa]; omega) ?_
  refine lp (S:=Nat) 1 (fun L1 i=>(26,.v (.one (.int .i64 (i:Int))))::L1) (fun i=>[.row false 49 4 (List.replicate i (fr 0)++List.replicate (N-i) zR)]) (fun i=>N-i) (fun i=>i≤N) 0 (Nat.zero_le _) rfl (fun _ _=>rfl) rfl fun i hi=>?_
  by_cases hlt:i<N
  · refine go tt [.t (decide_eq_true (by omega)),.c [] Qvi,.i i] rfl (by simp [Qa]; omega) ?_
    rw [Qfg hlt]
    exact rd (i+1) (by omega) hlt rfl
  have hiN:i=N:=by omega
  rw [hiN,Qbz,←ho]
  clear hiN hlt hi
  refine go tt [.f (decide_eq_false (by omega))] rfl trivial ?_
  refine lp (S:=Nat) 1 (fun L1 i=>(36,.v (.one (.int .i64 (i:Int))))::L1) (fun i=>[.row false 49 4 (frow (zp (Ku p q o i)))]) (fun i=>p.length-i) (fun i=>i≤p.length) 0 (Nat.zero_le _) rfl (fun _ _=>rfl) rfl fun i hi=>?_
  by_cases hlt:i<p.length
  · refine go tt [.t (decide_eq_true (by omega))] rfl trivial ?_
    refine lp (S:=Nat) 1 (fun L1 k=>(41,.v (.one (.int .i64 (k:Int))))::L1) (fun k=>[.row false 49 4 (frow (zp (H5 (p.getD i 0) q i (Ku p q o i) k)))]) (fun k=>q.length-k) (fun k=>k≤q.length) 0 (Nat.zero_le _) rfl (fun _ _=>rfl) rfl fun k hk=>?_
    by_cases hk2:k<q.length
    · have hm1:Ql ((H5 (p.getD i 0) q i (Ku p q o i) k).getD (i+k) 0)≤20000000:=Nat.le_trans (He (t:=39) (Qf0 (by rw [Kv]; omega) (Qfz (fun j hj=>by omega) ho0 (fun i j=>Vv (Qr hp i) (Qr hq j))) (fun j=>Vv (Qr hp i) (Qr hq j)) (i+k)) (Nat.lt_of_lt_of_eq (show i+1<549755813888 by omega) (by decide))) (by omega)
      have hm2:Ql (p.getD i 0*q.getD k 0)≤20000000:=Nat.le_trans (Q0 _ _) (by have:=Qr hp i; have:=Qr hq k; omega)
      have hml:(H5 (p.getD i 0) q i (Ku p q o i) k).length=N:=by rw [H6,Kv,hol]
      have cm:=Quu (a:=p.getD i 0) (b:=q.getD k 0) (Nat.le_trans (Qr hp i) (by omega)) (Nat.le_trans (Qr hq k) (by omega))
      have hfl:=Ih (H5 (p.getD i 0) q i (Ku p q o i) k)
      refine go tt [.t (decide_eq_true (by omega)),.i (i+k),.x (Je (p:=H5 (p.getD i 0) q i (Ku p q o i) k) (i:=i+k) (by omega)),.x (Je hlt),.x (Je hk2),.c [] cm,.c [] (Q64 hm1 hm2),.i (i+k)] rfl (by simp [Qa,hfl,-List.getD_eq_getElem?_getD] <;> omega) ?_
      rw [Qim]
      exact rd (k+1) (by omega) hk2 rfl
    · obtain rfl:k=q.length:=by omega
      exact go tt [.f (decide_eq_false (by omega))] rfl (by simp [Qa]; omega) (rd (i+1) (by omega) hlt rfl)
  · obtain rfl:i=p.length:=by omega
    exact en tt [.f (decide_eq_false (by omega)),.c [] cc] rfl rfl trivial
def Qih (p:List Int) (n:Nat):List Int:=(List.range n).map fun k=>p.getD (k+1) 0*((k+1:Nat):Int)
theorem Qwr (p:List Int) (n:Nat):(Qih p n).length=n:=by simp [Qih]
theorem Qst (p:List Int) (n:Nat):Qih p (n+1)=Qih p n++[p.getD (n+1) 0*((n+1:Nat):Int)]:=by simp [Qih,List.range_succ]
theorem Qhc (p:List Int) (z:Int):frow (zp (p++[z]))=frow (zp p)++[fr (z:Rat)]:=by simp [frow,zp]
theorem Qln {p:List Int} (hp:Bd 40000000 p) (hl:p.length≤1000000):Qd Tryz.prog 252 [.one (rp (zp p))] [.one (rp (zp (Zo p)))]:=by
  have hpl:=Ih p
  have cc:=Su (p:=zp (Qih p (p.length-1)))
  rw [Wc] at cc
  refine Z7 Tryz.func252 rfl ?_
  refine go tt [.o 3 49 4] rfl trivial ?_
  refine lp (S:=Nat) 1 (fun L1 j=>(4,.v (.one (.int .i64 ((j+1:Nat):Int))))::(3,.v (.one (.orow 0 4 none)))::L1) (fun j=>[.row false 49 4 (frow (zp (Qih p j)))]) (fun j=>p.length-j) (fun j=>j≤p.length-1) 0 (Nat.zero_le _) rfl (fun _ _=>rfl) rfl fun j hj=>?_
  have hfl:=Ih (Qih p j)
  rw [Qwr] at hfl
  by_cases h:j+1<p.length
  · have hk:Ql ((j+1:Nat):Int)≤40000000:=Nat.le_trans (Qfq (t:=38) (k:=j+1) (Nat.lt_of_lt_of_eq (show j+1<274877906944 by omega) (by decide))) (by decide)
    refine go tt [.t (decide_eq_true (by omega)),.x (Je h),.c [] (Ol (n:=((j+1:Nat):Int)) (by omega)),.c [] (Quu (Qr hp (j+1)) hk),.s (sz:=4) (Qmn _)] rfl (by simp [Qa,hfl,-List.getD_eq_getElem?_getD] <;> omega) ?_
    exact rd (j+1) (by omega) (by omega) (by rw [Qst,Qhc]; rfl)
  · have e:j=p.length-1:=by omega
    rw [e]
    exact en tt [.f (decide_eq_false (by omega)),.c [] cc] rfl rfl trivial
theorem Q71 (z:Int):fr (z:Rat)=[nd z.natAbs,sg z,.row [[.int .i64 1]],.bool false]:=by
  have e:Q8 1=[1]:=by rw [Td (by decide),show 1 / 10000=0 from rfl,Z8]
  show [nd z.natAbs,sg z,nd 1,sg 1]=_
  unfold nd dl
  rw [e]; rfl
theorem Qvv {p:List Int} (hl:p.length≤1000000):Qd Tryz.prog 345 [.one (rp (zp p))] [.one (.bool true)]:=by
  have hpl:=Ih p
  refine Z7 Tryz.func345 rfl ?_
  refine go tt [] rfl trivial ?_
  refine lp (S:=Nat) 0 (fun L1 i=>(6,.v (.one (.int .i64 (i:Int))))::L1) (fun _=>[]) (fun i=>p.length-i) (fun i=>i≤p.length) 0 (Nat.zero_le _) rfl (fun _ _=>rfl) rfl fun i hi=>?_
  by_cases h:i<p.length
  · have hg:=Je h
    rw [Q71] at hg
    refine go tt [.t (decide_eq_true (by omega)),.x hg,.g 17 false rfl,.x hg,.x (l:=[[.int .i64 1]]) (i:=0) (xs:=[.int .i64 1]) rfl,.f rfl] rfl (by simp [Qa]; omega) ?_
    exact rd (i+1) (by omega) h rfl
  · exact en tt [.f (decide_eq_false (by omega))] rfl rfl trivial
theorem Qq3:[LV.nils,LV.bool false].map Cz=ri 0:=by
  show _=[nd 0,sg 0]
  unfold nd dl
  rw [Z8]; rfl
theorem Qmy (p:List Int) (q:Rat):Int.sign (Vi p q.num q.den p.length).1=Z4 p q:=by
  unfold Z4 Q4d Kk
  generalize (Vi p q.num q.den p.length).1=z
  rcases Int.lt_trichotomy z 0 with h | h | h
  · rw [if_pos h,Int.sign_eq_neg_one_of_neg h]
  · subst h; rfl
  · rw [if_neg (by omega),if_pos h,Int.sign_eq_one_of_pos h]
theorem Qoq {p:List Int} {q:Rat} (hp:Bd 30000000 p) (hl:p.length≤64) (hq:Qs 1000000 q):Qd Tryz.prog 338 [.one (rp (zp p)),.agg (fr q)] [.one (.int .i64 (Z4 p q))]:=by
  have hpl:=Ih p
  refine Z7 Tryz.func338 rfl ?_
  refine go tt [.c [] (Qvv (p:=p) (by omega)),.f rfl,.c [] (Ub (n:=1) (by decide)),.r 19 (eI (b:=(p.length:Int)-1-((0:Nat):Int)) (by simp; omega))] rfl (by simp [Qa]; omega) ?_
  refine nlb 1 rfl rfl rfl ?_
  rw [Qq3]
  refine lp (S:=Nat) 3 (fun L1 j=>(7,.v (.one (.int .i64 ((p.length:Int)-1-(j:Int)))))::L1) (fun j=>[.blk 49 (fr q),.blk 47 (ri (Vi p q.num q.den j).1),.blk 47 (ri (Vi p q.num q.den j).2)]) (fun j=>p.length-j) (fun j=>j≤p.length) 0 (Nat.zero_le _) rfl (fun _ _=>rfl) rfl fun j hj=>?_
  have hv:=Qg6 (k:=j) hp hq.1 hq.2
  have hjl:j*(1000000+1)≤p.length*(1000000+1):=Nat.mul_le_mul_right _ (by omega)
  by_cases h:j<p.length
  · have hc:=Qr hp (p.length-1-j)
    have hq1:=hq.1
    have hq2:=hq.2
    have hm1:Ql ((Vi p q.num q.den j).1*q.num)≤200000000:=Nat.le_trans (Q0 _ _) (by omega)
    have hm2:Ql (p.getD (p.length-1-j) 0*(Vi p q.num q.den j).2)≤200000000:=Nat.le_trans (Q0 _ _) (by omega)
    refine go tt [.t (decide_eq_true (by omega)),.c [] (Yn (a:=(Vi p q.num q.den j).1) (b:=q.num) (by omega) (by omega)),.r 29 (eI (b:=((p.length-1-j:Nat):Int)) (by omega)),.x (Je (p:=p) (i:=p.length-1-j) (by omega)),.c [] (Yn (a:=p.getD (p.length-1-j) 0) (b:=(Vi p q.num q.den j).2) (by omega) (by omega)),.c [] (Qlj hm1 hm2),.c [] (Yn (a:=(Vi p q.num q.den j).2) (b:=(q.den:Int)) (by omega) (by omega)),.r 23 (eI (b:=(p.length:Int)-1-((j+1:Nat):Int)) (by omega))] rfl (by simp [Qa] <;> omega) ?_
    exact rd (j+1) (by omega) h rfl
  · obtain rfl:j=p.length:=by omega
    exact en tt [.f (decide_eq_false (by omega)),.c [] Qom] rfl (by rw [Qmy]) trivial
end Orr

namespace Orr
def Zh (p:List Int):Int:=p.getD (p.length-1) 0
def P3 (a b:List Int):Int:=if Zh b<0 then -(Zh a) else Zh a
def Hh (a b:List Int) (i:Nat):Int:=a.getD i 0*((Zh b).natAbs:Int)-(if a.length-b.length≤i then P3 a b*b.getD (i-(a.length-b.length)) 0 else 0)
def Qea (a b:List Int):List Int:=Vl a.length (Hh a b)
inductive RRun (b:List Int):Nat→List Int→List Int→Prop
  | stop {a:List Int}:a.length<b.length→RRun b 0 a a
  | step {k:Nat} {a r:List Int}:b.length≤a.length→a.length≤1000→Bd 9000000 a→Bd 9000000 b→RRun b k (Qea a b) r→RRun b (k+1) a r
def Ht (p:List Int):Nat→Nat
  | 0=>0
  | i+1=>Int.gcd (Ht p i:Nat) (p.getD i 0)
def M7 (p:List Int):Nat:=Ht p p.length
theorem Lj (p:List Int):∀ {i j:Nat},j<i→((Ht p i:Nat):Int)∣p.getD j 0
  | 0,_,h=>absurd h (Nat.not_lt_zero _)
  |
   i+1,j,h=>by
   simp only [Ht]
   rcases Nat.lt_or_ge j i with h1 | h1
   · exact Int.dvd_trans (Int.gcd_dvd_left ..) (Lj p h1)
   · rw [show j=i by omega]; exact Int.gcd_dvd_right ..
theorem Qh4 (p:List Int) (j:Nat):((M7 p:Nat):Int)∣p.getD j 0:=by
  rcases Nat.lt_or_ge j p.length with h | h
  · exact Lj p h
  · rw [List.getD_eq_getElem?_getD,List.getElem?_eq_none h]; exact Int.dvd_zero _
theorem Sw {s:Nat} {p:List Int} (h:Bd s p):∀ i,Ql ((Ht p i:Nat):Int)≤s
  | 0=>by simp [Ht,Vr]
  |
   i+1=>by
   simp only [Ht]
   by_cases h0:p.getD i 0=0
   · rw [h0,Int.gcd_zero_right]; exact Sw h i
   · have h1:=Int.gcd_dvd_right (Ht p i:Nat) (p.getD i 0)
     have h2:(Int.gcd (Ht p i:Nat) (p.getD i 0))≤(p.getD i 0).natAbs:=Nat.le_of_dvd (by omega) (by simpa using Int.natAbs_dvd_natAbs.2 h1)
     have h3:=Qr h i
     rw [J3] at h3 ⊢
     simp only [Int.natAbs_natCast]
     omega
theorem Qsj {p:List Int} {j i:Nat} (hj:j<i) (h:p.getD j 0≠0):0<Ht p i:=by
  have:=Lj p hj
  rcases Nat.eq_zero_or_pos (Ht p i) with h0 | h0
  · rw [h0] at this
    exact absurd (Int.zero_dvd.1 this) h
  · exact h0
theorem Qh5 {p:List Int} (ht:Qi p) (h:0<p.length):0<M7 p:=Qsj (j:=p.length-1) (by omega) (Xj ht h)
def Ka (p:List Int):Int:=if Zh p<0 then -((M7 p:Nat):Int) else ((M7 p:Nat):Int)
def Xx (p:List Int):List Int:=Vl p.length fun i=>p.getD i 0 / Ka p
def Vm (p:List Int):List Int:=if Zh p<0 then Ve (Xx p) else Xx p
theorem Qsv (p:List Int) (j:Nat):Ka p∣p.getD j 0:=by
  unfold Ka
  split
  · exact Int.neg_dvd.2 (Qh4 p j)
  · exact Qh4 p j
theorem Qw3 {p:List Int} (ht:Qi p) (h:0<p.length):Ka p≠0:=by
  have:=Qh5 ht h
  unfold Ka
  split <;> omega
theorem Qc0 {s:Nat} {p:List Int} (h:Bd s p):Ql (Ka p)≤s:=by
  unfold Ka
  split
  · rw [Xc]; exact Sw h _
  · exact Sw h _
theorem Qnd {p:List Int} {c:Int} (hc:c≠0) (hd:∀ j,c∣p.getD j 0):Vo (zp p) (1 / (c:Rat))=zp (Vl p.length fun i=>p.getD i 0 / c):=by
  unfold Vo Vl
  rw [I6 (g:=fun i=>p.getD i 0 / c) _ fun i _=>?_,Wc,J6]
  obtain ⟨k,hk⟩:=hd i
  have hc':(c:Rat)≠0:=fun e=>hc (by exact_mod_cast e)
  rw [D5,hk,Int.mul_ediv_cancel_left _ hc,Rat.intCast_mul]
  grind
theorem Oe {s:Nat} {p:List Int} (h:Bd s p):Bd s (Xx p):=Md fun i _=>Nat.le_trans (Pf _ _) (Qr h i)
theorem Eb (p:List Int):(Xx p).length≤p.length:=Hx _ _
theorem Qrv {s:Nat} {p:List Int} (h:Bd s p):Bd s (Vm p):=by
  unfold Vm
  split
  · exact A6 (Oe h)
  · exact Oe h
theorem Qmb (p:List Int):(Vm p).length≤p.length:=by
  unfold Vm
  split
  · exact Nat.le_trans (Ph _) (Eb p)
  · exact Eb p
inductive GRun:Nat→List Int→List Int→List Int→Prop
  | stop (a:List Int):GRun 0 a [] a
  | step {k m:Nat} {a b r g:List Int}:0<b.length→b.length≤1000→Bd 9000000 b→RRun b m a r→r.length≤1000→Bd 9000000 r→Qi r→GRun k b (Xx r) g→GRun (k+1) a b g
theorem GRun.inv {k:Nat} {a b g:List Int} (h:GRun k a b g):(k=0∧b.length=0∧a=g)∨∃ j m r,k=j+1∧0<b.length∧b.length≤1000∧Bd 9000000 b∧RRun b m a r∧r.length≤1000∧Bd 9000000 r∧Qi r∧GRun j b (Xx r) g:=by
  cases h with
  | stop=>exact .inl ⟨rfl,rfl,rfl⟩
  | step h1 h2 h3 h4 h5 h6 h7 h8=>exact .inr ⟨_,_,_,rfl,h1,h2,h3,h4,h5,h6,h7,h8⟩
def Gg (k:Nat) (p:List Int):List Int:=List.replicate k 0++p
theorem Qng (k:Nat) (p:List Int):(Gg k p).length=k+p.length:=by simp [Gg]
theorem Qrw {s k:Nat} {p:List Int} (h:Bd s p):Bd s (Gg k p):=fun z hz=>by
  rcases List.mem_append.1 hz with h1 | h1
  · rw [List.eq_of_mem_replicate h1,Vr]; exact Nat.zero_le _
  · exact h z h1
inductive DRun (b:List Int):Nat→List Int→List Int→List Int→List Int→Prop
  | stop {a q:List Int}:a.length<b.length→DRun b 0 a q q a
  | step {k:Nat} {a q qf r:List Int}:b.length≤a.length→a.length≤1000→Bd 9000000 a→Zh b≠0→Zh b∣Zh a→a.length-b.length<q.length →
      DRun b k (Vn a (Gg (a.length-b.length) (Qx b (Zh a / Zh b)))) (q.set (a.length-b.length) (Zh a / Zh b)) qf r→DRun b (k+1) a q qf r
theorem DRun.inv {b a q qf r:List Int} {k:Nat} (h:DRun b k a q qf r):(k=0∧q=qf∧a=r∧a.length<b.length)∨∃ j,k=j+1∧b.length≤a.length∧a.length≤1000∧Bd 9000000 a∧Zh b≠0∧Zh b∣Zh a∧a.length-b.length<q.length ∧
    DRun b j (Vn a (Gg (a.length-b.length) (Qx b (Zh a / Zh b)))) (q.set (a.length-b.length) (Zh a / Zh b)) qf r:=by
  cases h with
  | stop h=>exact .inl ⟨rfl,rfl,rfl,h⟩
  | step h1 h2 h3 h4 h5 h6 h7=>exact .inr ⟨_,rfl,h1,h2,h3,h4,h5,h6,h7⟩
def Vj (l:List (List Int)):List Int:=l.getD (l.length-1) []
inductive LRun:Nat→List (List Int)→List (List Int)→Prop
  | stop {l:List (List Int)}:(Vj l).length≤1→LRun 0 l l
  | step {k m:Nat} {l f:List (List Int)} {g:List Int}:1<(Vj l).length→(Vj l).length≤1000→Qi (Vj l)→Bd 9000000 (Vj l)→Bd 9000000 (Zo (Vj l))→GRun m (Xx (Vj l)) (Xx (Zo (Vj l))) g→l.length≤1000→LRun k (l++[g]) f→LRun (k+1) l f
theorem LRun.inv {k:Nat} {l f:List (List Int)} (h:LRun k l f):(k=0∧l=f∧(Vj l).length≤1)∨∃ j m g,k=j+1∧1<(Vj l).length∧(Vj l).length≤1000∧Qi (Vj l)∧Bd 9000000 (Vj l)∧Bd 9000000 (Zo (Vj l))∧GRun m (Xx (Vj l)) (Xx (Zo (Vj l))) g∧l.length≤1000∧LRun j (l++[g]) f:=by
  cases h with
  | stop h=>exact .inl ⟨rfl,rfl,h⟩
  | step h1 h2 h3 h4 h5 h6 h7 h8=>exact .inr ⟨_,_,_,rfl,h1,h2,h3,h4,h5,h6,h7,h8⟩
def DOk (a b q:List Int):Prop:=0<b.length∧b.length≤1000∧a.length≤1000∧Bd 9000000 b∧∃ qf r n,Bd 9000000 qf∧qf.length≤1000∧DRun b n a (List.replicate (a.length+1-b.length) 0) qf r∧q=trim qf
theorem DOk.bd {a b q:List Int} (h:DOk a b q):Bd 9000000 q:=by
  obtain ⟨_,_,_,_,qf,r,n,h1,_,_,rfl⟩:=h
  exact Jp h1
theorem DOk.len {a b q:List Int} (h:DOk a b q):q.length≤1000:=by
  obtain ⟨_,_,_,_,qf,r,n,_,h1,_,rfl⟩:=h
  exact Nat.le_trans (Xm _) h1
theorem DOk.trim {a b q:List Int} (h:DOk a b q):Qi q:=by
  obtain ⟨_,_,_,_,qf,r,n,_,_,_,rfl⟩:=h
  exact Xw _
def Q9z (a b c f:List Int):Prop:=∃ x y z,DOk a b x∧DOk b c y∧DOk (Xx x) (Xx y) z∧f=Xx z
structure FRun (a:List Int) (m:Nat) (f:Nat→List Int):Prop where
  run:∃ n l,LRun n [Xx a] l∧l.length=m+1∧∀ k,k<m→Q9z ((l++[[1]]).getD k []) ((l++[[1]]).getD (k+1) []) ((l++[[1]]).getD (k+2) []) (f k)
  small:m≤1000
def Qbw (f:Nat→List Int) (n:Nat):List (List Int):=(List.range n).map f
theorem Qkg (f:Nat→List Int) (n:Nat):(Qbw f n).length=n:=by simp [Qbw]
theorem Qtu (f:Nat→List Int) (n:Nat):Qbw f (n+1)=Qbw f n++[f n]:=by simp [Qbw,List.range_succ]
theorem Q0m {f:Nat→List Int} {n i:Nat} (h:i<n):(Qbw f n)[i]? = some (f i):=by simp [Qbw,List.getElem?_range h]
theorem Ql6 {l:List (List Int)} {i:Nat} (h:i<l.length):l[i]? = some (l.getD i []):=by
  rw [List.getD_eq_getElem?_getD,List.getElem?_eq_getElem h]; rfl
def Re (f:Nat→List Int):Nat→List Int
  | 0=>[1]
  | i+1=>Zi (Re f i) (f i)
def Q9y (m:Nat) (f:Nat→List Int):Prop:=∀ i,i<m→Bd 9000000 (Re f i)∧(Re f i).length≤1000∧Bd 9000000 (f i)∧(f i).length≤1000
inductive CRun:Nat→List (List Int)→List Int→List (List Int)→Prop
  | stop {l:List (List Int)} {g:List Int}:g.length=0→CRun 0 l g l
  | step {k m:Nat} {l f:List (List Int)} {g r:List Int}:0<g.length→g.length≤1000→Bd 9000000 g→RRun g m (Vj l) r→Qi r→Bd 9000000 r→r.length≤1000→0<l.length→l.length≤1000→CRun k (l++[g]) (Ve (Vm r)) f→CRun (k+1) l g f
theorem CRun.inv {k:Nat} {l f:List (List Int)} {g:List Int} (h:CRun k l g f):(k=0∧l=f∧g.length=0)∨∃ j m r,k=j+1∧0<g.length∧g.length≤1000∧Bd 9000000 g∧RRun g m (Vj l) r∧Qi r∧Bd 9000000 r∧r.length≤1000∧0<l.length∧l.length≤1000∧CRun j (l++[g]) (Ve (Vm r)) f:=by
  cases h with
  | stop h=>exact .inl ⟨rfl,rfl,h⟩
  | step h1 h2 h3 h4 h5 h6 h7 h8 h9 h10=>exact .inr ⟨_,_,_,rfl,h1,h2,h3,h4,h5,h6,h7,h8,h9,h10⟩
structure ChRun (a:List Int) (sq:List Int) (c:List (List Int)):Prop where
  fac:∃ m f,FRun a m f∧Q9y m f∧sq=Re f m
  Hr:∃ n,CRun n [sq] (Vm (Zo sq)) c
  bd:Bd 8000000 sq
  len:sq.length≤1000
  small:c.length≤1000
def Qny (q:Rat) (c:List (List Int)):Prop:=∃ sq,ChRun [-q.num,(q.den:Int)] sq c
end Orr

namespace Orr
open Go Go.Proofs
set_option maxRecDepth 10000
theorem RRun.inv {b a r:List Int} {k:Nat} (h:RRun b k a r):(k=0∧a=r∧a.length<b.length)∨(∃ j,k=j+1∧b.length≤a.length∧a.length≤1000∧Bd 9000000 a∧Bd 9000000 b∧RRun b j (Qea a b) r):=by
  cases h with
  | stop h=>exact .inl ⟨rfl,rfl,h⟩
  | step h1 h2 h3 h4 h5=>exact .inr ⟨_,rfl,h1,h2,h3,h4,h5⟩
theorem Q4n {a b:List Int} (ha:Bd 9000000 a):Ql (P3 a b)≤9000000:=by
  unfold P3; split
  · rw [Xc]; exact Qr ha _
  · exact Qr ha _
theorem Q4j (n:Nat):ri (n:Int)=[nd n,.bool false]:=by
  show [nd n,sg (n:Int)]=_
  unfold sg
  rw [decide_eq_false (by omega)]
def Qgo (a b:List Int) (n:Nat):List Int:=(List.range n).map (Hh a b)
theorem Qzv (a b:List Int) (n:Nat):(Qgo a b n).length=n:=by simp [Qgo]
theorem Qeb (a b:List Int) (n:Nat):Qgo a b (n+1)=Qgo a b n++[Hh a b n]:=by simp [Qgo,List.range_succ]
theorem Qos {a0 b res:List Int} {n:Nat} (hb0:0<b.length) (hb1:b.length≤1000) (hbb0:Bd 9000000 b) (hrun:RRun b n a0 res):Qd Tryz.prog 254 [.one (rp (zp a0)),.one (rp (zp b))] [.one (rp (zp res))]:=by
  have hbl:=Ih b
  have hle:Ql (((Zh b).natAbs:Nat):Int)≤9000000:=Qr hbb0 _
  refine Z7 Tryz.func254 rfl ?_
  refine go tt [.r 15 (eI (b:=((b.length-1:Nat):Int)) (by omega)),.x (Je (p:=b) (i:=b.length-1) (by omega))] rfl (by simp [Qa]; omega) ?_
  refine sb [(0,.v (.one (rp (zp a0)))),(1,.v (.one (rp (zp b)))),(5,.v (.one (.ow 0 0))),(6,.v (.one (.ow 1 0)))] [.blk 47 (ri (Zh b)),.blk 47 [nd (Zh b).natAbs,.bool false]] rfl rfl ?_
  refine lp (S:=Nat×List Int) 2 (fun L1 s=>(0,.v (.one (rp (zp s.2))))::L1) (fun _=>[.blk 47 (ri (Zh b)),.blk 47 [nd (Zh b).natAbs,.bool false]]) (fun s=>s.1) (fun s=>RRun b s.1 s.2 res) (n,a0) hrun rfl (fun _ _=>rfl) rfl fun ⟨k,a⟩ hs=>?_
  have hal:=Ih a
  have hs:RRun b k a res:=hs
  rcases RRun.inv hs with ⟨rfl,rfl,h1⟩ | ⟨j,rfl,h1,h2,ha,hb,hr⟩
  · exact en tt [.f (decide_eq_false (by dsimp only; omega))] rfl rfl trivial
  obtain ⟨K,hK⟩:∃ K,K=a.length-b.length:=⟨_,rfl⟩
  have htb:=Q4n (b:=b) ha
  have cc:=Su (p:=zp (Qgo a b a.length))
  rw [Wc,show trim (Qgo a b a.length)=Qea a b from rfl] at cc
  refine go tt [.t (decide_eq_true (by dsimp only; omega)),.r 30 (eI (b:=(K:Int)) (by dsimp only; omega)),.r 34 (eI (b:=((a.length-1:Nat):Int)) (by dsimp only; omega)),.x (Je (p:=a) (i:=a.length-1) (by omega))] rfl (by simp [Qa]; omega) ?_
  refine ct 1 (S:=Unit) (fun _=>[(0,.v (.one (rp (zp a)))),(1,.v (.one (rp (zp b)))),(5,.v (.one (.ow 0 0))),(6,.v (.one (.ow 1 0))),(7,.v (.one (.int .i64 (K:Int)))),(8,.v (.one (.ow 2 0)))]) (fun _=>[.blk 47 (ri (Zh b)),.blk 47 [nd (Zh b).natAbs,.bool false],.blk 47 (ri (P3 a b))]) (fun _=>True) rfl ?_ (fun _ _=>?_)
  · by_cases hn:Zh b<0
    · have e:P3 a b=-(Zh a):=if_pos hn
      rw [e]
      exact go tt [.t (decide_eq_true hn),.c [] (Rx (z:=Zh a))] rfl trivial (rc () trivial rfl)
    · have e:P3 a b=Zh a:=if_neg hn
      rw [e]
      exact go tt [.f (decide_eq_false hn)] rfl trivial (rc () trivial rfl)
  refine go tt [.o 9 49 4] rfl trivial ?_
  refine lp (S:=Nat) 4 (fun L1 i=>(44,.v (.one (.int .i64 (i:Int))))::(9,.v (.one (.orow 3 4 none)))::L1) (fun i=>[.blk 47 (ri (Zh b)),.blk 47 [nd (Zh b).natAbs,.bool false],.blk 47 (ri (P3 a b)),.row false 49 4 (frow (zp (Qgo a b i)))]) (fun i=>a.length-i) (fun i=>i≤a.length) 0 (Nat.zero_le _) rfl (fun _ _=>rfl) rfl fun i hi=>?_
  have hfl:=Ih (Qgo a b i)
  rw [Qzv] at hfl
  by_cases h:i<a.length
  · have cm:=Yn (a:=a.getD i 0) (b:=(((Zh b).natAbs:Nat):Int)) (Nat.le_trans (Qr ha i) (by decide)) (by omega)
    have hm:=Q0 (a.getD i 0) (((Zh b).natAbs:Nat):Int)
    have hai:=Qr ha i
    rw [Q4j (Zh b).natAbs] at cm
    by_cases hk:K≤i
    · have hbi:=Qr hb (i-K)
      have hm2:=Q0 (P3 a b) (b.getD (i-K) 0)
      have e:Hh a b i=a.getD i 0*(((Zh b).natAbs:Nat):Int)-P3 a b*b.getD (i-K) 0:=by unfold Hh; rw [if_pos (by omega),hK]
      refine go tt [.t (decide_eq_true (by omega)),.x (Je h),.c [] cm,.t (decide_eq_true (by omega)),.r 62 (eI (b:=((i-K:Nat):Int)) (by omega)),.x (Je (p:=b) (i:=i-K) (by omega)),.c [] (Yn (a:=P3 a b) (b:=b.getD (i-K) 0) (by omega) (by omega)),.c [] (Qvj (by omega) (by omega)),.c [] (Ub (n:=1) (by decide)),.c [] (Vp (n:=a.getD i 0*(((Zh b).natAbs:Nat):Int)-P3 a b*b.getD (i-K) 0)),.s (sz:=4) (Qmn _)] rfl (by simp [Qa,hfl,-List.getD_eq_getElem?_getD] <;> omega) ?_
      exact rd (i+1) (by omega) h (by rw [Qeb,Qhc,e]; rfl)
    · have e:Hh a b i=a.getD i 0*(((Zh b).natAbs:Nat):Int):=by unfold Hh; rw [if_neg (by omega),Int.sub_zero]
      refine go tt [.t (decide_eq_true (by omega)),.x (Je h),.c [] cm,.f (decide_eq_false (by omega)),.c [] (Ub (n:=1) (by decide)),.c [] (Vp (n:=a.getD i 0*(((Zh b).natAbs:Nat):Int))),.s (sz:=4) (Qmn _)] rfl (by simp [Qa,hfl,-List.getD_eq_getElem?_getD] <;> omega) ?_
      exact rd (i+1) (by omega) h (by rw [Qeb,Qhc,e]; rfl)
  · have e:i=a.length:=by omega
    rw [e]
    exact go tt [.f (decide_eq_false (by omega)),.c [] cc] rfl trivial (rd (j,Qea a b) (by omega) hr rfl)
theorem Q7i:Qd Tryz.prog 47 [.agg (ri 1),.agg (ri 1)] [.agg (ri 1)]:=Yn (a:=1) (b:=1) (by decide) (by decide)
theorem Q2d:Qd Tryz.prog 141 [.agg (ri 1),.agg (ri 1)] [.agg (ri 1)]:=Ot (a:=1) (b:=1) (by decide) (by decide)
theorem Q1x {z:Int} (hz:Ql z≤90000000):Qd Tryz.prog 47 [.agg (ri z),.agg (ri 1)] [.agg (ri z)]:=by
  have h:=Yn (a:=z) (b:=1) (by omega) (by decide)
  rwa [Int.mul_one] at h
theorem Qoe {z:Int} (hz:Ql z≤90000000):Qd Tryz.prog 142 [.agg (ri z),.agg (ri 1)] [.agg (ri z)]:=by
  have h:=Lf (a:=z) (b:=1) hz (by decide) (by decide) (Int.emod_one z)
  rwa [Int.ediv_one] at h
theorem Quv {z:Int}:Qd Tryz.prog 206 [.agg (fr (z:Rat))] [.agg (fr ((-z:Int):Rat))]:=by
  have h:=Q7a (a:=(z:Rat))
  rwa [←Rat.intCast_neg] at h
theorem Q8t {c:Int} (hc:c≠0) (hs:Ql c≤9000000):Qs 40000000 (((1:Int):Rat) / (c:Rat)):=by
  have h0:(c:Rat)≠0:=fun e=>hc (by exact_mod_cast e)
  rw [←Qd4 h0]
  unfold Z1
  rw [if_neg (Int.mul_ne_zero (Wo _) (fun e=>hc (by simpa using e)))]
  refine Qs.divInt (by show Ql (1*1)≤_; decide) ?_ (by decide)
  show Ql (1*c)≤_
  rw [Int.one_mul]; omega
theorem Qlg {p:List Int} {c:Int} (hc:c≠0) (hs:Ql c≤9000000) (hd:∀ j,c∣p.getD j 0) (hp:Bd 9000000 p) (hl:p.length≤1000):Qd Tryz.prog 248 [.one (rp (zp p)),.agg (fr (((1:Int):Rat) / (c:Rat)))] [.one (rp (zp (Vl p.length fun i=>p.getD i 0 / c)))]:=by
  have h:=Hq ((Sa hp (by omega)).mono (by omega)) (Q8t hc hs) (by rw [J6]; omega)
  rwa [show ((1:Int):Rat)=1 from rfl,Qnd hc hd] at h
theorem Rz {p:List Int} (tp:Qi p) (hp:Bd 9000000 p) (hl:p.length≤1000):Qd Tryz.prog 284 [.one (rp (zp p))] [.agg (fr ((Ka p:Int):Rat)),.one (rp (zp (Xx p)))]:=by
  have hpl:=Ih p
  rcases Nat.eq_zero_or_pos p.length with h0 | h0
  · have e:=List.eq_nil_of_length_eq_zero h0
    subst e
    exact w tt Tryz.func284 rfl [.t rfl,.c [] Qvi] rfl rfl trivial
  have hc:=Qw3 tp h0
  refine Z7 Tryz.func284 rfl ?_
  refine go tt [.f (decide_eq_false (by omega)),.c [] (Ub (n:=1) (by decide))] rfl trivial ?_
  refine lp (S:=Nat) 2 (fun L1 i=>(16,.v (.one (.int .i64 (i:Int))))::L1) (fun i=>[.blk 49 [.nils,.bool false,.nils,.bool false],.blk 47 (ri 1)]) (fun i=>p.length-i) (fun i=>i≤p.length) 0 (Nat.zero_le _) rfl (fun _ _=>rfl) rfl fun i hi=>?_
  by_cases h:i<p.length
  · refine go tt [.t (decide_eq_true (by omega)),.x (Je h),.c [] Q7i,.x (Je h),.c [] Q2d,.c [] (Qoe (z:=1) (by decide))] rfl (by simp [Qa]; omega) ?_
    exact rd (i+1) (by omega) h rfl
  refine go tt [.f (decide_eq_false (by omega))] rfl trivial ?_
  clear h hi
  refine nlb 2 rfl rfl rfl ?_
  rw [Qq3]
  refine lp (S:=Nat) 3 (fun L1 i=>(37,.v (.one (.int .i64 (i:Int))))::L1) (fun i=>[.blk 49 [.nils,.bool false,.nils,.bool false],.blk 47 (ri 1),.blk 47 (ri ((Ht p i:Nat):Int))]) (fun i=>p.length-i) (fun i=>i≤p.length) 0 (Nat.zero_le _) rfl (fun _ _=>rfl) rfl fun i hi=>?_
  by_cases h:i<p.length
  · have hb:=Qr hp i
    have hg:=Sw hp i
    refine go tt [.t (decide_eq_true (by omega)),.x (Je h),.c [] (Q1x (z:=p.getD i 0) (by omega)),.x (Je h),.c [] (Qoe (z:=p.getD i 0) (by omega)),.c [] (Ot (a:=((Ht p i:Nat):Int)) (b:=p.getD i 0) (by omega) (by omega))] rfl (by simp [Qa]; omega) ?_
    exact rd (i+1) (by omega) h rfl
  have e:i=p.length:=by omega
  rw [e]
  have co:=Ol (n:=1) (by decide)
  have cs:=Qlg hc (Qc0 hp) (Qsv p) hp hl
  by_cases hn:Zh p<0
  · have e2:Ka p=-((M7 p:Nat):Int):=if_pos hn
    rw [show (fun i=>p.getD i 0 / Ka p)=fun i=>p.getD i 0 / Ka p from rfl] at cs
    have cn:=Quv (z:=((M7 p:Nat):Int))
    rw [←e2] at cn
    exact en tt [.f (decide_eq_false (by omega)),.c [] (Vp (n:=((M7 p:Nat):Int))),.r 62 (eI (b:=((p.length-1:Nat):Int)) (by omega)),.x (Je (p:=p) (i:=p.length-1) (by omega)),.t (decide_eq_true hn),.c [] cn,.c [] co,.c [] (Qlf (a:=((1:Int):Rat)) (b:=((Ka p:Int):Rat)) ⟨by decide,by decide⟩ (Uq (by have:=Qc0 hp; omega) (by decide)) (fun e=>hc (by exact_mod_cast e))),.c [] cs] rfl rfl (by simp [Qa]; omega)
  · have e2:Ka p=((M7 p:Nat):Int):=if_neg hn
    have cm:=Vp (n:=Ka p)
    rw [e2] at cm cs hc ⊢
    exact en tt [.f (decide_eq_false (by omega)),.c [] cm,.r 62 (eI (b:=((p.length-1:Nat):Int)) (by omega)),.x (Je (p:=p) (i:=p.length-1) (by omega)),.f (decide_eq_false hn),.c [] co,.c [] (Qlf (a:=((1:Int):Rat)) (b:=((((M7 p:Nat):Int):Int):Rat)) ⟨by decide,by decide⟩ (Uq (by have:=Sw hp p.length; unfold M7; omega) (by decide)) (fun e=>hc (by exact_mod_cast e))),.c [] cs] rfl (by unfold Xx; rw [e2]; rfl) (by simp [Qa]; omega)
theorem Ry {p:List Int} (tp:Qi p) (hp:Bd 9000000 p) (hl:p.length≤1000):Qd Tryz.prog 305 [.one (rp (zp p))] [.one (rp (zp (Xx p)))] :=
  w tt Tryz.func305 rfl [.c [] (Rz tp hp hl)] rfl rfl trivial
theorem Qc1 {p:List Int} (tp:Qi p):Ka p<0↔Zh p<0:=by
  unfold Ka
  rcases Nat.eq_zero_or_pos p.length with h0 | h0
  · have:=List.eq_nil_of_length_eq_zero h0; subst this; decide
  · have:=Qh5 tp h0
    split <;> omega
theorem Qvq {p:List Int} (hp:Bd 9000000 p) (hl:p.length≤1000000):Qd Tryz.prog 253 [.one (rp (zp p))] [.one (rp (zp (Ve p)))]:=by
  have h:=Qlp ((Sa hp (by decide)).mono (by decide)) (by rw [J6]; exact hl)
  rwa [Qq4] at h
theorem Qhu {p:List Int} (tp:Qi p) (hp:Bd 9000000 p) (hl:p.length≤1000):Qd Tryz.prog 251 [.one (rp (zp p))] [.one (rp (zp (Vm p)))]:=by
  by_cases hn:Zh p<0
  · have e:Vm p=Ve (Xx p):=if_pos hn
    rw [e]
    exact w tt Tryz.func251 rfl [.c [] (Rz tp hp hl),.t (decide_eq_true ((Qc1 tp).2 hn)),.c [] (Qvq (Oe hp) (Nat.le_trans (Eb p) (by omega)))] rfl rfl trivial
  · have e:Vm p=Xx p:=if_neg hn
    rw [e]
    exact w tt Tryz.func251 rfl [.c [] (Rz tp hp hl),.f (decide_eq_false fun h=>hn ((Qc1 tp).1 h))] rfl rfl trivial
end Orr

namespace Orr
theorem Hy (f:Nat→Int):Vl 1 f=trim [f 0]:=rfl
theorem Qae (f:Nat→Int):Vl 2 f=trim [f 0,f 1]:=rfl
theorem Dv (x:Int):trim [x]=if x=0 then [] else [x]:=rfl
theorem Qek (x y:Int):trim [x,y]=if y=0 then trim [x] else [x,y]:=by
  simp only [trim]; split <;> split <;> simp_all
theorem bd1 {s:Nat} {x:Int} (h:Ql x≤s):Bd s [x]:=fun z hz=>by simp at hz; subst hz; exact h
theorem bd2 {s:Nat} {x y:Int} (h:Ql x≤s) (h':Ql y≤s):Bd s [x,y]:=fun z hz=>by
  simp only [List.mem_cons,List.not_mem_nil,or_false] at hz
  rcases hz with rfl | rfl <;> assumption
section
variable {x d:Int} (hd:0<d) (hg:Int.gcd x d=1) (hx:Ql x≤1000000) (hs:Ql d≤1000000)
theorem b1 {s:Nat} (h:1≤s):Bd s [1]:=bd1 (Nat.le_trans (show Ql 1≤1 by decide) h)
include hd in
theorem Da (hg:Int.gcd x d=1):Xx [x,d]=[x,d]:=by
  have hc:Ka [x,d]=1:=by
    have h1:M7 [x,d]=1:=by
      show Int.gcd (Int.gcd ((0:Nat):Int) x:Nat) d=1
      rw [show Int.gcd ((0:Nat):Int) x=x.natAbs by simp,show Int.gcd ((x.natAbs:Nat):Int) d=Int.gcd x d by simp [Int.gcd],hg]
    unfold Ka
    rw [if_neg (show ¬Zh [x,d]<0 from by show ¬d<0; omega),h1]; rfl
  unfold Xx
  rw [hc]
  show Vl 2 _=_
  rw [Qae,Qek]
  show (if d / 1=0 then _ else [x / 1,d / 1])=_
  rw [Int.ediv_one,if_neg (by omega),Int.ediv_one]
theorem Qyx:Xx [1]=[1]:=by decide
include hd in
theorem Qbj:Xx [d]=[1]:=by
  have hc:Ka [d]=d:=by
    have h1:((M7 [d]:Nat):Int)=d:=by
      show ((Int.gcd ((0:Nat):Int) d:Nat):Int)=d
      simp; omega
    unfold Ka
    rw [if_neg (show ¬Zh [d]<0 from by show ¬d<0; omega),h1]
  unfold Xx
  rw [hc]
  show Vl 1 _=_
  rw [Hy,Dv]
  show (if d / d=0 then _ else [d / d])=_
  rw [Int.ediv_self (by omega)]; rfl
include hd in
theorem Qe6:Zo [x,d]=[d]:=by
  show Vl 1 _=_
  rw [Hy,Dv]
  show (if d*1=0 then _ else [d*1])=_
  rw [Int.mul_one,if_neg (by omega)]
include hd hx hs in
theorem Qj4:∃ m,RRun [1] m [x,d] []:=by
  have h1:Qea [x,d] [1]=trim [x]:=by
    show Vl 2 _=_
    rw [Qae,Qek]
    have e1:Hh [x,d] [1] 1=0:=by
      show d*1-(if 1≤1 then P3 [x,d] [1]*1 else 0)=0
      have:P3 [x,d] [1]=d:=by unfold P3; rw [if_neg (by decide)]; rfl
      rw [this]; simp
    have e0:Hh [x,d] [1] 0=x:=by
      show x*1-(if 1≤0 then _ else 0)=x
      simp
    rw [e1,if_pos rfl,e0]
  have hb:Bd 9000000 [x,d]:=bd2 (by omega) (by omega)
  by_cases h0:x=0
  · refine ⟨1,.step (by show 1≤2; decide) (by show 2≤1000; decide) hb (b1 (by decide)) ?_⟩
    rw [h1,h0]
    exact .stop (by decide)
  · refine ⟨2,.step (by show 1≤2; decide) (by show 2≤1000; decide) hb (b1 (by decide)) ?_⟩
    rw [h1,Dv,if_neg h0]
    refine .step (Nat.le_refl 1) (by show 1≤1000; decide) (bd1 (by omega)) (b1 (by decide)) ?_
    have h2:Qea [x] [1]=[]:=by
      show Vl 1 _=_
      rw [Hy,Dv]
      have e0:Hh [x] [1] 0=0:=by
        show x*1-(if 0≤0 then P3 [x] [1]*1 else 0)=0
        have:P3 [x] [1]=x:=by unfold P3; rw [if_neg (by decide)]; rfl
        rw [this]; simp
      rw [e0,if_pos rfl]
    rw [h2]
    exact .stop (by decide)
include hd hx hs in
theorem Qxo:∃ m,GRun m [x,d] [1] [1]:=by
  obtain ⟨m,h⟩:=Qj4 hd hx hs
  exact ⟨1,.step (by decide) (by decide) (b1 (by decide)) h (by decide) Sp rfl (by rw [show Xx []=[] by decide]; exact .stop _)⟩
theorem Qth (c:Int):Vn [c] [c]=[]:=by
  show Vl 1 _=_
  rw [Hy,Dv]
  show (if c-c=0 then _ else _)=_
  rw [if_pos (by omega)]
include hd hx hs in
theorem Qo9:DOk [x,d] [1] [x,d]:=by
  refine ⟨by decide,by decide,by show 2≤1000; decide,b1 (by decide),[x,d],[],?_⟩
  have hpl:Zh [x,d] / Zh [1]=d:=by show d / 1=d; rw [Int.ediv_one]
  have hsc:Qx [1] d=[d]:=by
    show Vl 1 _=_
    rw [Hy,Dv]
    show (if 1*d=0 then _ else [1*d])=_
    rw [Int.one_mul,if_neg (by omega)]
  have hsub:Vn [x,d] (Gg 1 [d])=trim [x]:=by
    show Vl 2 _=_
    rw [Qae,Qek]
    show (if d-d=0 then trim [x-0] else _)=_
    rw [if_pos (by omega),Int.sub_zero]
  have hb:Bd 9000000 [x,d]:=bd2 (by omega) (by omega)
  have ht:trim [x,d]=[x,d]:=by rw [Qek,if_neg (by omega)]
  by_cases h0:x=0
  · refine ⟨1,hb,by show 2≤1000; decide,?_,ht.symm⟩
    refine .step (by show 1≤2; decide) (by show 2≤1000; decide) hb (by decide) (by show (1:Int)∣d; exact Int.one_dvd d) (by show 1<2; decide) ?_
    rw [hpl,hsc,show [x,d].length-[(1:Int)].length=1 from rfl,hsub,Dv,if_pos h0]
    show DRun [1] 0 [] [0,d] [x,d] []
    rw [h0]; exact .stop (by decide)
  · refine ⟨2,hb,by show 2≤1000; decide,?_,ht.symm⟩
    refine .step (by show 1≤2; decide) (by show 2≤1000; decide) hb (by decide) (by show (1:Int)∣d; exact Int.one_dvd d) (by show 1<2; decide) ?_
    rw [hpl,hsc,show [x,d].length-[(1:Int)].length=1 from rfl,hsub,Dv,if_neg h0]
    refine .step (by show 1≤1; decide) (by show 1≤1000; decide) (bd1 (by omega)) (by decide) (by show (1:Int)∣x; exact Int.one_dvd x) (by show 0<2; decide) ?_
    have hpl2:Zh [x] / Zh [1]=x:=by show x / 1=x; rw [Int.ediv_one]
    have hsc2:Qx [1] x=[x]:=by
      show Vl 1 _=_
      rw [Hy,Dv]
      show (if 1*x=0 then _ else [1*x])=_
      rw [Int.one_mul,if_neg h0]
    rw [hpl2,hsc2,show [x].length-[(1:Int)].length=0 from rfl,show Gg 0 [x]=[x] from rfl,Qth]
    exact .stop (by decide)
theorem div_one:DOk [1] [1] [1]:=by
  refine ⟨by decide,by decide,by decide,b1 (by decide),[1],[],1,b1 (by decide),by decide,?_,by decide⟩
  refine .step (by decide) (by decide) (b1 (by decide)) (by decide) (by decide) (by decide) ?_
  exact .stop (by decide)
include hd hg hx hs in
theorem Qw6:FRun [x,d] 1 (fun _=>[x,d]):=by
  obtain ⟨m,hm⟩:=Qxo (x:=x) hd hx hs
  refine ⟨⟨1,[[x,d],[1]],?_,rfl,?_⟩,by decide⟩
  · rw [Da hd hg]
    refine .step (by show 1<2; decide) (by show 2≤1000; decide) (by show trim [x,d]=[x,d]; rw [Qek,if_neg (by omega)]) (by show Bd 9000000 [x,d]; exact bd2 (by omega) (by omega)) ?_ ?_ (by show 1≤1000; decide) (m:=m) (g:=[1]) ?_
    · show Bd 9000000 (Zo [x,d])
      rw [Qe6 hd]; exact bd1 (by omega)
    · show GRun m (Xx [x,d]) (Xx (Zo [x,d])) [1]
      rw [Da hd hg,Qe6 hd,Qbj hd]; exact hm
    · exact .stop (by show 1≤1; decide)
  · intro k hk
    have:k=0:=by omega
    subst this
    exact ⟨[x,d],[1],[x,d],Qo9 hd hx hs,div_one,by rw [Da hd hg,Qyx]; exact Qo9 hd hx hs,(Da hd hg).symm⟩
theorem Qs7 {p:List Int} (hp:Qi p) (h0:0<p.length):Zi [1] p=p:=by
  refine S4 (Z6 _ _) hp fun k=>?_
  unfold Zi
  rw [if_neg (by
   rintro (h | h); · cases h
   · omega),Fi]
  show (Ku [1] p (List.replicate (1+p.length-1) 0) 1).getD k 0=_
  simp only [Ku]
  rw [Eg _ _ _ _ _ _ (by simp),J1]
  split
  · show 0+1*p.getD (k-0) 0=_
    rw [Nat.sub_zero]; omega
  · rename_i h
    rw [List.getD_eq_getElem?_getD,List.getElem?_eq_none (by omega)]; rfl
include hd hg hx hs in
theorem Qsh:ChRun [x,d] [x,d] [[x,d],[1]]:=by
  obtain ⟨m,hm⟩:=Qj4 (x:=x) hd hx hs
  have ht:Qi [x,d]:=by show trim [x,d]=_; rw [Qek,if_neg (by omega)]
  refine ⟨⟨1,fun _=>[x,d],Qw6 hd hg hx hs,?_,?_⟩,⟨1,?_⟩,bd2 (by omega) (by omega),by show 2≤1000; decide,by show 2≤1000; decide⟩
  · intro i hi
    have:i=0:=by omega
    subst this
    exact ⟨b1 (by decide),by show 1≤1000; decide,bd2 (by omega) (by omega),by show 2≤1000; decide⟩
  · show [x,d]=Zi [1] [x,d]
    rw [Qs7 ht (by show 0<2; decide)]
  · have hz:Vm (Zo [x,d])=[1]:=by
      rw [Qe6 hd]
      unfold Vm
      rw [if_neg (show ¬Zh [d]<0 from by show ¬d<0; omega),Qbj hd]
    rw [hz]
    refine .step (by decide) (by decide) (b1 (by decide)) (m:=m) (r:=[]) hm rfl Sp (by decide) (by show 0<1; decide) (by show 1≤1000; decide) ?_
    exact .stop (by decide)
end
theorem Za9 {q:Rat} (h:Qs 1000000 q):Qny q [[-q.num,(q.den:Int)],[1]]:=by
  refine ⟨[-q.num,(q.den:Int)],Qsh (den_pos q) ?_ (by rw [Xc]; exact h.1) h.2⟩
  rw [Int.neg_gcd]
  have:=q.reduced
  unfold Nat.Coprime at this
  simpa [Int.gcd] using this
end Orr

namespace Orr
open Go Go.Proofs
set_option maxRecDepth 10000
theorem Q7j {a b g:List Int} {n:Nat} (ta:Qi a) (tb:Qi b) (ha:Bd 9000000 a) (hb:Bd 9000000 b) (la:a.length≤1000) (lb:b.length≤1000) (hrun:GRun n (Xx a) (Xx b) g):Qd Tryz.prog 306 [.one (rp (zp a)),.one (rp (zp b))] [.one (rp (zp g))]:=by
  refine Z7 Tryz.func306 rfl ?_
  refine go tt [.c [] (Ry ta ha la),.c [] (Ry tb hb lb)] rfl trivial ?_
  refine sb [(0,.v (.one (rp (zp (Xx a))))),(1,.v (.one (rp (zp (Xx b)))))] [] rfl rfl ?_
  refine lp (S:=Nat×List Int×List Int) 0 (fun L1 s=>(0,.v (.one (rp (zp s.2.1))))::(1,.v (.one (rp (zp s.2.2))))::L1) (fun _=>[]) (fun s=>s.1) (fun s=>GRun s.1 s.2.1 s.2.2 g) (n,Xx a,Xx b) hrun rfl (fun _ _=>rfl) rfl fun ⟨k,x,y⟩ hs=>?_
  have hs:GRun k x y g:=hs
  have hyl:=Ih y
  rcases hs.inv with ⟨hk,hy0,hxg⟩ | ⟨j,m2,r,hk,hy0,hy1,hyb,hrr,hrl,hrb,hrt,hgr⟩
  · rw [←hxg]
    exact en tt [.f (decide_eq_false (by dsimp only; omega))] rfl rfl trivial
  · subst hk
    refine go tt [.t (decide_eq_true (by dsimp only; omega)),.c [] (Qos (a0:=x) (b:=y) (res:=r) hy0 hy1 hyb hrr),.c [] (Ry (p:=r) hrt hrb hrl)] rfl trivial ?_
    exact rd (j,y,Xx r) (by dsimp only; omega) hgr rfl
theorem Q11 {x y:Int} (hx:Ql x≤9000000) (hy:Ql y≤9000000) (h0:y≠0) (hd:y∣x):Qd Tryz.prog 309 [.agg (fr (x:Rat)),.agg (fr (y:Rat))] [.agg (fr ((x / y:Int):Rat))]:=by
  have hy0:(y:Rat)≠0:=fun e=>h0 (by exact_mod_cast e)
  have h:=Qlf (Uq (s:=40000000) (z:=x) (by omega) (by omega)) (Uq (s:=40000000) (z:=y) (by omega) (by omega)) hy0
  obtain ⟨k,rfl⟩:=hd
  rw [Int.mul_ediv_cancel_left _ h0]
  rwa [show (((y*k:Int):Rat)) / (y:Rat)=(k:Rat) by rw [Rat.intCast_mul]; grind] at h
theorem Qsb {p:List Int} {c:Int} (hp:Bd 40000000 p) (hc:Ql c≤40000000) (hl:p.length≤1000000):Qd Tryz.prog 248 [.one (rp (zp p)),.agg (fr (c:Rat))] [.one (rp (zp (Qx p c)))]:=by
  have h:=Hq (Sa hp (by omega)) (Uq hc (by omega)) (by rw [J6]; exact hl)
  rwa [Qd9] at h
theorem Q4y (k:Nat) (p:List Int):frow (zp (List.replicate k 0))++frow (zp p)=frow (zp (Gg k p)):=by simp [zp,Gg,frow]
theorem Qsy (l:List Int) (i:Nat) (z:Int):(frow (zp l)).set i [nd ((z:Rat)).num.natAbs,sg ((z:Rat)).num,nd (((z:Rat)).den:Int).natAbs,sg (((z:Rat)).den:Int)]=frow (zp (l.set i z)):=Qim l i z
theorem Q2h {p q:List Int} (hp:Bd 18000000 p) (hq:Bd 18000000 q) (hlp:p.length≤1000000) (hlq:q.length≤1000000):Zw Tryz.prog 208 [.one (rp (zp p)),.one (.orow 0 4 none)] [.row false 49 4 (frow (zp q))] [.one (rp (zp (Vn p q)))] [.gone]:=by
  have hn:=Qlp ((Sa hq (by decide)).mono (by decide)) (by rw [J6]; exact hlq)
  have ha:=Qlm (p:=zp p) (q:=Qgl (zp q)) ((Sa hp (by decide)).mono (by decide)) ((Qzi (Sa hq (by decide))).mono (by decide)) (by rw [J6]; exact hlp) (Nat.le_trans (Qj5 _) (by rw [J6]; exact hlq))
  have e:Qtl (zp p) (Qgl (zp q))=zp (Vn p q):=Qq9 p q
  rw [e] at ha
  refine Z7 Tryz.func208 rfl ?_
  exact ed tt [] [0] [.c [] hn,.c [] ha] rfl trivial
theorem Qsc {a0 b qf rem:List Int} {n:Nat} (hb0:0<b.length) (hb1:b.length≤1000) (hl0:a0.length≤1000) (hbb:Bd 9000000 b) (hqb:Bd 9000000 qf) (hrun:DRun b n a0 (List.replicate (a0.length+1-b.length) 0) qf rem):Qd Tryz.prog 307 [.one (rp (zp a0)),.one (rp (zp b))] [.one (rp (zp (trim qf))),.one (rp (zp rem))]:=by
  have h0l:=Ih a0
  have hbl:=Ih b
  obtain ⟨N,hN⟩:∃ N,N=a0.length+1-b.length:=⟨_,rfl⟩
  rw [←hN] at hrun
  have cc:=Su (p:=zp qf)
  rw [Wc] at cc
  refine Z7 Tryz.func307 rfl ?_
  refine go tt [.r 18 (eI (b:=(N:Int)) (by omega)),.i N,.i N,.r 21 (eI (b:=(N:Int)) (by simp))] rfl (by simp [Qa]; omega) ?_
  refine lp (S:=Nat) 1 (fun L1 i=>(22,.v (.one (.int .i64 (i:Int))))::L1) (fun i=>[.row false 49 4 (List.replicate i (fr 0)++List.replicate (N-i) zR)]) (fun i=>N-i) (fun i=>i≤N) 0 (Nat.zero_le _) rfl (fun _ _=>rfl) rfl fun i hi=>?_
  by_cases hlt:i<N
  · refine go tt [.t (decide_eq_true (by omega)),.c [] Qvi,.i i] rfl (by simp [Qa]; omega) ?_
    rw [Qfg hlt]
    exact rd (i+1) (by omega) hlt rfl
  have hiN:i=N:=by omega
  rw [hiN,Qbz]
  clear hiN hlt hi
  refine go tt [.f (decide_eq_false (by omega))] rfl trivial ?_
  refine sb [(0,.v (.one (rp (zp a0)))),(1,.v (.one (rp (zp b)))),(6,.v (.one (.orow 0 4 none)))] [.row false 49 4 (frow (zp (List.replicate N 0)))] rfl rfl ?_
  refine lp (S:=Nat×List Int×List Int) 1 (fun L1 s=>(0,.v (.one (rp (zp s.2.1))))::L1) (fun s=>[.row false 49 4 (frow (zp s.2.2))]) (fun s=>s.1) (fun s=>DRun b s.1 s.2.1 s.2.2 qf rem∧s.2.2.length=N) (n,a0,List.replicate N 0) ⟨hrun,List.length_replicate⟩ rfl (fun _ _=>rfl) rfl fun ⟨k,a,q⟩ ⟨hr0,hr1⟩=>?_
  have hr0:DRun b k a q qf rem:=hr0
  have hr1:q.length=N:=hr1
  have hal:=Ih a
  have hql:=Ih q
  rcases hr0.inv with ⟨hk,hqf,har,hlt⟩ | ⟨j,hk,hba,hal2,hab,hpb,hpd,hkq,hrj⟩
  · subst hqf; subst har
    exact en tt [.f (decide_eq_false (by dsimp only; omega)),.c [] cc] rfl rfl trivial
  subst hk
  obtain ⟨K,hK⟩:∃ K,K=a.length-b.length:=⟨_,rfl⟩
  rw [←hK] at hrj hkq
  have hla:Ql (Zh a)≤9000000:=Qr hab _
  have hlb:Ql (Zh b)≤9000000:=Qr hbb _
  obtain ⟨c,hc⟩:∃ c,c=Zh a / Zh b:=⟨_,rfl⟩
  have cq:=Q11 hla hlb hpb hpd
  have hcs:Ql (Zh a / Zh b)≤9000000:=Nat.le_trans (Pf _ _) hla
  rw [←hc] at cq hcs hrj
  have hsl:=Qu b c
  have hqs:∀ x,(q.set K x).length=N:=fun x=>by rw [List.length_set]; exact hr1
  dsimp only
  refine go tt [.t (decide_eq_true (by omega)),.r 39 (eI (b:=(K:Int)) (by omega)),.r 43 (eI (b:=((a.length-1:Nat):Int)) (by omega)),.x (Je (p:=a) (i:=a.length-1) (by omega)),.r 49 (eI (b:=((b.length-1:Nat):Int)) (by omega)),.x (Je (p:=b) (i:=b.length-1) (by omega)),.c [] cq,.i K,.i K,.i K,.r 60 (eI (b:=(K:Int)) (by simp))] rfl (by simp [Qa,hql] <;> omega) ?_
  rw [Qsy]
  refine lp (S:=Nat) 3 (fun L1 i=>(61,.v (.one (.int .i64 (i:Int))))::L1) (fun i=>[.row false 49 4 (frow (zp (q.set K c))),.blk 49 (fr (c:Rat)),.row false 49 4 (List.replicate i (fr 0)++List.replicate (K-i) zR)]) (fun i=>K-i) (fun i=>i≤K) 0 (Nat.zero_le _) rfl (fun _ _=>rfl) rfl fun i hi=>?_
  by_cases hlt:i<K
  · refine go tt [.t (decide_eq_true (by omega)),.c [] Qvi,.i i] rfl (by simp [Qa]; omega) ?_
    rw [Qfg hlt]
    exact rd (i+1) (by omega) hlt rfl
  have hiK:i=K:=by omega
  rw [hiK,Qbz]
  clear hiK hlt hi
  have hzl:=Ih (List.replicate K 0)
  rw [List.length_replicate] at hzl
  have hpl:=Ih (Qx b c)
  refine go tt [.f (decide_eq_false (by omega))] rfl trivial ?_
  refine sb [(10,.v (.one (.orow 2 4 none))),(9,.v (.one (.ow 1 0))),(0,.v (.one (rp (zp a)))),(1,.v (.one (rp (zp b)))),(6,.v (.one (.orow 0 4 none)))] [.row false 49 4 (frow (zp (q.set K c))),.blk 49 (fr (c:Rat)),.row false 49 4 (frow (zp (List.replicate K 0)))] rfl rfl ?_
  have p2:=Q2h (p:=a) (q:=Gg K (Qx b c)) (Qc hab (by decide)) (Qc (Qrw (Qz hbb hcs)) (by decide)) (by omega) (by rw [Qng]; omega)
  rw [←Q4y] at p2
  refine go tt [.c [] (Qsb (c:=c) (Qc hbb (by decide)) (by omega) (by omega)),.s (sz:=4) (Lt (zp (Qx b c))),.c [2] p2] rfl (by simp [Qa,hzl,hpl]; omega) ?_
  exact rd (j,Vn a (Gg K (Qx b c)),q.set K c) (by dsimp only; omega) ⟨hrj,hqs c⟩ rfl
end Orr
