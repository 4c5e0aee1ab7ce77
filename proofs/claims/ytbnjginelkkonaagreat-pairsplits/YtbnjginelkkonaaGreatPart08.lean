/- T24 T25 G1 G2 SortL KinL K1 K2 F6 F7 F8 F9 G3 G4 K3 K4 S1 S2 S3 R5 R6 RefGL R7 RatOkL R8 -/
import Derived.Test.YtbnjginelkkonaaGreatPart07
import Derived.Test.YtbnjginelkkonaaGreatPart06
import Derived.Test.YtbnjginelkkonaaGreatPart05
set_option linter.all false

namespace Orq
open Orr Go
theorem Qv3:∀ {k:Nat} {a b:List Int} {l:List (List Int)},chF k a b=some l→∀ p∈l,p.length≠0
  | 0,_,_,_,h=>by cases h
  |
   k+1,a,b,l,h=>by
   simp only [chF] at h
   split at h
   · injection h with h; subst h; exact fun p hp=>by cases hp
   · rename_i h0
     obtain ⟨r,_,h⟩:=Option.bind_eq_some_iff.1 h
     obtain ⟨l',h1,h⟩:=Option.bind_eq_some_iff.1 h
     injection h with h; subst h
     intro p hp
     rcases List.mem_cons.1 hp with rfl | hp
     · exact h0
     · exact Qv3 h1 p hp
theorem Okp.pb {n s:Nat} {p:List Int} (h:Okp n s p) (hs:s≤16777216):Pb p:=⟨h.t,by have:=h.l; have:=h.z.1; omega,Qc h.b hs⟩
theorem Qr9 {p:List Int} {q:List Int} {l:List (List Int)} (hp:Pb p) (h:Hq p=some (q::l)) (hq:q.length≠0):∀ r∈q::l,Qj r∧r.length≠0:=by
  have h1:=(Orr.chain_ok hp h).2
  unfold Hq at h
  obtain ⟨a,_,h⟩:=Option.bind_eq_some_iff.1 h
  split at h
  · cases h
  · obtain ⟨d,_,h⟩:=Option.bind_eq_some_iff.1 h
    obtain ⟨l',h3,h⟩:=Option.bind_eq_some_iff.1 h
    injection h with h
    injection h with e1 e2
    subst e1; subst e2
    intro r hr
    refine ⟨(h1 r hr).t,?_⟩
    rcases List.mem_cons.1 hr with rfl | hr
    · exact hq
    · exact Qv3 h3 r hr
inductive RI (q:List Int) (L:List (List Rat)):Rat→List Tm→Rat→Prop
  | nil {lo hi:Rat} (h:lo≤hi) (hv:vv L lo=vv L hi):RI q L lo [] hi
  | cons {lo hi:Rat} {t:Tm} {l:List Tm} (h:lo≤t.lo) (hv:vv L lo=vv L t.lo) (ht:Vt (cz q) L t.lo t.hi) (hp:t.p=q) (hl:RI q L t.hi l hi):RI q L lo (t::l) hi
theorem RI.app {q:List Int} {L:List (List Rat)} {lo m hi:Rat} {l l':List Tm} (h:RI q L lo l m) (h':RI q L m l' hi):RI q L lo (l++l') hi:=by
  induction h with
  |
   nil h hv =>
   cases h' with
   | nil h2 hv2=>exact .nil (by grind) (by omega)
   | cons h2 hv2 ht hp hl=>exact .cons (by grind) (by omega) ht hp hl
  | cons h hv ht hp _ ih=>exact .cons h hv ht hp (ih h')
theorem Qv5 {D M k:Nat} {m:Rat} (h:Gr D M k m) (hM:0<M) (hs:Ql (D:Int)+Ql (M:Int)+k≤16777216):chq m=some m:=by
  have:=Qph h hM hs
  unfold chq
  rw [if_pos ⟨this.1,this.2⟩]
theorem I1 {q:List Int} {c:List (List Int)} (hS:Aw (cz q) (c.map cz)) (tq:Qj q) (nq:q.length≤9) (hc1:q.length<2→c=[q]) {D M:Nat} (hM:0<M):∀ (k j:Nat) (lo hi:Rat),lo<hi→Gr D M j lo→Gr D M j hi→Ql (D:Int)+Ql (M:Int)+(j+k)≤16777216→(hi-lo)*((2^(Jp q q+1):Nat):Rat)≤((2^k:Nat):Rat) →
    ∃ l,Gf q c (k+1) lo hi ((vv (c.map cz) lo:Int)-(vv (c.map cz) hi:Int))=some l∧RI q (c.map cz) lo l hi∧∀ t∈l,∃ k',k'≤j+k∧Gr D M k' t.lo∧Gr D M k' t.hi:=by
  intro k
  induction k with
  |
   zero =>
   intro j lo hi hl g1 g2 hs hK
   have hle:=Gk hS hl
   have h2:vv (c.map cz) lo<vv (c.map cz) hi+2:=by
     rcases Nat.lt_or_ge (vv (c.map cz) lo) (vv (c.map cz) hi+2) with h | h
     · exact h
     · exfalso
       have lq:2≤q.length:=by
         rcases Nat.lt_or_ge q.length 2 with e | e
         · have hvv:∀ x,vv (c.map cz) x=vv (c.map cz) 0:=fun x=>by
             rcases hS with ⟨c0,hc0,hcc,hl'⟩ | ⟨g',l',k',hk,hg,hsc,hl'⟩
             · rw [hl']; simp only [vv,tc,hcc]
             · rw [hc1 e] at hl'; cases hl'
           rw [hvv lo,hvv hi] at h; omega
         · exact e
       have:=Q4z hS tq nq lq hl h
       rw [Nat.pow_zero] at hK
       have h7:((1:Nat):Rat)=1:=rfl
       rw [h7] at hK; grind
   simp only [Gf]
   by_cases e0:vv (c.map cz) lo=vv (c.map cz) hi
   · rw [if_pos (by omega)]
     exact ⟨[],rfl,.nil (Rat.le_of_lt hl) e0,fun t ht=>by cases ht⟩
   · rw [if_neg (by omega),if_pos (by omega)]
     refine ⟨[⟨q,lo,hi⟩],rfl,.cons Rat.le_refl rfl ⟨hS,hl,by show vv _ lo=vv _ hi+1; omega⟩ rfl (.nil Rat.le_refl rfl),fun t ht=>?_⟩
     rw [List.mem_singleton.1 ht]; exact ⟨j,by omega,g1,g2⟩
  |
   succ k ih =>
   intro j lo hi hl g1 g2 hs hK
   have hle:=Gk hS hl
   show ∃ l,(if (vv (c.map cz) lo:Int)-(vv (c.map cz) hi:Int)=0 then some [] else if (vv (c.map cz) lo:Int)-(vv (c.map cz) hi:Int)=1 then some [⟨q,lo,hi⟩] else (chq (mid lo hi)).bind fun m=>(Gf q c (k+1) lo m (Jc c lo m)).bind fun l=>(Gf q c (k+1) m hi ((vv (c.map cz) lo:Int)-(vv (c.map cz) hi:Int)-Jc c lo m)).bind fun r=>some (l++r))=some l∧_
   by_cases e0:vv (c.map cz) lo=vv (c.map cz) hi
   · rw [if_pos (by omega)]
     exact ⟨[],rfl,.nil (Rat.le_of_lt hl) e0,fun t ht=>by cases ht⟩
   by_cases e1:vv (c.map cz) lo=vv (c.map cz) hi+1
   · rw [if_neg (by omega),if_pos (by omega)]
     refine ⟨[⟨q,lo,hi⟩],rfl,.cons Rat.le_refl rfl ⟨hS,hl,e1⟩ rfl (.nil Rat.le_refl rfl),fun t ht=>?_⟩
     rw [List.mem_singleton.1 ht]; exact ⟨j,by omega,g1,g2⟩
   · rw [if_neg (by omega),if_neg (by omega)]
     obtain ⟨m,hm⟩:∃ m,m=(lo+hi) / 2:=⟨_,rfl⟩
     have h2:(lo+hi) / 2*2=lo+hi:=Zt (by decide)
     rw [←hm] at h2
     have gm:Gr D M (j+1) m:=by rw [hm]; exact Qxf g1 g2
     have l1:lo<m:=by grind
     have l2:m<hi:=by grind
     rw [Qmg,←hm,Qv5 gm hM (by omega)]
     show ∃ l,((Gf q c (k+1) lo m (Jc c lo m)).bind fun l=>(Gf q c (k+1) m hi ((vv (c.map cz) lo:Int)-(vv (c.map cz) hi:Int)-Jc c lo m)).bind fun r=>some (l++r))=some l∧_
     rw [Rt (Rat.le_of_lt l1),show (vv (c.map cz) lo:Int)-(vv (c.map cz) hi:Int)-((vv (c.map cz) lo:Int)-(vv (c.map cz) m:Int))=(vv (c.map cz) m:Int)-(vv (c.map cz) hi:Int) by omega]
     rw [Qjt k] at hK
     have hp:∀ x y:Rat,(y-x)*2=hi-lo→(y-x)*((2^(Jp q q+1):Nat):Rat)≤((2^k:Nat):Rat):=fun x y h=>by
       have:(y-x)*((2^(Jp q q+1):Nat):Rat)*2=(hi-lo)*((2^(Jp q q+1):Nat):Rat):=by rw [←h]; grind
       grind
     obtain ⟨la,a1,a2,a3⟩:=ih (j+1) lo m l1 (Qdb g1) gm (by omega) (hp lo m (by grind))
     obtain ⟨lb,b1,b2,b3⟩:=ih (j+1) m hi l2 gm (Qdb g2) (by omega) (hp m hi (by grind))
     rw [a1]
     show ∃ l,((Gf q c (k+1) m hi ((vv (c.map cz) m:Int)-(vv (c.map cz) hi:Int))).bind fun r=>some (la++r))=some l∧_
     rw [b1]
     refine ⟨la++lb,rfl,a2.app b2,fun t ht=>?_⟩
     rcases List.mem_append.1 ht with ht | ht
     · obtain ⟨k',h1,h2,h3⟩:=a3 t ht; exact ⟨k',by omega,h2,h3⟩
     · obtain ⟨k',h1,h2,h3⟩:=b3 t ht; exact ⟨k',by omega,h2,h3⟩
theorem Q7w {D M k:Nat} {q:Rat} (h:Gr D M k q):Gr D M k (-q):=by
  obtain ⟨u,hu⟩:=h.u
  exact ⟨⟨-u,by rw [Rat.intCast_neg,←hu]; grind⟩,by rw [U9]; exact h.b,h.d⟩
theorem Qix {m s:Nat} (h:m<2^s):Ql ((m+1:Nat):Int)≤s+1:=by
  rw [J3,Int.natAbs_natCast,Nat.pow_succ]; omega
theorem Qsw {z:Int} {s:Nat} (h:Ql z≤s):Ql ((z.natAbs+1:Nat):Int)≤s+1:=Qix (J3.1 h)
theorem Q4p {x:Rat} {m s g N:Nat} (hx:x≤2*((m+1:Nat):Rat)) (hm:m+1≤2^s) (hN:s+1+g≤N):x*((2^g:Nat):Rat)≤((2^N:Nat):Rat):=by
  have h3:=Rat.natCast_le_natCast.2 hm
  have e:=Qjt s
  have h4:(0:Rat)≤((2^s:Nat):Rat):=Rat.natCast_nonneg
  have h1:x≤((2^(s+1):Nat):Rat):=by rw [e]; grind
  have h5:(0:Rat)≤((2^g:Nat):Rat):=Rat.natCast_nonneg
  refine Rat.le_trans (Rat.mul_le_mul_of_nonneg_right h1 h5) ?_
  have h6:2^(s+1)*2^g≤2^N:=by
    rw [←Nat.pow_add]; exact Nat.pow_le_pow_right (by decide) hN
  have:=Rat.natCast_le_natCast.2 h6
  rw [Rat.natCast_mul] at this
  exact this
theorem Q1g {s:Nat} {l:List Int} (h:Bd s l):most l<2^s:=by
  have key:∀ (l:List Int) (m:Nat),m<2^s→Bd s l→l.foldl (fun m z=>if m<z.natAbs then z.natAbs else m) m<2^s:=by
    intro l
    induction l with
    | nil=>exact fun m h _=>h
    |
     cons y l ih =>
     intro m hm hb
     simp only [List.foldl_cons]
     refine ih _ ?_ fun z hz=>hb z (List.mem_cons_of_mem _ hz)
     have:=hb y (List.mem_cons_self ..)
     rw [J3] at this
     split <;> assumption
  exact key l 0 (Nat.pow_pos (by decide)) h
theorem Qzg {p:List Int} (h:Okp 9 900 p):∃ q c l,Vh p=some q∧Hq p=some c∧Qbn p=some l∧Aw (cz q) (c.map cz)∧RI q (c.map cz) (-Zw q) l (Zw q)∧(∀ t∈l,Va t)∧(∀ x y,x<y→Zw q≤x∨y≤-Zw q→vv (c.map cz) x=vv (c.map cz) y):=by
  obtain ⟨pp,hpl,hpb⟩:=h.pr
  obtain ⟨g,q',hq',sq⟩:=M3 h
  obtain ⟨q,l,q1,q2,hS,hl0⟩:=chain_ok h
  rw [hq'] at q1
  injection q1 with q1
  subst q1
  have e1:∀ t,Qh (Qn p) t=Qh q' t*Qh g t:=fun t=>by rw [sq.e]; grind
  obtain ⟨p1,p2⟩:=X8 pp.t pp.n e1
  have hll:=Vf sq.pq.t sq.pg.t pp.t e1 p1 p2
  have hl9:=h.l
  have bq:Bd 969 q':=S5 hpb (by omega) pp.t sq.pq.t sq.pg.t pp.n e1
  have hall:=Qr9 (h.pb (by omega)) q2 sq.pq.n
  have hld:Qr q'≠0:=by have:=sq.pq.l; omega
  have hb1:=Lf hld
  -- the bound's size
  obtain ⟨D,hD⟩:∃ D,D=(Qr q').natAbs:=⟨_,rfl⟩
  obtain ⟨m,hm⟩:∃ m,m=most (q'.take (q'.length-1)):=⟨_,rfl⟩
  have hm2:m<2^969:=by rw [hm]; exact Q1g (s:=969) fun z hz=>bq z (List.mem_of_mem_take hz)
  have hD0:0<D:=by omega
  have hDs:Ql (D:Int)≤969:=by
    have:=Vs bq
    rw [J3] at this ⊢
    rw [Int.natAbs_natCast,hD]; exact this
  have hbe:=Oj hld
  rw [←hD,←hm] at hbe
  have hDq:=nat_pos hD0
  have hbm:Zw q'≤((m+1:Nat):Rat):=by
    have hD1:(1:Rat)≤(D:Rat):=by
      have:((1:Nat):Rat)≤(D:Rat):=Rat.natCast_le_natCast.2 hD0
      exact this
    have hm0:(0:Rat)≤(m:Rat):=Rat.natCast_nonneg
    have h3:=Kv (a:=(m:Rat)) (c:=1) hm0 Rat.le_refl (by decide) hD1
    rcases Q7 (Zw q') ((m+1:Nat):Rat) with h' | h'
    · exact h'
    · exfalso
      have:=Rat.mul_lt_mul_of_pos_right h' hDq
      push_cast at this; grind
  have gb:Gr D (m+1) 0 (Zw q'):=by
    refine ⟨⟨(D+m:Nat),?_⟩,?_,hD0⟩
    · rw [Nat.pow_zero,Nat.mul_one,hbe]
      rw [show ((((D+m:Nat):Int)):Rat)=((D+m:Nat):Rat) from rfl]; push_cast; rfl
    · have:Qm (Zw q')=Zw q':=by unfold Qm; rw [if_neg (by grind)]
      rw [this]; exact hbm
  have hMs:Ql ((m+1:Nat):Int)≤970:=Qix (s:=969) hm2
  have hK:(Zw q' - -Zw q')*((2^(Jp q' q'+1):Nat):Rat)≤((2^99999:Nat):Rat):=by
    have hps:=Ri bq
    have hg:Jp q' q'≤1964*31:=by
      unfold Jp
      exact Nat.mul_le_mul (by omega) (by omega)
    exact Q4p (s:=969) (g:=Jp q' q'+1) (N:=99999) (by grind) hm2 (by omega)
  have hN:Ql (D:Int)+Ql ((m+1:Nat):Int)+(0+99999)≤16777216:=by omega
  obtain ⟨ls,r1,r2,r3⟩:=I1 hS sq.pq.t (by omega) (fun h=>by rw [hl0 h]) (Nat.succ_pos m) 99999 0 (-Zw q') (Zw q') (by grind) (Q7w gb) gb hN hK
  have hchq:chq (Zw q')=some (Zw q'):=Qv5 gb (Nat.succ_pos m) (by omega)
  refine ⟨q',q'::l,ls,hq',q2,?_,hS,r2,fun t ht=>?_,fun x y hxy hb=>Qnr hS sq.pq.t sq.pq.n hxy hb (by grind)⟩
  · unfold Qbn
    rw [q2,hq']
    show (chq (Zw q')).bind _=_
    rw [hchq]
    show Gf q' (q'::l) 100000 (-Zw q') (Zw q') (Pz (q'::l))=_
    rw [Qti hS hall]
    exact r1
  · obtain ⟨k',k1,k2,k3⟩:=r3 t ht
    have hmem:∀ {lo hi:Rat} {ls:List Tm},RI q' ((q'::l).map cz) lo ls hi→t∈ls→Vt (cz q') ((q'::l).map cz) t.lo t.hi∧t.p=q':=fun h=>by
      induction h with
      | nil=>intro ht; cases ht
      |
       cons h hv ht' hp hl ih =>
       intro ht
       rcases List.mem_cons.1 ht with rfl | ht
       · exact ⟨ht',hp⟩
       · exact ih ht
    obtain ⟨v1,v2⟩:=hmem r2 ht
    have lq2:2≤q'.length:=by
      rcases Nat.lt_or_ge q'.length 2 with e | e
      · exfalso
        have hvv:∀ x,vv ((q'::l).map cz) x=0:=fun x=>by
          rw [hl0 e,sq.pq.one e]
          have hv1:∀ x:Rat,ev (cz [1]) x=1:=fun x=>by rw [Qg,V1]
          simp only [List.map_cons,List.map_nil,vv,tc,hv1]
          have:Qo 1=1:=by decide
          rw [this]; decide
        have:=v1.v
        rw [hvv,hvv] at this; omega
      · exact e
    refine ⟨.inr ⟨_,by rw [v2]; exact v1⟩,by rw [v2]; exact sq.pq.t,by rw [v2]; omega,by rw [v2]; exact lq2,by rw [v2]; exact Qc bq (by omega),D,m+1,k',k2,k3,Nat.succ_pos m,by omega⟩
theorem Uy {q:List Int} {L:List (List Rat)} (hS:Aw (cz q) L) {c:Rat→Int} (hc:Cut c) {lo:Rat} (hH:∀ z,c z=-1→z≤lo→vv L z=vv L lo) {y0:Rat} (hy:c y0=-1) (hv:∀ z,lo<z→z≤y0→vv L z=vv L lo):∃ s,s≠0∧∀ z,c z=-1→z≤y0→Qo (ev (cz q) z)=s:=by
  have hall:∀ z,c z=-1→z≤y0→vv L z=vv L lo:=fun z h1 h2=>by
    rcases Q7 z lo with e | e
    · exact hH z h1 e
    · exact hv z e h2
  have hne:∀ z,c z=-1→z≤y0→Qo (ev (cz q) z)≠0:=fun z h1 h2=>by
    obtain ⟨w,w1,w2⟩:=hc.dn z h1
    have:=Qg8 hS w1 (by rw [hall w w2 (by grind),hall z h1 h2])
    rw [this.s]; exact this.n
  refine ⟨Qo (ev (cz q) y0),hne y0 hy Rat.le_refl,fun z h1 h2=>?_⟩
  rcases Classical.em (z=y0) with e | e
  · rw [e]
  · have:=Qg8 hS (x:=z) (y:=y0) (by grind) (by rw [hall z h1 h2,hall y0 hy Rat.le_refl])
    rw [this.s,Fz (hne z h1 h2)]
structure Fst (o:List Int) (a t:Tm):Prop where
  lt:Yw a t
  s:∃ s,s≠0∧(∀ z,Qu a z=-1→Qu t z=1→Qo (ev (cz o) z)=s)∧RS (cz o) (Qu t) (-s)
def Non (o:List Int) (a:Tm):Prop:=∃ s,s≠0∧∀ z,Qu a z=-1→Qo (ev (cz o) z)=s
theorem Qs5 {q:List Int} {L:List (List Rat)} (hS:Aw (cz q) L) {a:Tm} (ha:Va a) {lo hi:Rat} {l:List Tm} (hR:RI q L lo l hi):(∀ t∈l,Va t)→(∀ z,hi<z→vv L z=vv L hi)→(∀ z,Qu a z=-1→z≤lo→vv L z=vv L lo)→∃ r,Ni a l=some r∧match r with
    | none=>Non q a
    | some t=>t∈l∧Fst q a t:=by
  have ca:=ha.cut
  induction hR with
  |
   @nil lo hi h hv =>
   intro _ hhi hH
   refine ⟨none,rfl,?_⟩
   obtain ⟨y1,hy1⟩:=ca.hi
   have hall:∀ z,lo<z→vv L z=vv L lo:=fun z hz=>by
     rcases Q7 z hi with e | e
     · have h1:=Gk hS hz
       have h2:vv L hi≤vv L z:=by
         rcases Classical.em (z=hi) with e' | e'
         · rw [e']; exact Nat.le_refl _
         · exact Gk hS (by grind)
       omega
     · rw [hhi z e,hv]
   obtain ⟨s,s0,hs⟩:=Uy hS ca hH hy1 fun z h1 _=>hall z h1
   refine ⟨s,s0,fun z hz=>?_⟩
   rcases Q7 z y1 with e | e
   · exact hs z hz e
   · obtain ⟨s',s0',hs'⟩:=Uy hS ca hH hz fun z h1 _=>hall z h1
     rw [hs' z hz Rat.le_refl,←hs' y1 hy1 (Rat.le_of_lt e),hs y1 hy1 Rat.le_refl]
  |
   @cons lo hi t l h hv ht hp hl ih =>
   intro hV hhi hH
   have hvt:=hV t (List.mem_cons_self ..)
   have ct:=hvt.cut
   have ht':=ht
   rw [←hp] at ht'
   have ect:∀ z,Qu t z=cq (cz t.p) t.lo t.hi z:=Kr ht.l
   obtain ⟨c,c1,c2⟩:=Ih hvt ha
   show ∃ r,((O3 t a).bind fun c=>if 0<c then some (some t) else Ni a l)=some r∧_
   rw [c1]
   show ∃ r,(if 0<c then some (some t) else Ni a l)=some r∧_
   have hlo1:Qu t t.lo=1:=by rw [ect]; exact Fp Rat.le_refl
   have hlow:∀ z,lo<z→Qu t z=1→vv L z=vv L lo:=fun z h1 h2=>by
     rcases Q7 z t.lo with e | e
     · have a1:=Gk hS h1
       have a2:vv L t.lo≤vv L z:=by
         rcases Classical.em (z=t.lo) with e' | e'
         · rw [e']; exact Nat.le_refl _
         · exact Gk hS (by grind)
       omega
     · rw [ect] at h2
       have hz:z≤t.hi:=by
         rcases Q7 z t.hi with e' | e'
         · exact e'
         · rw [Ce ht.l e'] at h2; omega
       rw [ht'.eq_lo e hz h2,hv]
   by_cases hc:0<c
   · rw [if_pos hc]
     refine ⟨some t,rfl,List.mem_cons_self ..,?_⟩
     have hlt:Yw a t:=by
       rcases c2 with ⟨e,_⟩ | ⟨e,_⟩ | ⟨_,h⟩
       · omega
       · omega
       · exact h
     refine ⟨hlt,?_⟩
     obtain ⟨m,m1,m2⟩:=hlt
     obtain ⟨s,s0,hs⟩:=Uy hS ca hH m1 fun z h1 h2=>hlow z h1 (by
       rcases Classical.em (z=m) with e | e
       · rw [e]; exact m2
       · exact ct.mono' (q:=z) (r:=m) (by grind) (by omega))
     have hall:∀ z,Qu a z=-1→Qu t z=1→Qo (ev (cz q) z)=s:=fun z h1 h2=>by
       rcases Q7 z m with e | e
       · exact hs z h1 e
       · obtain ⟨s',s0',hs'⟩:=Uy hS ca hH h1 fun w w1 w2=>hlow w w1 (by
           rcases Classical.em (w=z) with e | e
           · rw [e]; exact h2
           · exact ct.mono' (q:=w) (r:=z) (by grind) (by omega))
         rw [hs' z h1 Rat.le_refl,←hs' m m1 (Rat.le_of_lt e),hs m m1 Rat.le_refl]
     refine ⟨s,s0,hall,?_⟩
     -- Q70 behind t
     obtain ⟨w,w1,w2,w3⟩:=O5 ct m2 hlo1
     have hwa:Qu a w=-1:=ca.mono m w w2 (by omega)
     have hsw:=hall w hwa w1
     have hwh:w<t.hi:=by
       rw [ect] at w1
       rcases Q7 t.hi w with e | e
       · have:=ht'.hi1
         rcases Classical.em (t.hi=w) with e' | e'
         · rw [←e'] at w1; exact absurd w1 this
         · rw [Ce ht.l (by grind)] at w1; omega
       · exact e
     have hww:vv L w=vv L t.lo:=ht'.eq_lo w3 (Rat.le_of_lt hwh) (by rw [←ect]; exact w1)
     have hvv:=ht.v
     have hone:=Qg7 hS hwh (by omega)
     have hlw:Yf (cz q) w=s:=by rw [Fz (by rw [hsw]; exact s0),hsw]
     rw [hlw] at hone
     have hd:∀ z,w<z→z≤t.hi→Qu t z=-1→Qo (ev (cz q) z)=-s:=fun z z1 z2 z3=>by
       rw [ect] at z3
       have e1:=ht'.eq_hi (by grind) z2 (by omega)
       have e2:=Qg7 hS z1 (by omega)
       rw [hlw] at e2
       have hz0:Qo (ev (cz q) z)≠0:=by
         rw [Ha (by grind) z2,hp] at z3
         intro h0
         rw [if_pos h0] at z3; omega
       rw [Fz hz0] at e2; exact e2.2
     rcases ct.val t.hi with e | e | e
     · rw [ect] at e; exact absurd e ht'.hi1
     · obtain ⟨d,dp,hd'⟩:=Q70 (p:=cz q) (x:=t.hi) (by rw [hone.2]; omega)
       refine ⟨t.hi+d,ct.mono t.hi _ (by grind) (by omega),fun z h1 h2=>?_⟩
       have hz:t.hi<z:=by
         rcases Q7 z t.hi with e' | e'
         · rcases Classical.em (z=t.hi) with e'' | e''
           · rw [e''] at h1; omega
           · have:=ct.mono z t.hi (by grind) (by omega); omega
         · exact e'
       rw [hd' z hz (by grind),hone.2]
     · exact ⟨t.hi,e,fun z h1 h2=>hd z (ct.lt w1 h1) h2 h1⟩
   · rw [if_neg hc]
     have hle:¬Yw a t:=fun h=>by
       rcases c2 with ⟨e,h'⟩ | ⟨e,h'⟩ | ⟨e,_⟩
       · exact Ba ct ca h' h
       · obtain ⟨z,z1,z2⟩:=h
         have:=h' z; omega
       · omega
     obtain ⟨r,r1,r2⟩:=ih (fun x hx=>hV x (List.mem_cons_of_mem _ hx)) hhi fun z z1 z2=>by
       -- z lies behind a,so behind t
       have hz:Qu t z≠1:=fun h=>hle ⟨z,z1,h⟩
       have hzl:t.lo<z:=by
         rcases Q7 z t.lo with e | e
         · refine absurd ?_ hz
           rw [ect]; exact Fp e
         · exact e
       exact ht'.eq_hi hzl z2 (by rw [←ect]; exact hz)
     refine ⟨r,r1,?_⟩
     cases r with
     | none=>exact r2
     | some x=>exact ⟨List.mem_cons_of_mem _ r2.1,r2.2⟩
end Orq

namespace Orq
open Orr Go
theorem Q58 {c:Rat→Int} (hc:Cut c):∀ (n:Nat) (f:List Rat),HD f n→∃ s,s≠0∧RS f c s
  |
   n,f,h=>by
   rcases Mb hc f with hv | ⟨s,hs,hn⟩
   · cases n with
     |
      zero =>
      exfalso
      obtain ⟨q,hq,_⟩:=Qja hc (hv (Qm (f.getD 0 0)) (K7 h.1))
      cases f with
      | nil=>exact h.1 (by simp)
      |
       cons a l =>
       have:=Ug (p:=l) fun k=>by have:=h.2 (k+1) (by omega); rwa [List.getD_cons_succ] at this
       simp only [ev,this,List.getD_cons_zero] at hq; grind
     |
      succ n =>
      have hd:HD (V6 f) n:=by
        have key:∀ (f:List Rat) (k:Nat),(V6 f).getD k 0=((k+1:Nat):Rat)*f.getD (k+1) 0:=by
          intro f
          induction f with
          | nil=>intro k; simp only [V6,List.getD_nil]; grind
          |
           cons a f ih =>
           intro k
           simp only [V6]
           rw [Xu,List.getD_cons_succ]
           cases k with
           | zero=>rw [List.getD_cons_zero]; push_cast; grind
           | succ k=>rw [List.getD_cons_succ,ih]; push_cast; grind
        refine ⟨fun h0=>?_,fun k hk=>by rw [key,h.2 (k+1) (by omega)]; grind⟩
        rw [key] at h0
        rcases Rat.mul_eq_zero.1 h0 with h1 | h1
        · have:=nat_pos (show 0<n+1 by omega); grind
        · exact h.1 h1
      obtain ⟨s,hs,h1⟩:=Q58 hc n (V6 f) hd
      exact ⟨s,hs,Qgm hc hv h1 hs⟩
   · exact ⟨s,hs,Qd2 hc hn⟩
theorem Qzi {c:Rat→Int} (hc:Cut c) {f p q:List Rat} {s s':Int} (hf:∀ t,ev f t=ev p t*ev q t) (h:RS p c s) (h':RS q c s'):RS f c (s*s'):=by
  obtain ⟨y,h1,h2⟩:=h
  obtain ⟨y',h3,h4⟩:=h'
  refine ⟨if y≤y' then y else y',by split <;> assumption,fun z z1 z2=>?_⟩
  rw [hf,Jw,h2 z z1 (by clear h2 h4; grind),h4 z z1 (by clear h2 h4; grind)]
theorem Qzj {c:Rat→Int} (hc:Cut c) {f o S:List Rat} {k:Rat} (hk:k≠0) (hf:∀ t,ev f t=k*(ev o t*(ev S t*ev S t))) (hnz:¬∀ t,ev f t=0) {s:Int} (h:RS o c s):RS f c (Qo k*s):=by
  obtain ⟨n,_,hn⟩:∃ n,n<S.length∧HD S n:=by
    rcases Qav S with h1 | h1
    · exact absurd (fun t=>by rw [hf,h1]; grind) hnz
    · exact h1
  obtain ⟨s',hs',h'⟩:=Q58 hc n S hn
  have h1:=Qzi hc (f:=Zo S S) (fun t=>Qk t _ _) h' h'
  have h2:=Qzi hc (f:=Zo o (Zo S S)) (fun t=>Qk t _ _) h h1
  have hsq:s'*s'=1:=by
    obtain ⟨y,y1,y2⟩:=h'
    have:=y2 y y1 Rat.le_refl
    rcases Zd (ev S y) with ⟨e,_⟩ | ⟨e,_⟩ | ⟨e,_⟩
    · rw [←this,e]; rfl
    · omega
    · rw [←this,e]; rfl
  rw [hsq,Int.mul_one] at h2
  obtain ⟨y,y1,y2⟩:=h2
  exact ⟨y,y1,fun z z1 z2=>by
    have:=y2 z z1 z2
    rw [Qk,Qk] at this
    rw [hf,Jw,this]⟩
structure Cp (p:List Int):Prop where
  t:Qj p
  l:p.length≤9
  b:Bd 800 p
theorem Cp.dp {p:List Int} (h:Cp p):Dp p:=⟨h.t,h.l,Qc h.b (by omega)⟩
theorem Cp.ok {p:List Int} (h:Cp p) (h0:p.length≠0):Okp 9 900 p:=h.dp.ok h0
def Leq (a:Tm) (c:Rat→Int):Prop:=∀ q,c q=-1→Qu a q=-1
def Yd (p:List Int) (a:Tm):Option Tm→Prop
  | none=>p=[]∨∃ s,s≠0∧∀ c,Cut c→Leq a c→RS (cz p) c s
  | some t=>p≠[]∧Va t∧Yw a t∧∃ s,s≠0∧(∀ c,Cut c→Leq a c→(∃ m,c m=-1∧Qu t m=1)→RS (cz p) c s)∧RS (cz p) (Qu t) (-s)
theorem RI.len {q:List Int} {L:List (List Rat)} {lo hi:Rat} {l:List Tm} (h:RI q L lo l hi):l.length+vv L hi≤vv L lo:=by
  induction h with
  | nil h hv=>simp; omega
  | cons h hv ht hp hl ih=>have:=ht.v; simp only [List.length_cons]; omega
theorem Q0f (x:Rat):∀ (L:List (List Rat)) (s:Int),tc x s L≤L.length
  | [],_=>Nat.le_refl _
  |
   f::l,s=>by
   have h1:=Q0f x l
   simp only [tc,List.length_cons]
   repeat' split
   all_goals (first | (have:=h1 s; omega) | (have:=h1 (Qo (ev f x)); omega))
theorem Q9b (L:List (List Rat)) (x:Rat):vv L x≤L.length:=Q0f x L 0
theorem Ma {p:List Int} (h:Cp p):∃ l,Bt p=some l∧l.length≤67∧(∀ t∈l,Va t)∧∀ a,Va a→∃ r,Ni a l=some r∧Yd p a r∧∀ t,r=some t→t∈l:=by
  unfold Bt
  by_cases h0:p.length=0
  · have e:p=[]:=List.eq_nil_of_length_eq_zero h0
    subst e
    exact ⟨[],rfl,by decide,(fun t ht=>by cases ht),fun a _=>⟨none,rfl,.inl rfl,fun t ht=>by cases ht⟩⟩
  · obtain ⟨qp,o,q1,o1,hpt⟩:=Qyb (n:=9) (s:=800) (p:=p) ⟨⟨by decide,by decide⟩,h.t,h0,h.l,h.b⟩
    obtain ⟨g,sq⟩:=hpt.sq
    obtain ⟨S,hS⟩:=hpt.os
    obtain ⟨p1,p2,p3,p4,p5,p6,p7⟩:=K0 h.t h0
    have hpl:=h.l
    obtain ⟨hh,th,eh⟩:=hpt.oh
    have bo:Bd 869 o:=S5 (p5 800 h.b) (by omega) p1 hpt.ot th (by omega) eh
    obtain ⟨lo1,lo2⟩:=X8 p1 (by omega) eh
    have hlen:=Vf hpt.ot th p1 eh lo1 lo2
    have oko:Okp 9 900 o:=⟨Qqd,hpt.ot,by omega,by omega,Qc bo (by omega)⟩
    obtain ⟨q,c,l,r1,r2,r3,hSt,hRI,hVa,hout⟩:=Qzg oko
    obtain ⟨g',q',s1,s2⟩:=M3 oko
    rw [r1] at s1
    injection s1 with s1
    subst s1
    obtain ⟨_,_,_,_,_,o6,o7⟩:=K0 hpt.ot (by omega)
    -- o has no multiple Qbn
    have hg1:g'=[1]:=by
      refine s2.pg.one ?_
      obtain ⟨E,hE⟩:=hpt.oq
      have hE:∀ t,Qh qp t=Qh o t*ev E t:=fun t=>by have:=hE t; rwa [Qg,Qg] at this
      obtain ⟨z,hz⟩:=s2.d
      have hd1:∀ t,Qh o t=Qh g' t*(Z4 o*Qh q t):=fun t=>by rw [o7,s2.e]; grind
      have hdo:∀ t,dv (cz o) t=Qh g' t*(Z4 o*ev z t):=fun t=>by
        have:=Qwl (p:=cz o) (q:=Uc (Z4 o) (cz (Qn o))) (fun t=>by rw [Qg,Zb,Qg,o7]) t
        rw [this,Lp,hz]; grind
      obtain ⟨k,hk,hkk⟩:=sq.num (d:=cz g') ⟨Zo (Uc (Z4 o) (cz q)) E,fun t=>by rw [Qg,Qg,hE,hd1,Qk,Zb,Qg]; grind⟩ ⟨Jv (Zo (Uc (Z4 o) z) E) (Zo (Uc (Z4 o) (cz q)) (V6 E)),fun t=>by
        have:=Te (f:=cz qp) (w:=cz o) (u:=E) (fun t=>by rw [Qg,Qg,hE]) t
        rw [Jd,this,hdo,Qg,Qg,hd1,Zl,Qk,Qk,Zb,Zb,Jd,Qg]; grind⟩
      rcases Nat.lt_or_ge g'.length 2 with e | e
      · exact e
      · exfalso
        have h1:=(Ad s2.pg.t (by omega)).1
        have h2:=W8 (p:=cz g') (q:=[k]) (fun t=>by rw [hkk]; simp only [ev]; grind) (g'.length-1)
        rw [h2,List.getD_eq_getElem?_getD,List.getElem?_eq_none (by simp; omega)] at h1
        exact h1 rfl
    have hpq:∀ t,ev (cz p) t=((Z4 p:Rat)*(Z4 o:Rat))*(ev (cz q) t*(ev S t*ev S t)):=fun t=>by
      rw [Qg,Qg,p7,hS,o7,s2.e,hg1,V1]; grind
    have hk0:(Z4 p:Rat)*(Z4 o:Rat)≠0:=fun h=>(Rat.mul_eq_zero.1 h).elim (Pa p6) (Pa o6)
    have hpz:¬∀ t,ev (cz p) t=0:=fun h'=>E8 h.t (by omega) fun t=>by rw [←Qg]; exact h' t
    obtain ⟨k,hk⟩:∃ k,k=Qo ((Z4 p:Rat)*(Z4 o:Rat)):=⟨_,rfl⟩
    have hkn:k≠0:=fun h=>hk0 (Zf.1 (by rw [←hk]; exact h))
    have ho:o.length≠0:=by omega
    rw [o1]
    show ∃ l,(if o.length=0 then some [] else Qbn o)=some l∧l.length≤67∧_
    rw [if_neg ho]
    have hb1:=Lf (U6 s2.pq.t s2.pq.n)
    have hll:=hRI.len
    have hlv:=Q9b (c.map cz) (-Zw q)
    have hcl:=(Orr.chain_ok (p:=o) ⟨hpt.ot,by omega,Qc bo (by omega)⟩ r2).1
    rw [List.length_map] at hlv
    refine ⟨l,r3,by omega,hVa,fun a ha=>?_⟩
    obtain ⟨r,n1,n2⟩:=Qs5 hSt ha hRI hVa (fun z hz=>(hout _ _ hz (.inl Rat.le_refl)).symm) fun z _ hz=>by
      rcases Classical.em (z=-Zw q) with e | e
      · rw [e]
      · exact hout z _ (by grind) (.inr Rat.le_refl)
    refine ⟨r,n1,?_,fun t ht=>by subst ht; exact n2.1⟩
    cases r with
    |
     none =>
     obtain ⟨s,hs,hz⟩:=n2
     refine .inr ⟨k*s,Int.mul_ne_zero hkn hs,fun c hc hac=>?_⟩
     obtain ⟨y,hy⟩:=hc.hi
     have h1:RS (cz q) c s:=⟨y,hy,fun z z1 _=>hz z (hac z z1)⟩
     rw [hk]; exact Qzj hc hk0 hpq hpz h1
    |
     some t =>
     obtain ⟨hm,hlt,s,hs,hz,hrs⟩:=n2
     refine ⟨fun e=>h0 (by rw [e]; rfl),hVa t hm,hlt,k*s,Int.mul_ne_zero hkn hs,fun c hc hac ⟨m,m1,m2⟩=>?_,?_⟩
     · have h1:RS (cz q) c s:=⟨m,m1,fun z z1 z2=>hz z (hac z z1) (by
         rcases Classical.em (z=m) with e | e
         · rw [e]; exact m2
         · exact (hVa t hm).cut.mono' (q:=z) (r:=m) (by grind) (by omega))⟩
       rw [hk]; exact Qzj hc hk0 hpq hpz h1
     · have:=Qzj (hVa t hm).cut hk0 hpq hpz hrs
       rw [←hk] at this
       rw [show -(k*s)=k*-s by rw [Int.mul_neg]]; exact this
theorem Qx7 {p:List Int} (h:Cp p) {a:Tm} (ha:Va a):∃ r,Aj p a=some r∧Yd p a r:=by
  obtain ⟨l,l1,_,_,l3⟩:=Ma h
  obtain ⟨r,r1,r2,_⟩:=l3 a ha
  refine ⟨r,?_,r2⟩
  unfold Aj
  rw [l1]; exact r1
theorem Eb:∀ (l:List Tm) (b:Tm),(∀ t∈b::l,Va t)→∃ m,Tk b l=some m∧m∈b::l∧∀ t∈b::l,¬Yw t m
  |
   [],b,h=>⟨b,rfl,List.mem_cons_self ..,fun t ht h'=>by
   rw [List.mem_singleton.1 ht] at h'
   have hb:=(h b (List.mem_cons_self ..)).cut
   exact Ba hb hb h' h'⟩
  |
   a::l,b,h=>by
   have ha:=h a (by simp)
   have hb:=h b (by simp)
   obtain ⟨c,c1,c2⟩:=Ih ha hb
   obtain ⟨m,m1,m2,m3⟩:=Eb l (if c<0 then a else b) fun t ht=>by
     rcases List.mem_cons.1 ht with rfl | ht
     · split <;> assumption
     · exact h t (by simp [ht])
   refine ⟨m,by simp only [Tk]; rw [c1]; exact m1,?_,fun t ht=>?_⟩
   · rcases List.mem_cons.1 m2 with e | e
     · rw [e]; split <;> simp
     · simp [e]
   · have hm:Va m:=by
       rcases List.mem_cons.1 m2 with e | e
       · rw [e]; split <;> assumption
       · exact h m (by simp [e])
     have hfst:=m3 _ (List.mem_cons_self ..)
     -- what is not less stays so
     have tr:∀ x y:Tm,Va x→Va y→¬Yw x y→¬Yw y m→¬Yw x m:=fun x y hx hy h1 h2 h3=>by
       rcases tri hy.cut hm.cut with h4 | h4 | h4
       · exact h2 h4
       · obtain ⟨q,q1,q2⟩:=h3
         exact h1 ⟨q,q1,by rw [h4]; exact q2⟩
       · obtain ⟨q,q1,q2⟩:=h3
         obtain ⟨r,r1,r2⟩:=h4
         have:=hm.cut.lt q2 r1
         exact h1 ⟨q,q1,hy.cut.mono' this (by omega)⟩
     rcases List.mem_cons.1 ht with rfl | ht
     · by_cases hc:c<0
       · rw [if_pos hc] at hfst
         refine tr _ a hb ha ?_ hfst
         rcases c2 with ⟨_,h'⟩ | ⟨e,_⟩ | ⟨e,_⟩
         · exact fun h''=>Ba ha.cut hb.cut h' h''
         · omega
         · omega
       · rw [if_neg hc] at hfst; exact hfst
     · rcases List.mem_cons.1 ht with rfl | ht
       · by_cases hc:c<0
         · rw [if_pos hc] at hfst; exact hfst
         · rw [if_neg hc] at hfst
           refine tr _ b ha hb ?_ hfst
           rcases c2 with ⟨e,_⟩ | ⟨_,h'⟩ | ⟨_,h'⟩
           · omega
           · rintro ⟨q,q1,q2⟩
             have:=h' q; omega
           · exact fun h''=>Ba ha.cut hb.cut h'' h'
       · exact m3 t (by simp [ht])
end Orq

namespace Orr
open Go Go.Proofs Orq
set_option maxRecDepth 10000
theorem Dp.pb {p:List Int} (h:Dp p):Pb p:=⟨h.t,by have:=h.l; omega,Qc h.b (by have:=h.l; omega)⟩
theorem Q91 {p:List Int} {a:Tm} (hp:Dp p) (ha:Va a):Qd Tryz.prog 181 [pr p,.agg (ta a)] [.one (.int .i64 (Jj a p))]:=Q1i (Dp.pb hp) ha.tb (Qzs hp ha).1
theorem Q9t {p:List Int} {a:Tm} (hp:Dp p) (ha:Va a):Qd Tryz.prog 180 [pr p,.one (.sh (ta a))] [.one (.int .i64 (Jj a p))]:=w tt Tryz.func180 rfl [.c [] (Q91 hp ha)] rfl rfl trivial
theorem Q13 {p:List Int} {fid:Nat} {l1:List LV} {sgn:List Int→Int} (hp:Dp p) (h:∀ p,Dp p→Qd Tryz.prog fid [pr p,.one (.sh l1)] [.one (.int .i64 (sgn p))]):Qd Tryz.prog 179 [pr p,.one (.fn fid [] [.sh l1])] [.one (.int .i64 (Ya sgn p.length p))]:=by
  have hpb:=Dp.pb hp
  refine Z7 Tryz.func179 rfl ?_
  refine go tt [.c [] (Xz hpb.t hpb.ln hpb.bd)] rfl trivial ?_
  refine lp (S:=List Int) 0 (fun L1 s=>(0,.v (pr s))::L1) (fun _=>[]) (fun s=>s.length) (fun s=>Dp s∧Ya sgn s.length s=Ya sgn p.length p) p ⟨hp,rfl⟩ rfl (fun _ _=>rfl) rfl fun r ⟨j1,j4⟩=>?_
  rw [←j4]
  have jb:=Dp.pb j1
  by_cases h0:r.length=0
  · have e:=Ac sgn h0
    rw [e]
    exact en tt [.f (by simp; exact List.eq_nil_of_length_eq_zero h0)] rfl rfl trivial
  · have hs:=h r j1
    by_cases hz:sgn r=0
    · have hlp:=Yy r
      refine go tt [.t (by simp; omega),.c [] hs,.f (by simpa using hz),.c [] (Ho jb.ln jb.bd)] rfl trivial ?_
      exact rd (Zn r) (by omega) ⟨j1.der,by rw [←Ab sgn (by omega) hz]⟩ rfl
    · rw [Aa sgn (by omega) hz]
      exact en tt [.t (by simp; omega),.c [] hs,.t (by simpa using hz)] rfl rfl trivial
abbrev gmA (a:Tm) (p:List Int):Int:=Ur (Jj a) p
theorem Q5j {p:List Int} {a:Tm} (hp:Dp p) (ha:Va a):Qd Tryz.prog 129 [pr p,.agg (ta a)] [.one (.int .i64 (gmA a p))] :=
  w tt Tryz.func129 rfl [.c [] (Q13 (sgn:=Jj a) hp fun _ h=>Q9t h ha)] rfl rfl trivial
structure Sc (k:Crv):Prop where
  n:Nml k
  c:Cs 90 3 k
theorem Sc.cb {k:Crv} (h:Sc k):Cb k:=h.c.mono (by omega) (by omega)
theorem Q0p {q:Rat} (hq:Qs 900 q):Va (tq q):=by
  have hd:=q.den_nz
  refine ⟨.inl ⟨rfl,?_⟩,Qrf q,by show 2≤9; omega,by show 2≤2; omega,Q9r (hq.mono (by omega)),q.den,q.num.natAbs+1,0,?_,?_,by omega,?_⟩
  · have e:(q.num:Rat)=q*(q.den:Rat):=by
      have:(q.num:Rat) / (((q.den:Int)):Rat)=q:=by rw [Xn,Rat.num_divInt_den]
      have h2:(q.num:Rat) / (q.den:Rat)*(q.den:Rat)=q.num:=Rat.div_mul_cancel (by have:=Orq.nat_pos q.den_pos; grind)
      rw [show (q.num:Rat) / (q.den:Rat)=q from this] at h2; exact h2.symm
    show Qh [-q.num,(q.den:Int)] q=0
    simp only [Qh]
    rw [Rat.intCast_neg,e,show (((q.den:Int)):Rat)=(q.den:Rat) from rfl]; grind
  all_goals first | (have h1:Ql (q.den:Int)≤900:=hq.2; have h2:Ql ((q.num.natAbs+1:Nat):Int)≤901:=Qsw hq.1; omega) | skip
  all_goals
    refine ⟨⟨q.num,?_⟩,?_,q.den_pos⟩
    · rw [Nat.pow_zero,Nat.mul_one]
      have:(q.num:Rat) / (((q.den:Int)):Rat)=q:=by rw [Xn,Rat.num_divInt_den]
      have h2:(q.num:Rat) / (q.den:Rat)*(q.den:Rat)=q.num:=Rat.div_mul_cancel (by have:=Orq.nat_pos q.den_pos; grind)
      rw [show (q.num:Rat) / (q.den:Rat)=q from this] at h2; exact h2
    · have h1:Qm q≤Qm (q.num:Rat):=by
        have e:(q.num:Rat)=q*(q.den:Rat):=by
          have:(q.num:Rat) / (((q.den:Int)):Rat)=q:=by rw [Xn,Rat.num_divInt_den]
          have h2:(q.num:Rat) / (q.den:Rat)*(q.den:Rat)=q.num:=Rat.div_mul_cancel (by have:=Orq.nat_pos q.den_pos; grind)
          rw [show (q.num:Rat) / (q.den:Rat)=q from this] at h2; exact h2.symm
        rw [e,G5]
        have hd1:(1:Rat)≤(q.den:Rat):=by
          have:((1:Nat):Rat)≤(q.den:Rat):=Rat.natCast_le_natCast.2 q.den_pos
          exact this
        have e2:Qm (q.den:Rat)=(q.den:Rat):=by unfold Qm; rw [if_neg (by grind)]
        rw [e2]
        have:=Kv (a:=Qm q) (c:=1) (Xc q) Rat.le_refl (by decide) hd1
        grind
      rw [Jy] at h1
      refine Rat.le_trans h1 (Rat.natCast_le_natCast.2 (by omega))
end Orr

namespace Orr
open Go Go.Proofs Orq
set_option maxRecDepth 10000
end Orr

namespace Orr
variable {α:Type}
def Kz (lt:α→α→Bool) (out:List α) (x:α):Nat→Nat
  | 0=>0
  |
   k+1=>match out[k]? with
   | some y=>if lt x y=true then Kz lt out x k else k+1
   | none=>k+1
theorem Qf9 (lt:α→α→Bool) (out:List α) (x:α):∀ k,Kz lt out x k≤k
  | 0=>Nat.le_refl _
  |
   k+1=>by
   simp only [Kz]
   split
   · split
     · exact Nat.le_succ_of_le (Qf9 lt out x k)
     · exact Nat.le_refl _
   · exact Nat.le_refl _
theorem Qga {lt:α→α→Bool} {out:List α} {x y:α} {k:Nat} (hx:out[k]? = some y) (h:lt x y=true):Kz lt out x (k+1)=Kz lt out x k:=by
  simp only [Kz,hx,h,if_true]
theorem Qbh {lt:α→α→Bool} {out:List α} {x y:α} {k:Nat} (hx:out[k]? = some y) (h:lt x y=false):Kz lt out x (k+1)=k+1:=by
  simp [Kz,hx,h]
def U5 (lt:α→α→Bool) (out:List α) (x:α):List α:=out.take (Kz lt out x out.length)++x::out.drop (Kz lt out x out.length)
theorem Qxl (lt:α→α→Bool) (out:List α) (x:α):(U5 lt out x).length=out.length+1:=by
  have:=Qf9 lt out x out.length
  simp [U5]; omega
theorem Qax {lt:α→α→Bool} {out:List α} {x y:α}:y∈U5 lt out x↔y=x∨y∈out:=by
  have h:y∈out↔y∈out.take (Kz lt out x out.length)∨y∈out.drop (Kz lt out x out.length):=by
    rw [←List.mem_append,List.take_append_drop]
  simp only [U5,List.mem_append,List.mem_cons,h]
  constructor
  · rintro (h | h | h)
    · exact .inr (.inl h)
    · exact .inl h
    · exact .inr (.inr h)
  · rintro (h | h | h)
    · exact .inr (.inl h)
    · exact .inl h
    · exact .inr (.inr h)
def Z1 (lt:α→α→Bool) (l:List α):List α:=l.foldl (U5 lt) []
theorem Qni (lt:α→α→Bool) (l:List α) (x:α):Z1 lt (l++[x])=U5 lt (Z1 lt l) x:=by simp [Z1,List.foldl_append]
theorem Qbs {lt:α→α→Bool} {l:List α} {i:Nat} {x:α} (h:l[i]? = some x):Z1 lt (l.take (i+1))=U5 lt (Z1 lt (l.take i)) x:=by
  rw [List.take_succ,h]; exact Qni _ _ _
theorem Qap (lt:α→α→Bool):∀ (l acc:List α),(l.foldl (U5 lt) acc).length=acc.length+l.length
  | [],acc=>by simp
  | c::l,acc=>by simp only [List.foldl_cons]; rw [Qap lt l (U5 lt acc c),Qxl]; simp; omega
theorem Vj (lt:α→α→Bool) (l:List α):(Z1 lt l).length=l.length:=by unfold Z1; rw [Qap]; simp
theorem Qaq (lt:α→α→Bool):∀ (l acc:List α) {y:α},y∈l.foldl (U5 lt) acc↔y∈l∨y∈acc
  | [],acc,y=>by simp
  |
   c::l,acc,y=>by
   simp only [List.foldl_cons]
   rw [Qaq lt l,Qax,List.mem_cons]
   constructor
   · rintro (h | h | h)
     · exact .inl (.inr h)
     · exact .inl (.inl h)
     · exact .inr h
   · rintro ((h | h) | h)
     · exact .inr (.inl h)
     · exact .inl h
     · exact .inr (.inr h)
theorem Rl {lt:α→α→Bool} {l:List α} {y:α}:y∈Z1 lt l↔y∈l:=by
  unfold Z1; rw [Qaq]; simp
end Orr

namespace Orr
open Go Orq
structure Wt where
  c:Ct
  known:Bool
  fails:Option Tm
def f0:Option Tm→LV | none=>.row [] | some t=>pl t.p
def f1:Option Tm→LV | none=>.bool false | some t=>sg t.lo.num
def f2:Option Tm→LV | none=>.row [] | some t=>mg t.lo.num
def f3:Option Tm→LV | none=>.bool false | some t=>sg (t.lo.den:Int)
def f4:Option Tm→LV | none=>.row [] | some t=>mg (t.lo.den:Int)
def f5:Option Tm→LV | none=>.bool false | some t=>sg t.hi.num
def f6:Option Tm→LV | none=>.row [] | some t=>mg t.hi.num
def f7:Option Tm→LV | none=>.bool false | some t=>sg (t.hi.den:Int)
def f8:Option Tm→LV | none=>.row [] | some t=>mg (t.hi.den:Int)
abbrev fl (o:Option Tm):List LV:=[f0 o,f1 o,f2 o,f3 o,f4 o,f5 o,f6 o,f7 o,f8 o]
abbrev wl (w:Wt):List LV:=[.int .i64 w.c.kind,.int .i64 w.c.i0,.int .i64 w.c.i1,.int .i64 w.c.i2,.int .i64 w.c.i3,pl w.c.p,.int .i64 w.c.want,.bool w.known,.bool w.fails.isSome,f0 w.fails,f1 w.fails,f2 w.fails,f3 w.fails,f4 w.fails,f5 w.fails,f6 w.fails,f7 w.fails,f8 w.fails]
def Bw (l:List Wt):List (List LV):=l.map fun w=>wl w
theorem Y8 {l:List Wt} {i:Nat} {w:Wt} (h:l[i]? = some w):(Bw l)[i]? = some (wl w):=Xf h
theorem Uo (l:List Wt):(Bw l).length=l.length:=by simp [Bw]
structure Cr where
  now:Tm
  l:List Wt
  ev:Int
abbrev U3 (c:Cr) (r0 r1:List (List LV)):List LV:=.bool true::pl c.now.p::sg c.now.lo.num::mg c.now.lo.num::sg (c.now.lo.den:Int)::mg (c.now.lo.den:Int)::sg c.now.hi.num::mg c.now.hi.num::sg (c.now.hi.den:Int)::mg (c.now.hi.den:Int)::.row (Bw c.l)::.int .i64 c.ev::[.row r0,.row r1]
structure WtOk (w:Wt):Prop where
  p:Cp w.c.p
  f:∀ t,w.fails=some t→Va t
structure CrOk (c:Cr):Prop where
  n:Va c.now
  l:∀ w∈c.l,WtOk w
  k:c.l.length≤1000
def Qzr (a b:Ct):Bool:=decide ([a.kind,a.i0,a.i1,a.i2,a.i3]=[b.kind,b.i0,b.i1,b.i2,b.i3])
def fresh (x:Ct):Wt:=⟨x,false,none⟩
def Fy:List Wt→Ct→Tm→Option Wt
  | [],x,_=>some (fresh x)
  |
   w::l,x,at_=>if Qzr w.c x=true∧w.known=true∧w.c.p=x.p then
     match w.fails with
     | none=>some ⟨x,true,none⟩
     | some t=>(O3 t at_).bind fun c=>if 0<c then some ⟨x,true,some t⟩ else Fy l x at_
   else Fy l x at_
def Cv (old:List Wt) (at_:Tm):List Ct→Option (List Wt)
  | []=>some []
  | x::l=>(Fy old x at_).bind fun w=>(Cv old at_ l).bind fun r=>some (w::r)
end Orr

namespace Orr
open Go Go.Proofs Orq
set_option maxRecDepth 10000
theorem Qla {T:Nat} {c:Cr} {r0 r1:List (List LV)} (hc:Va c.now):Xj Tryz.prog 134 [.one (.ow 0 0)] [.blk T (U3 c r0 r1)] [.agg (ta c.now)] [.blk T (U3 c r0 r1)]:=by
  have cl:=Sq (b:=c.now) (l:=[]) hc.tb (fun t ht=>by cases ht) (by decide) rfl
  refine Z7 Tryz.func134 rfl ?_
  exact ed tt [] [0] [.f rfl,.c [] cl] rfl trivial
theorem Om {T:Nat} {c:Cr} {r0 r1:List (List LV)} (hc:CrOk c):Xj Tryz.prog 37 [.one (.ow 0 0)] [.blk T (U3 c r0 r1)] [.one (.row (Zy (Z9 (c.l.map (·.c)))))] [.blk T (U3 c r0 r1)]:=by
  have hk:=hc.k
  have hw:=Uo c.l
  refine Z7 Tryz.func37 rfl ?_
  refine go tt [.o 3 161 7] rfl trivial ?_
  refine lp (S:=Nat) 2 (fun L1 i=>(11,.v (.one (.int .i64 (i:Int))))::(3,.v (.one (.orow 1 7 none)))::L1) (fun i=>[.blk T (U3 c r0 r1),.row false 161 7 (Zy ((c.l.map (·.c)).take i))]) (fun i=>c.l.length-i) (fun i=>i≤c.l.length) 0 (Nat.zero_le _) rfl (fun _ _=>rfl) rfl fun i hi=>?_
  by_cases hlt:i<c.l.length
  · obtain ⟨x,hx⟩:∃ x,c.l[i]? = some x:=⟨_,List.getElem?_eq_getElem hlt⟩
    have hm:∀ y∈[A0 x.c],y.length=7:=fun y hy=>by rw [List.mem_singleton.1 hy]; rfl
    have hg:(c.l.map (·.c)).take (i+1)=(c.l.map (·.c)).take i++[x.c]:=by
      rw [List.take_succ,List.getElem?_map,hx]; rfl
    have hl:decide ((i:Int)<((Bw c.l).length:Int))=true:=by simp [hw]; omega
    obtain ⟨xc,xk,xf⟩:=x
    cases xf <;> (refine go tt [.t hl,.x (Y8 hx),.s (sz:=7) hm] rfl (by simp [Qa,Fq]; omega) ?_; exact rd (i+1) (by omega) hlt (by rw [hg]; simp [Zy]; rfl))
  · obtain rfl:i=c.l.length:=by omega
    have e:(c.l.map (·.c)).take c.l.length=c.l.map (·.c):=List.take_of_length_le (by simp)
    rw [e]
    have cs:=Qlf (l:=c.l.map (·.c)) (fun x hx=>by
      obtain ⟨w,hw,rfl⟩:=List.mem_map.1 hx
      exact Dp.pb (hc.l w hw).p.dp) (by simp; omega)
    exact ed tt [] [0] [.f (by simp [hw]),.c [] cs] rfl trivial
theorem Q6u {T:Nat} {c:Cr} {r0 r1:List (List LV)} {x:Ct} {at_:Tm} {w:Wt} (hc:CrOk c) (hx:Cp x.p) (ha:Va at_) (h:Fy c.l x at_=some w):Xj Tryz.prog 173 [.one (.ow 0 0),.agg (A0 x),.agg (ta at_)] [.blk T (U3 c r0 r1)] [.agg (wl w)] [.blk T (U3 c r0 r1)]:=by
  have hk:=hc.k
  have hw:=Uo c.l
  refine Z7 Tryz.func173 rfl ?_
  refine go tt [] rfl trivial ?_
  refine lp (S:=Nat) 4 (fun L1 i=>(14,.v (.one (.int .i64 (i:Int))))::L1) (fun _=>[.blk T (U3 c r0 r1),.blk 161 (A0 x),.blk 67 (ta at_),.blk 164 [.int .i64 0,.int .i64 0,.int .i64 0,.int .i64 0,.int .i64 0,.nils,.int .i64 0,.bool false,.bool false,.nils,.bool false,.nils,.bool false,.nils,.bool false,.nils,.bool false,.nils]]) (fun i=>c.l.length-i) (fun i=>i≤c.l.length∧Fy (c.l.drop i) x at_=some w) 0 ⟨Nat.zero_le _,h⟩ rfl (fun _ _=>rfl) rfl fun i ⟨hi,hf⟩=>?_
  by_cases hlt:i<c.l.length
  · obtain ⟨v,hv⟩:∃ v,c.l[i]? = some v:=⟨_,List.getElem?_eq_getElem hlt⟩
    have hdr:c.l.drop i=v::c.l.drop (i+1):=by
      rw [List.drop_eq_getElem_cons hlt]; congr 1
      have:=List.getElem?_eq_getElem hlt; rw [hv] at this; injection this with this; exact this.symm
    have hvo:=hc.l v (List.mem_of_getElem? hv)
    rw [hdr] at hf
    simp only [Fy] at hf
    have hl:decide ((i:Int)<((Bw c.l).length:Int))=true:=by simp [hw]; omega
    by_cases A:Qzr v.c x=true
    · have A':(!decide ([v.c.kind,v.c.i0,v.c.i1,v.c.i2,v.c.i3]=[x.kind,x.i0,x.i1,x.i2,x.i3]))=false:=by
        unfold Qzr at A; rw [A]; rfl
      by_cases B:v.known=true
      · have B':(!v.known)=false:=by rw [B]; rfl
        have cs:=Q1u (p:=v.c.p) (q:=x.p) (Dp.pb hvo.p.dp).ln (Dp.pb hx.dp).ln (Dp.pb hvo.p.dp).bd (Dp.pb hx.dp).bd
        rw [hvo.p.t,hx.t] at cs
        by_cases C:v.c.p=x.p
        · have C':(!decide (v.c.p=x.p))=false:=by simp [C]
          rw [if_pos ⟨A,B,C⟩] at hf
          obtain ⟨vc,vk,vf⟩:=v
          cases vf with
          |
           none =>
           injection hf with hf; subst hf
           exact ed tt [] [0] [.t hl,.x (Y8 hv),.g 24 false A',.g 29 false B',.c [] cs,.f C',.g 41 true rfl,.t rfl] rfl trivial
          |
           some t =>
           obtain ⟨r,r1',hf⟩:=Option.bind_eq_some_iff.1 hf
           have cc:=Qem (hvo.f t rfl).tb ha.tb r1'
           by_cases D:0<r
           · rw [if_pos D] at hf
             injection hf with hf; subst hf
             exact ed tt [] [0] [.t hl,.x (Y8 hv),.g 24 false A',.g 29 false B',.c [] cs,.f C',.g 41 false rfl,.c [] cc,.t (by simpa using D)] rfl trivial
           · rw [if_neg D] at hf
             refine go tt [.t hl,.x (Y8 hv),.g 24 false A',.g 29 false B',.c [] cs,.f C',.g 41 false rfl,.c [] cc,.f (by simpa using D)] rfl (by simp [Qa]; omega) ?_
             exact rd (i+1) (by omega) ⟨hlt,hf⟩ rfl
        · rw [if_neg fun h=>C h.2.2] at hf
          refine go tt [.t hl,.x (Y8 hv),.g 24 false A',.g 29 false B',.c [] cs,.t (by simp [C])] rfl (by simp [Qa]; omega) ?_
          exact rd (i+1) (by omega) ⟨hlt,hf⟩ rfl
      · rw [if_neg fun h=>B h.2.1] at hf
        refine go tt [.t hl,.x (Y8 hv),.g 24 false A',.g 29 true (by simpa using B),.t rfl] rfl (by simp [Qa]; omega) ?_
        exact rd (i+1) (by omega) ⟨hlt,hf⟩ rfl
    · rw [if_neg fun h=>A h.1] at hf
      refine go tt [.t hl,.x (Y8 hv),.g 24 true (by rw [show decide ([v.c.kind,v.c.i0,v.c.i1,v.c.i2,v.c.i3]=[x.kind,x.i0,x.i1,x.i2,x.i3])=false from Bool.eq_false_iff.2 A]; rfl),.g 29 true rfl,.t rfl] rfl (by simp [Qa]; omega) ?_
      exact rd (i+1) (by omega) ⟨hlt,hf⟩ rfl
  · obtain rfl:i=c.l.length:=by omega
    rw [List.drop_length] at hf
    simp only [Fy] at hf
    injection hf with hf; subst hf
    exact ed tt [] [0] [.f (by simp [hw])] rfl trivial
end Orr

namespace Orr
open Go Go.Proofs Orq
set_option maxRecDepth 10000
theorem Cw {old:List Wt} {at_:Tm}:∀ {l:List Ct} {ws:List Wt},Cv old at_ l=some ws→ws.length=l.length∧∀ (i:Nat) (x:Ct),l[i]? = some x→∃ w,Fy old x at_=some w∧ws[i]? = some w
  | [],ws,h=>by injection h with h; subst h; exact ⟨rfl,fun i x hx=>by simp at hx⟩
  |
   y::l,ws,h=>by
   simp only [Cv] at h
   obtain ⟨w,hw,h⟩:=Option.bind_eq_some_iff.1 h
   obtain ⟨r,hr,h⟩:=Option.bind_eq_some_iff.1 h
   injection h with h; subst h
   obtain ⟨a,b⟩:=Cw hr
   refine ⟨by simp [a],fun i x hx=>?_⟩
   cases i with
   | zero=>injection hx with hx; subst hx; exact ⟨w,hw,rfl⟩
   | succ i=>exact b i x (by simpa using hx)
theorem E4 {l:List Wt} {i:Nat} {w:Wt} (h:l[i]? = some w):Bw (l.take (i+1))=Bw (l.take i)++[wl w]:=by
  rw [List.take_succ,h]; simp [Bw]
theorem Q1p {T:Nat} {c:Cr} {r0 r1:List (List LV)} {at_:Tm} {l:List Ct} {ws:List Wt} (hc:CrOk c) (ha:Va at_) (hl:∀ x∈l,Cp x.p) (hn:l.length≤1000) (h:Cv c.l at_ (Z9 l)=some ws):Xj Tryz.prog 124 [.one (.ow 0 0),.agg (ta at_),.one (.bool true),.one (.row (Zy l))] [.blk T (U3 c r0 r1)] [] [.blk T (U3 ⟨at_,ws,c.ev⟩ r0 r1)]:=by
  have cs:=Qlf (l:=l) (fun x hx=>Dp.pb (hl x hx).dp) (by omega)
  have cl:=Sq (b:=at_) (l:=[]) ha.tb (fun t ht=>by cases ht) (by decide) rfl
  obtain ⟨h1,h2⟩:=Cw h
  have hs:(Z9 l).length=l.length:=Fi l
  refine Z7 Tryz.func124 rfl ?_
  refine go tt [.o 8 164 18,.c [] cs] rfl trivial ?_
  refine lp (S:=Nat) 3 (fun L1 i=>(15,.v (.one (.int .i64 (i:Int))))::(8,.v (.one (.orow 2 18 none)))::L1) (fun i=>[.blk T (U3 c r0 r1),.blk 67 (ta at_),.row false 164 18 (Bw (ws.take i))]) (fun i=>ws.length-i) (fun i=>i≤ws.length) 0 (Nat.zero_le _) rfl (fun _ _=>rfl) rfl fun i hi=>?_
  by_cases hlt:i<ws.length
  · obtain ⟨x,hx⟩:∃ x,(Z9 l)[i]? = some x:=⟨_,List.getElem?_eq_getElem (by omega)⟩
    obtain ⟨w,hw,hw'⟩:=h2 i x hx
    have hm:∀ y∈[wl w],y.length=18:=fun y hy=>by rw [List.mem_singleton.1 hy]; rfl
    have hlt':decide ((i:Int)<((Zy (Z9 l)).length:Int))=true:=by simp [Zy]; omega
    have ck:=Q6u (T:=T) (r0:=r0) (r1:=r1) hc (hl x (Mz (List.mem_of_getElem? hx))) ha hw
    have hg:=E4 hw'
    obtain ⟨wc,wk,wf⟩:=w
    cases wf <;> (refine go tt [.t hlt',.x (Lm hx),.t rfl,.c [0] ck,.s (sz:=18) hm] rfl (by simp [Qa,Uo]; omega) ?_; exact rd (i+1) (by omega) hlt (by rw [hg]; rfl))
  · obtain rfl:i=ws.length:=by omega
    rw [List.take_length]
    have hge:decide ((ws.length:Int)<((Zy (Z9 l)).length:Int))=false:=by simp [Zy]; omega
    exact ed tt [] [0] [.f hge,.p 2,.c [] cl] rfl trivial
abbrev crz (r0 r1:LV):List LV:=[.bool false,.nils,.bool false,.nils,.bool false,.nils,.bool false,.nils,.bool false,.nils,.nils,.int .i64 0,r0,r1]
theorem Q1o {T:Nat} {r0 r1:List (List LV)} {at_:Tm} {l:List Ct} (ha:Va at_) (hl:∀ x∈l,Cp x.p) (hn:l.length≤1000):Xj Tryz.prog 124 [.one (.ow 0 0),.agg (ta at_),.one (.bool false),.one (.row (Zy l))] [.blk T (crz (.row r0) (.row r1))] [] [.blk T (U3 ⟨at_,(Z9 l).map fresh,0⟩ r0 r1)]:=by
  have cs:=Qlf (l:=l) (fun x hx=>Dp.pb (hl x hx).dp) (by omega)
  have cl:=Sq (b:=at_) (l:=[]) ha.tb (fun t ht=>by cases ht) (by decide) rfl
  have hs:(Z9 l).length=l.length:=Fi l
  refine Z7 Tryz.func124 rfl ?_
  refine go tt [.o 8 164 18,.c [] cs] rfl trivial ?_
  refine lp (S:=Nat) 3 (fun L1 i=>(15,.v (.one (.int .i64 (i:Int))))::(8,.v (.one (.orow 2 18 none)))::L1) (fun i=>[.blk T (crz (.row r0) (.row r1)),.blk 67 (ta at_),.row false 164 18 (Bw (((Z9 l).map fresh).take i))]) (fun i=>l.length-i) (fun i=>i≤l.length) 0 (Nat.zero_le _) rfl (fun _ _=>rfl) rfl fun i hi=>?_
  by_cases hlt:i<l.length
  · obtain ⟨x,hx⟩:∃ x,(Z9 l)[i]? = some x:=⟨_,List.getElem?_eq_getElem (by omega)⟩
    have hm:∀ y∈[wl (fresh x)],y.length=18:=fun y hy=>by rw [List.mem_singleton.1 hy]; rfl
    have hlt':decide ((i:Int)<((Zy (Z9 l)).length:Int))=true:=by simp [Zy]; omega
    have hg:=E4 (l:=(Z9 l).map fresh) (i:=i) (w:=fresh x) (by rw [List.getElem?_map,hx]; rfl)
    refine go tt [.t hlt',.x (Lm hx),.z 20,.f rfl,.s (sz:=18) hm] rfl (by simp [Qa,Uo]; omega) ?_
    exact rd (i+1) (by omega) hlt (by rw [hg]; rfl)
  · obtain rfl:i=l.length:=by omega
    rw [List.take_of_length_le (by simp; omega)]
    have hge:decide ((l.length:Int)<((Zy (Z9 l)).length:Int))=false:=by simp [Zy]; omega
    exact ed tt [] [0] [.f hge,.p 2,.c [] cl] rfl trivial
theorem Qrw {T:Nat} {r0 r1:List (List LV)} {at_:Tm} {l:List Ct} (ha:Va at_) (hl:∀ x∈l,Cp x.p) (hn:l.length≤1000):Xj Tryz.prog 79 [.one (.ow 0 0),.agg (ta at_),.one (.row (Zy l))] [.blk T (crz (.row r0) (.row r1))] [] [.blk T (U3 ⟨at_,(Z9 l).map fresh,0⟩ r0 r1)]:=by
  have cl:=Q1o (T:=T) (r0:=r0) (r1:=r1) ha hl hn
  refine Z7 Tryz.func79 rfl ?_
  exact ed tt [] [0] [.g 12 false rfl,.c [0] cl] rfl trivial
theorem eB {a b:Bool} (h:a=b):TV.one (LV.bool a)=.one (.bool b):=h ▸ rfl
end Orr

namespace Orr
open Go Go.Proofs Orq
set_option maxRecDepth 10000
theorem Iq:∀ {k:Nat} {g:List Int} {l:List (List Int)},Pb g→Ea k g=some l→l.length≤k∧∀ p∈l,Pb p
  | 0,_,_,_,h=>by cases h
  |
   k+1,g,l,hg,h=>by
   simp only [Ea] at h
   split at h
   · injection h with h; subst h; exact ⟨by simp,fun p hp=>by cases hp⟩
   · obtain ⟨d,hd,h⟩:=Option.bind_eq_some_iff.1 h
     obtain ⟨rfl,hdp⟩:=Qbc hd
     obtain ⟨x,hx,h⟩:=Option.bind_eq_some_iff.1 h
     obtain ⟨q,hq,h⟩:=Option.bind_eq_some_iff.1 h
     obtain ⟨r,hr,h⟩:=Option.bind_eq_some_iff.1 h
     injection h with h; subst h
     obtain ⟨i1,i2⟩:=Iq (Em hg hdp hx) hr
     refine ⟨by simp; exact i1,fun p hp=>?_⟩
     rcases List.mem_cons.1 hp with rfl | hp
     · exact Qml hq
     · exact i2 p hp
theorem Qvg {a:List Int} {l:List (List Int)} (ha:Pb a) (h:Ea 66 (Qn a)=some l):Qd Tryz.prog 334 [pr a] [.one (.row (Yp l))]:=by
  have hp:=X1 ha
  refine Z7 Tryz.func334 rfl ?_
  refine go tt [.o 3 26 1,.c [] (Gs ha)] rfl trivial ?_
  refine lp (S:=Nat×List (List Int)×List Int) 1 (fun L1 s=>(4,.v (pr s.2.2))::(3,.v (.one (.orow 0 1 none)))::L1) (fun s=>[.row false 26 1 (Yp s.2.1)]) (fun s=>s.1) (fun s=>Pb s.2.2∧s.2.1.length+s.1≤66∧∃ m,Ea s.1 s.2.2=some m∧s.2.1++m=l) (66,[],Qn a) ⟨hp,Nat.le_refl _,l,h,rfl⟩ rfl (fun _ _=>rfl) rfl fun ⟨k,out,g⟩ ⟨j1,j2,m,j3,j4⟩=>?_
  dsimp only at j1 j2 j3 j4 ⊢
  cases k with
  | zero=>cases j3
  |
   succ k =>
   simp only [Ea] at j3
   split at j3
   · rename_i h0
     injection j3 with j3; subst j3
     rw [List.append_nil] at j4
     subst j4
     exact en tt [.c [] (V9 _),.f (by simp; omega)] rfl rfl trivial
   · rename_i h0
     obtain ⟨d,hd,j3⟩:=Option.bind_eq_some_iff.1 j3
     obtain ⟨rfl,hdp⟩:=Qbc hd
     obtain ⟨x,hx,j3⟩:=Option.bind_eq_some_iff.1 j3
     obtain ⟨q,hq,j3⟩:=Option.bind_eq_some_iff.1 j3
     obtain ⟨r,hr,j3⟩:=Option.bind_eq_some_iff.1 j3
     injection j3 with j3; subst j3
     have hxp:=Em j1 hdp hx
     refine go tt [.c [] (V9 _),.t (by simp; omega),.c [] (Ho j1.ln j1.bd),.c [] (Qoo j1 hdp hx),.c [] (Qvq j1 hxp hq),.s (sz:=1) (l:=[[pl q]]) (fun c hc=>by rw [List.mem_singleton.1 hc]; rfl)] rfl (by simp [Qa,Fg]; omega) ?_
     exact rd (k,out++[q],x) (by dsimp only; omega) ⟨hxp,by simp; omega,r,hr,by rw [←j4]; simp⟩ (by rw [Qbf]; rfl)
theorem Qaj:∀ {l r:List (List Int)},Qb5 l=some r→r.length=l.length∧∀ i w,l[i]? = some w→match l[i+1]? with
    | some v=>∃ f,Pv w v=some f∧r[i]? = some f
    | none=>r[i]? = some w
  | [],r,h=>by injection h with h; subst h; exact ⟨rfl,fun i w hw=>by simp at hw⟩
  |
   [w],r,h=>by
   injection h with h; subst h
   refine ⟨rfl,fun i x hx=>?_⟩
   cases i with
   | zero=>simpa using hx
   | succ i=>simp at hx
  |
   w::v::l,r,h=>by
   simp only [Qb5] at h
   obtain ⟨f,hf,h⟩:=Option.bind_eq_some_iff.1 h
   obtain ⟨s,hs,h⟩:=Option.bind_eq_some_iff.1 h
   injection h with h; subst h
   obtain ⟨i1,i2⟩:=Qaj hs
   refine ⟨by simp [i1],fun i x hx=>?_⟩
   cases i with
   |
    zero =>
    injection hx with hx; subst hx
    exact ⟨f,hf,rfl⟩
   |
    succ i =>
    have:=i2 i x (by simpa using hx)
    simpa using this
theorem Qfc:∀ {l r:List (List Int)},(∀ p∈l,Pb p)→Qb5 l=some r→∀ p∈r,Pb p
  | [],r,_,h=>by injection h with h; subst h; exact fun p hp=>by cases hp
  | [w],r,hl,h=>by injection h with h; subst h; exact hl
  |
   w::v::l,r,hl,h=>by
   simp only [Qb5] at h
   obtain ⟨f,hf,h⟩:=Option.bind_eq_some_iff.1 h
   obtain ⟨s,hs,h⟩:=Option.bind_eq_some_iff.1 h
   injection h with h; subst h
   intro p hp
   rcases List.mem_cons.1 hp with rfl | hp
   · exact Qml hf
   · exact Qfc (fun p hp=>hl p (List.mem_cons_of_mem _ hp)) hs p hp
theorem Qru {a:List Int} {l r:List (List Int)} (ha:Pb a) (h:Ea 66 (Qn a)=some l) (hr:Qb5 l=some r):Qd Tryz.prog 322 [pr a] [.one (.row (Yp r))]:=by
  obtain ⟨i1,i2⟩:=Iq (X1 ha) h
  obtain ⟨j1,j2⟩:=Qaj hr
  have hw:=Fg l
  refine Z7 Tryz.func322 rfl ?_
  refine go tt [.c [] (Qvg ha h),.i (Yp l).length,.i (Yp l).length] rfl (by simp [Qa,hw]; omega) ?_
  rw [hw,Fv fun i=>[pl (r.getD i [])]]
  refine lp (S:=Nat) 1 (fun L1 k=>(14,.v (.one (.int .i64 (k:Int))))::L1) (fun k=>[.row false 26 1 (fil (fun i=>[pl (r.getD i [])]) [.nils] l.length k)]) (fun k=>l.length-k) (fun k=>k≤l.length) 0 (Nat.zero_le _) rfl (fun _ _=>rfl) rfl fun k hk=>?_
  by_cases hlt:k<l.length
  · obtain ⟨w,hx⟩:∃ w,l[k]? = some w:=⟨_,List.getElem?_eq_getElem hlt⟩
    have e:=Tg (fun i=>[pl (r.getD i [])]) [.nils] hlt
    have hg:=j2 k w hx
    by_cases h2:k+1<l.length
    · obtain ⟨v,hv⟩:∃ v,l[k+1]? = some v:=⟨_,List.getElem?_eq_getElem h2⟩
      rw [hv] at hg
      obtain ⟨f,f1,f2⟩:=hg
      have e2:r.getD k []=f:=by rw [List.getD_eq_getElem?_getD,f2]; rfl
      rw [e2] at e
      refine go tt [.t (by simp [hw]; omega),.x (Ji hx),.i k,.t (by simp [hw]; omega),.x (i:=k+1) (Ji hv),.c [] (Qvq (i2 w (List.mem_of_getElem? hx)) (i2 v (List.mem_of_getElem? hv)) f1),.i k] rfl (by simp [Qa,Gz,hw]; omega) ?_
      rw [List.set_set,e]
      exact rd (k+1) (by omega) hlt rfl
    · have hv:l[k+1]? = none:=List.getElem?_eq_none (by omega)
      rw [hv] at hg
      have e2:r.getD k []=w:=by rw [List.getD_eq_getElem?_getD,hg]; rfl
      rw [e2] at e
      refine go tt [.t (by simp [hw]; omega),.x (Ji hx),.i k,.f (by simp [hw]; omega)] rfl (by simp [Qa,Gz,hw]; omega) ?_
      rw [e]
      exact rd (k+1) (by omega) hlt rfl
  · obtain rfl:k=l.length:=by omega
    have e:fil (fun i=>[pl (r.getD i [])]) [.nils] l.length l.length=Yp r:=by
      rw [Tf,←j1]
      refine List.ext_getElem? fun i=>?_
      simp only [Yp,List.getElem?_map]
      by_cases hi:i<r.length
      · rw [List.getElem?_range hi]; simp [List.getD_eq_getElem?_getD,List.getElem?_eq_getElem hi]
      · rw [List.getElem?_eq_none (by simpa using hi),List.getElem?_eq_none (by simpa using hi)]; rfl
    rw [e]
    exact en tt [.f (by simp [hw])] rfl rfl trivial
theorem Qms {p:List Int} (tp:Qj p):Qn (Qn p)=Qn p:=by
  by_cases h:p.length=0
  · have e:Qn p=[]:=by unfold Qn; rw [if_pos h]
    rw [e]; rfl
  · obtain ⟨h1,h2,h3,h4,_⟩:=K0 tp h
    have hc:J8 (Qn p)=1:=by
      have h5:J8 (Qn p)∣1:=h3 _ fun k=>by
        by_cases hk:k<(Qn p).length
        · rw [List.getD_eq_getElem?_getD,List.getElem?_eq_getElem hk]; exact Ff _ (List.getElem_mem hk)
        · rw [List.getD_eq_getElem?_getD,List.getElem?_eq_none (by omega)]; exact Int.dvd_zero _
      have h6:0≤J8 (Qn p):=by unfold J8; omega
      exact Int.eq_one_of_dvd_one h6 h5
    have hf:∀ q:List Int,0<Qr q→Z4 q=J8 q:=fun q hq=>by unfold Z4; rw [if_neg (by omega)]
    have hf:=(hf _ h4).trans hc
    have e0:∀ q:List Int,q.length≠0→Qn q=Wl q (Z4 q):=fun q hq=>by unfold Qn; rw [if_neg hq]
    have e:=e0 (Qn p) (by omega)
    rw [hf] at e
    rw [e]
    unfold Wl
    have e2:(Qn p).map (· / (1:Int))=Qn p:=by
      conv=>rhs; rw [←List.map_id (Qn p)]
      exact List.map_congr_left fun z _=>by simp
    rw [e2]
    exact h1
theorem Qrc (i:Nat):(i:Int).tmod 2=((i % 2:Nat):Int):=rfl
theorem Q6z {a:List Int} (ha:Pb a) (h:(Qn a).length=0):Qd Tryz.prog 304 [pr a] [pr []] :=
  w tt Tryz.func304 rfl [.c [] (Gs ha),.t (by simp [List.eq_nil_of_length_eq_zero h])] rfl rfl trivial
theorem Mr:∀ {l:List (List Int)} {i:Nat} {p o:List Int},Pb p→(∀ f∈l,Pb f)→Da i p l=some o→Pb o
  | [],i,p,o,hp,_,h=>by simp only [Da] at h; injection h with h; subst h; exact hp
  |
   f::l,i,p,o,hp,hl,h=>by
   simp only [Da] at h
   split at h
   · obtain ⟨q,hq,h⟩:=Option.bind_eq_some_iff.1 h
     obtain ⟨rfl,hq'⟩:=Rz (Z2 _ _) hq
     exact Mr hq' (fun f hf=>hl f (List.mem_cons_of_mem _ hf)) h
   · exact Mr hp (fun f hf=>hl f (List.mem_cons_of_mem _ hf)) h
theorem Qyi:Pb [1]:=⟨rfl,by decide,fun z hz=>by rw [List.mem_singleton.1 hz]; decide⟩
theorem Q9x {a o:List Int} (ha:Pb a) (h:Qmp a=some o):Qd Tryz.prog 304 [pr a] [pr o]:=by
  unfold Qmp at h
  split at h
  · rename_i h0
    injection h with h; subst h
    exact Q6z ha h0
  rename_i h0
  obtain ⟨l,hl,h⟩:=Option.bind_eq_some_iff.1 h
  obtain ⟨fs,hf,h⟩:=Option.bind_eq_some_iff.1 h
  have hpa:=X1 ha
  have hl':Ea 66 (Qn (Qn a))=some l:=by rw [Qms ha.t]; exact hl
  obtain ⟨i1,i2⟩:=Iq (X1 ha) hl
  have i3:=Qfc i2 hf
  obtain ⟨j1,_⟩:=Qaj hf
  have hw:=Fg fs
  have co:=Qux (p:=[1]) (by decide) (fun z hz=>by rw [List.mem_singleton.1 hz]; decide)
  rw [show trim [1]=[1] from rfl] at co
  refine Z7 Tryz.func304 rfl ?_
  refine go tt [.c [] (Gs ha),.f (by simpa using h0),.c [] co,.c [] (Qru hpa hl' hf)] rfl (by simp [Qa]) ?_
  refine lp (S:=Nat×List Int) 0 (fun L1 s=>(16,.v (.one (.int .i64 (s.1:Int))))::(3,.v (pr s.2))::L1) (fun _=>[]) (fun s=>fs.length-s.1) (fun s=>s.1≤fs.length∧Pb s.2∧Da s.1 s.2 (fs.drop s.1)=some o) (0,[1]) ⟨Nat.zero_le _,Qyi,h⟩ rfl (fun _ _=>rfl) rfl fun ⟨i,p⟩ ⟨k1,k2,k3⟩=>?_
  dsimp only at k1 k2 k3 ⊢
  by_cases hlt:i<fs.length
  · obtain ⟨f,hx⟩:∃ w,fs[i]? = some w:=⟨_,List.getElem?_eq_getElem hlt⟩
    have hdr:fs.drop i=f::fs.drop (i+1):=by
      rw [List.drop_eq_getElem_cons hlt]; congr 1
      have:=List.getElem?_eq_getElem hlt; rw [hx] at this; injection this with this; exact this.symm
    rw [hdr] at k3
    simp only [Da] at k3
    have pf:=i3 f (List.mem_of_getElem? hx)
    by_cases h2:i % 2=0
    · rw [if_pos h2] at k3
      obtain ⟨q,hq,k3⟩:=Option.bind_eq_some_iff.1 k3
      obtain ⟨rfl,hq'⟩:=Rz (Z2 _ _) hq
      refine go tt [.t (by simp [hw]; omega),.x (Ji hx),.t (by rw [Qrc,h2]; rfl),.c [] (Qlc k2.t pf.t (Nat.lt_of_le_of_lt k2.l (by decide)) (Nat.lt_of_le_of_lt pf.l (by decide)) k2.b pf.b (by decide))] rfl (by simp [Qa]; omega) ?_
      exact rd (i+1,Zh p f) (by dsimp only; omega) ⟨hlt,hq',k3⟩ rfl
    · rw [if_neg h2] at k3
      refine go tt [.t (by simp [hw]; omega),.x (Ji hx),.f (by rw [Qrc,show i % 2=1 by omega]; rfl)] rfl (by simp [Qa]; omega) ?_
      exact rd (i+1,p) (by dsimp only; omega) ⟨hlt,k2,k3⟩ rfl
  · obtain rfl:i=fs.length:=by omega
    rw [List.drop_length] at k3
    simp only [Da] at k3
    injection k3 with k3; subst k3
    exact en tt [.f (by simp [hw])] rfl rfl trivial
end Orr

namespace Orr
open Go Go.Proofs Orq
set_option maxRecDepth 10000
theorem Tj (z:Int):Ql (z.natAbs:Int)=Ql z:=by unfold Ql; simp
theorem Qu9 {x y:LV} {z:Int} (hi:X2 x y z) (hs:Ql z≤4294967295):Qd Tryz.prog 330 [.agg [x,y]] [.agg (Zx (z.natAbs:Int))]:=by
  obtain ⟨b,l,rfl,rfl,hl,rfl⟩:=hi
  have e:(Qi false (val l))=((Qi b (val l)).natAbs:Int):=by rw [Xy]; rfl
  rw [←e]
  exact w tt Tryz.func330 rfl [.c [] (No hl (Nat.le_trans (Yk hs) (by decide))),.c [] (Yn _ _)] rfl rfl trivial
theorem Q2c {n d:Int} (h0:d≠0) (hn:Ql n≤4294967295) (hd:Ql d≤4294967295):Qd Tryz.prog 331 [.agg (Zx n),.agg (Zx d)] [.agg (rl (Rat.divInt n d)),.one (.int .i64 0)] :=
  w tt Tryz.func331 rfl [.c [] (U0 (Qe d) hd),.c [] G9,.f (by simpa using h0),.c [] (U0 (Qe n) hn),.c [] (Sr h0 hn hd)] rfl rfl trivial
theorem Qs0 (l:List Int) (z:Int):most (l++[z])=if most l<z.natAbs then z.natAbs else most l:=by unfold most; rw [List.foldl_append]; rfl
theorem Qp5 {s:Nat}:∀ {l:List Int},Bd s l→Ql (most l:Int)≤s:=fun {l}=>by
  suffices h:∀ (l:List Int) (m:Nat),Bd s l→Ql (m:Int)≤s→Ql ((l.foldl (fun m z=>if m<z.natAbs then z.natAbs else m) m:Nat):Int)≤s from fun hb=>h l 0 hb (by simp [Ql,sz])
  intro l
  induction l with
  | nil=>exact fun m _ h=>h
  |
   cons z l ih =>
   intro m hb hm
   refine ih _ (fun y hy=>hb y (List.mem_cons_of_mem _ hy)) ?_
   show Ql ((if m<z.natAbs then z.natAbs else m:Nat):Int)≤s
   split
   · rw [Tj]; exact hb z (List.mem_cons_self ..)
   · exact hm
def ozi:Option Nat→List LV
  | none=>[.bool false,.nils]
  | some m=>Zx (m:Int)
def ozr:Option Nat→List LV
  | none=>[.bool false,.row []]
  | some m=>Zx (m:Int)
theorem Q1k {p:List Int} (hp:Pb p) (h0:p.length≠0):Qd Tryz.prog 319 [pr p] [.agg (rl (Zw p)),.one (.int .i64 0)]:=by
  have hl:=hp.l
  have hll:(p.take (p.length-1)).length=p.length-1:=by simp
  have hbt:Bd 16777216 (p.take (p.length-1)):=fun z hz=>hp.b z (List.mem_of_mem_take hz)
  refine Z7 Tryz.func319 rfl ?_
  refine go tt [.c [] (Xz hp.t hp.ln hp.bd),.f (by simpa using h0),.r 18 (eI (b:=((p.length-1:Nat):Int)) (by simp; omega)),.i (p.length-1)] rfl (by simp [Qa]; omega) ?_
  rw [←List.map_take]
  refine lp (S:=Nat×Option Nat) 2 (fun L1 s=>(21,.v (.one (.int .i64 (s.1:Int))))::L1) (fun s=>[.blk 41 [.bool false,.nils,.bool false,.nils],.blk 29 (ozi s.2)]) (fun s=>p.length-1-s.1) (fun s=>s.1≤p.length-1∧most ((p.take (p.length-1)).take s.1)=s.2.getD 0) (0,none) ⟨Nat.zero_le _,rfl⟩ rfl (fun _ _=>rfl) rfl fun ⟨i,o⟩ ⟨j1,j2⟩=>?_
  dsimp only at j1 j2 ⊢
  by_cases hlt:i<p.length-1
  · obtain ⟨z,hz⟩:∃ w,(p.take (p.length-1))[i]? = some w:=⟨_,List.getElem?_eq_getElem (by omega)⟩
    have bz:Ql z≤16777216:=hbt z (List.mem_of_getElem? hz)
    have hst:most ((p.take (p.length-1)).take (i+1))=if o.getD 0<z.natAbs then z.natAbs else o.getD 0:=by
      rw [List.take_succ,hz]; show most (_++[z])=_; rw [Qs0,j2]
    have ca:=Qu9 (Qe z) (Nat.le_trans bz (by decide))
    have hl1:decide ((i:Int)<(((p.take (p.length-1)).map Zx).length:Int))=true:=by simp; omega
    have bm:Ql ((o.getD 0:Nat):Int)≤16777216:=by rw [←j2]; exact Qp5 fun y hy=>hbt y (List.mem_of_mem_take hy)
    have hcm:Kl (z.natAbs:Int) ((o.getD 0:Nat):Int)>0↔o.getD 0<z.natAbs:=by unfold Kl; split <;> (try split) <;> omega
    have cc:Qd Tryz.prog 199 [.agg (Zx (z.natAbs:Int)),.agg (ozr o)] [.one (.int .i64 (Kl (z.natAbs:Int) ((o.getD 0:Nat):Int)))]:=by
      cases o with
      | none=>exact Ot (Qe _) Ws (by rw [Tj]; omega) (by decide)
      | some m=>exact Ot (Qe _) (Qe _) (by rw [Tj]; omega) (Nat.le_trans bm (by decide))
    by_cases hc:o.getD 0<z.natAbs
    · rw [if_pos hc] at hst
      have hd:decide (Kl (z.natAbs:Int) ((o.getD 0:Nat):Int)>0)=true:=by simpa using hcm.2 hc
      cases o <;> (refine go tt [.t hl1,.x (Xf (f:=Zx) hz),.c [] ca,.c [] cc,.t hd] rfl (by simp [Qa]; omega) ?_; exact rd (i+1,some z.natAbs) (by dsimp only; omega) ⟨hlt,hst⟩ rfl)
    · rw [if_neg hc] at hst
      have hd:decide (Kl (z.natAbs:Int) ((o.getD 0:Nat):Int)>0)=false:=by
        have:=mt hcm.1 hc; simpa using this
      cases o with
      | none=>refine go tt [.t hl1,.x (Xf (f:=Zx) hz),.c [] ca,.c [] cc,.f hd] rfl (by simp [Qa]; omega) ?_; exact rd (i+1,none) (by dsimp only; omega) ⟨hlt,hst⟩ rfl
      | some m=>refine go tt [.t hl1,.x (Xf (f:=Zx) hz),.c [] ca,.c [] cc,.f hd] rfl (by simp [Qa]; omega) ?_; exact rd (i+1,some m) (by dsimp only; omega) ⟨hlt,hst⟩ rfl
  · obtain rfl:i=p.length-1:=by omega
    rw [List.take_of_length_le (by omega)] at j2
    have bl:Ql (Qr p)≤16777216:=hp.b _ (Qa5 h0)
    have ln:((Qr p).natAbs:Int)≠0:=by have:=U6 hp.t h0; omega
    have cl:=W4 hp.t hp.ln hp.bd
    have ca:=Qu9 (Qe (Qr p)) (Nat.le_trans bl (by decide))
    have bm:Ql ((o.getD 0:Nat):Int)≤16777216:=by rw [←j2]; exact Qp5 hbt
    have cd:Qd Tryz.prog 111 [.agg (Zx ((Qr p).natAbs:Int)),.agg (ozr o)] [.agg (Zx (((Qr p).natAbs:Int)+(most (p.take (p.length-1)):Int)))]:=by
      rw [j2]
      cases o with
      | none=>exact Nq (Qe _) Ws (by rw [Tj]; omega) (by decide)
      | some m=>exact Nq (Qe _) (Qe _) (by rw [Tj]; omega) (Nat.le_trans bm (by decide))
    have cm:=Q2c (n:=((Qr p).natAbs:Int)+(most (p.take (p.length-1)):Int)) ln (Nat.le_trans (Ml _ _) (by rw [Tj,j2]; omega)) (by rw [Tj]; omega)
    have hf:decide (((p.length-1:Nat):Int)<(((p.take (p.length-1)).map Zx).length:Int))=false:=by simp
    cases o <;> exact en tt [.f hf,.c [] cl,.c [] ca,.c [] cd,.c [] cm] rfl rfl trivial
end Orr

namespace Orr
open Go Go.Proofs Orq
set_option maxRecDepth 10000
theorem Q5g {z:Int}:Qd Tryz.prog 350 [.agg (Zx z)] [.one (.int .i64 (Int.sign z))]:=by
  by_cases h0:z=0
  · subst h0
    exact w tt Tryz.func350 rfl [.t (by simp [Qf,Zq])] rfl rfl trivial
  · have hl:(Q4 z.natAbs).length≠0:=fun h=>h0 (Qsy.1 h)
    have hl':decide (((lm (Q4 z.natAbs)).length:Int)=0)=false:=by simpa [Qf] using hl
    by_cases h1:z<0
    · rw [Int.sign_eq_neg_one_of_neg h1]
      exact w tt Tryz.func350 rfl [.f hl',.t (by simpa using h1)] rfl rfl trivial
    · rw [Int.sign_eq_one_of_pos (by omega)]
      exact w tt Tryz.func350 rfl [.f hl',.f (by simpa using h1)] rfl rfl trivial
theorem Quj {p:List Int} (hp:Pb p):Qd Tryz.prog 342 [pr p] [.one (.int .i64 (Se p)),.one (.int .i64 (Ci p))]:=by
  have hb:-1≤(Qr p).sign∧(Qr p).sign≤1:=by rcases Gi (Qr p) with h | h | h <;> omega
  by_cases h:p.length % 2=0
  · have e:Se p=-(Qr p).sign:=by unfold Se; rw [if_pos h]
    rw [e]
    exact w tt Tryz.func342 rfl [.c [] (Xz hp.t hp.ln hp.bd),.c [] (W4 hp.t hp.ln hp.bd),.c [] Q5g,.t (by rw [Qrc]; simp [h])] rfl rfl (by simp [Qa,Qr] at hb ⊢; omega)
  · have e:Se p=(Qr p).sign:=by unfold Se; rw [if_neg h]
    rw [e]
    exact w tt Tryz.func342 rfl [.c [] (Xz hp.t hp.ln hp.bd),.c [] (W4 hp.t hp.ln hp.bd),.c [] Q5g,.f (by rw [Qrc]; simp; omega)] rfl rfl (by simp [Qa])
theorem Qvi {p:List Int} (hp:Pb p):Qd Tryz.prog 341 [pr p] [.one (.int .i64 (Se p))]:=w tt Tryz.func341 rfl [.c [] (Quj hp)] rfl rfl trivial
theorem Q18 {p:List Int} (hp:Pb p):Qd Tryz.prog 343 [pr p] [.one (.int .i64 (Ci p))]:=w tt Tryz.func343 rfl [.c [] (Quj hp)] rfl rfl trivial
theorem Q69 {q:Rat} (hq:Qs 4294967295 q):Qd Tryz.prog 156 [.agg (rl q)] [.agg (rl (-q))]:=by
  exact w tt Tryz.func156 rfl [.c [] (Oz hq),.c [] (On (Qe _) hq.1)] rfl rfl trivial
theorem Qhz {l:List (List Int)} {fid:Nat} {sg:List Int→Int} (hl:l.length≤1000) (hs:∀ p,-1≤sg p∧sg p≤1) (h:∀ p∈l,Qd Tryz.prog fid [pr p] [.one (.int .i64 (sg p))]):Qd Tryz.prog 300 [.one (.sh [.row (Yp l)]),.one (.fn fid [] [])] [.one (.int .i64 (Kj sg l:Nat))]:=by
  have hpl:=Fg l
  refine Z7 Tryz.func300 rfl ?_
  refine go tt [] rfl trivial ?_
  refine lp (S:=Nat) 0 (fun L1 i=>(15,.v (.one (.int .i64 (i:Int))))::(5,.v (.one (.int .i64 ((Nf sg l i).1:Int))))::(6,.v (.one (.int .i64 (Nf sg l i).2)))::L1) (fun _=>[]) (fun i=>l.length-i) (fun i=>i≤l.length) 0 (Nat.zero_le _) rfl (fun _ _=>rfl) rfl fun i hi=>?_
  by_cases hlt:i<l.length
  · obtain ⟨p,hp⟩:∃ p,l[i]? = some p:=⟨_,List.getElem?_eq_getElem hlt⟩
    have hst:Nf sg l (i+1)=Yh sg (Nf sg l i) p:=Uq _ _ _ hp
    obtain ⟨b1,b2,b3⟩:=Qgz hs l i
    have b4:=hs p
    by_cases h0:sg p=0
    · refine go tt [.t (by simp [hpl]; omega),.x (Ji hp),.c [] (h p (List.mem_of_getElem? hp)),.t (by simpa using h0)] rfl (by simp [Qa]; omega) ?_
      exact rd (i+1) (by omega) hlt (by rw [hst,show Yh sg (Nf sg l i) p=Nf sg l i from by unfold Yh; rw [if_pos h0]]; rfl)
    · by_cases h1:(Nf sg l i).2=-(sg p)
      · refine go tt [.t (by simp [hpl]; omega),.x (Ji hp),.c [] (h p (List.mem_of_getElem? hp)),.f (by simpa using h0),.t (by simpa using h1)] rfl (by simp [Qa]; omega) ?_
        exact rd (i+1) (by omega) hlt (by rw [hst,show Yh sg (Nf sg l i) p=((Nf sg l i).1+1,sg p) from by unfold Yh; rw [if_neg h0,if_pos h1]]; rfl)
      · refine go tt [.t (by simp [hpl]; omega),.x (Ji hp),.c [] (h p (List.mem_of_getElem? hp)),.f (by simpa using h0),.f (by simpa using h1)] rfl (by simp [Qa]; omega) ?_
        exact rd (i+1) (by omega) hlt (by rw [hst,show Yh sg (Nf sg l i) p=((Nf sg l i).1,sg p) from by unfold Yh; rw [if_neg h0,if_neg h1]]; rfl)
  · obtain rfl:i=l.length:=by omega
    refine en tt [.f (by simp [hpl])] rfl ?_ trivial
    unfold Nf Kj; rw [List.take_length]
theorem Lq (p:List Int):(-1≤Se p∧Se p≤1)∧-1≤Ci p∧Ci p≤1:=by
  have hb:-1≤(Qr p).sign∧(Qr p).sign≤1:=by rcases Gi (Qr p) with h | h | h <;> omega
  unfold Se Ci
  split <;> omega
theorem Q1l {l:List (List Int)} (hl:l.length≤1000) (hp:∀ p∈l,Pb p):Qd Tryz.prog 321 [.one (.sh [.row (Yp l)])] [.one (.int .i64 (Pz l))]:=by
  have c1:Qd Tryz.prog 332 [.one (.sh [.row (Yp l)])] [.one (.int .i64 (Kj Se l:Nat))] :=
    w tt Tryz.func332 rfl [.c [] (Qhz hl (fun p=>(Lq p).1) fun p h=>Qvi (hp p h))] rfl rfl trivial
  have c2:Qd Tryz.prog 333 [.one (.sh [.row (Yp l)])] [.one (.int .i64 (Kj Ci l:Nat))] :=
    w tt Tryz.func333 rfl [.c [] (Qhz hl (fun p=>(Lq p).2) fun p h=>Q18 (hp p h))] rfl rfl trivial
  have b1:Kj Se l≤l.length:=Un (fun p=>(Lq p).1) l
  have b2:Kj Ci l≤l.length:=Un (fun p=>(Lq p).2) l
  exact w tt Tryz.func321 rfl [.c [] c1,.c [] c2] rfl rfl (by simp [Qa]; omega)
theorem Qk2 {l:List (List Int)} {lo hi:Rat} (hl:l.length≤1000):-1000≤Jc l lo hi∧Jc l lo hi≤1000:=by
  have b1:Wc l lo≤l.length:=Un (fun p=>Rh p lo) l
  have b2:Wc l hi≤l.length:=Un (fun p=>Rh p hi) l
  unfold Jc; split <;> omega
end Orr

namespace Orr
open Go Go.Proofs Orq
set_option maxRecDepth 10000
abbrev tal (l:List Tm):List (List LV):=l.map fun t=>ta t
theorem I1 {p:List Int} {c:List (List Int)} (hp:Pb p):∀ {k:Nat} {lo hi:Rat} {n:Int} {r:List Tm},Qb lo→Qb hi→Gf p c k lo hi n=some r→∀ t∈r,Tb t
  | 0,_,_,_,_,_,_,h=>by cases h
  |
   k+1,lo,hi,n,r,hl,hh,h=>by
   simp only [Gf] at h
   split at h
   · injection h with h; subst h; exact fun t ht=>by cases ht
   · split at h
     · injection h with h; subst h
       intro t ht; rw [List.mem_singleton.1 ht]; exact ⟨hp,hl,hh⟩
     · obtain ⟨m,hm,h⟩:=Option.bind_eq_some_iff.1 h
       obtain ⟨rfl,qm⟩:=O1 hm
       obtain ⟨x,hx,h⟩:=Option.bind_eq_some_iff.1 h
       obtain ⟨y,hy,h⟩:=Option.bind_eq_some_iff.1 h
       injection h with h; subst h
       intro t ht
       rcases List.mem_append.1 ht with ht | ht
       · exact I1 hp hl qm hx t ht
       · exact I1 hp qm hh hy t ht
theorem Q82 (l:List Tm):∀ c∈tal l,c.length=9:=fun c hc=>by obtain ⟨t,_,rfl⟩:=List.mem_map.1 hc; rfl
theorem Qlp {p:List Int} {c:List (List Int)} (hp:Pb p) (hcl:c.length≤1000) (hc:∀ q∈c,Pb q):∀ {k:Nat} {lo hi:Rat} {n:Int} {r:List Tm},Qb lo→Qb hi→k≤100000→-(1000*(100001-k:Nat))≤n∧n≤1000*(100001-k:Nat)→Gf p c k lo hi n=some r→r.length≤1000000→Xj Tryz.prog 320 [pr p,.one (.sh [.row (Yp c)]),.agg (rl lo),.agg (rl hi),.one (.int .i64 n)] [] [.one (.orow 0 9 none)] [.row false 67 9 (tal r)]
  | 0,_,_,_,_,_,_,_,_,h,_=>by cases h
  |
   k+1,lo,hi,n,r,hl,hh,hk,hn,h,hr=>by
   simp only [Gf] at h
   split at h
   · rename_i h0
     injection h with h; subst h
     refine Z7 Tryz.func320 rfl ?_
     exact ed tt [] [2] [.t (by simpa using h0),.o 10 67 9] rfl trivial
   · rename_i h0
     split at h
     · rename_i h1
       injection h with h; subst h
       refine Z7 Tryz.func320 rfl ?_
       exact ed tt [] [2] [.f (by simpa using h0),.t (by simpa using h1),.c [] (Xz hp.t hp.ln hp.bd),.c [] (Gt hl.s32),.c [] (Gt hh.s32),.lo] rfl trivial
     · rename_i h1
       obtain ⟨m,hm,h⟩:=Option.bind_eq_some_iff.1 h
       obtain ⟨rfl,qm⟩:=O1 hm
       obtain ⟨x,hx,h⟩:=Option.bind_eq_some_iff.1 h
       obtain ⟨y,hy,h⟩:=Option.bind_eq_some_iff.1 h
       injection h with h; subst h
       have hb:=Qk2 (l:=c) (lo:=lo) (hi:=mid lo hi) hcl
       rw [List.length_append] at hr
       have c1:=Qlp hp hcl hc hl qm (by omega) (by omega) hx (by omega)
       have c2:=Qlp hp hcl hc qm hh (by omega) (by omega) hy (by omega)
       rw [show tal (x++y)=tal x++tal y from List.map_append]
       refine Z7 Tryz.func320 rfl ?_
       exact ed tt [] [3] [.f (by simpa using h0),.f (by simpa using h1),.c [] (Q5f hl hh),.c [] (Qce hcl hc hl qm),.c [3] c1,.c [4] c2,.s (Q82 y)] rfl (by simp [Qa]; omega)
theorem Q1x {p:List Int} {r:List Tm} (hp:Pb p) (h:Qbn p=some r) (hr:r.length≤1000000):Qd Tryz.prog 303 [pr p] [.one (tas r),.one (.int .i64 0)]:=by
  unfold Qbn at h
  obtain ⟨c,h1,h⟩:=Option.bind_eq_some_iff.1 h
  obtain ⟨q,h2,h⟩:=Option.bind_eq_some_iff.1 h
  obtain ⟨b,h3,h⟩:=Option.bind_eq_some_iff.1 h
  obtain ⟨rfl,hb⟩:=O1 h3
  obtain ⟨k1,k2⟩:=chain_ok hp h1
  have hq:=El hp h2
  have q0:q.length≠0:=by
    unfold Hq at h1
    obtain ⟨a,a1,h1⟩:=Option.bind_eq_some_iff.1 h1
    rw [h2] at a1; injection a1 with a1; subst a1
    split at h1
    · cases h1
    · assumption
  have qn:Qb (-Zw q):=⟨by rw [Rat.neg_num,Z8]; exact hb.1,by rw [Rat.neg_den]; exact hb.2⟩
  have bb1:Kj Se c≤c.length:=Un (fun p=>(Lq p).1) c
  have bb2:Kj Ci c≤c.length:=Un (fun p=>(Lq p).2) c
  have hn:-(1000*(100001-100000:Nat):Int)≤Pz c∧Pz c≤1000*(100001-100000:Nat):=by unfold Pz; omega
  have cr:=Qlp hq (by omega) k2 qn hb (Nat.le_refl _) hn h hr
  refine Z7 Tryz.func303 rfl ?_
  exact ed tt [1] [] [.c [] (Qu2 hp h1),.f rfl,.c [] (Oq hp h2),.c [] (Q1k hq q0),.c [] (Q69 hb.s32),.c [] (Q1l (by omega) k2),.c [1] cr] rfl trivial
end Orr

namespace Orr
open Go Go.Proofs Orq
set_option maxRecDepth 10000
def Q0 (l:List Pt):List (List LV):=l.map Z6
theorem Ut {l:List Pt} {i:Nat} {c:Pt} (h:l[i]? = some c):(Q0 l)[i]? = some (Z6 c):=Xf h
theorem Ww (l:List Pt):(Q0 l).length=l.length:=by simp [Q0]
theorem Qq0 (l:List Pt):∀ c∈Q0 l,c.length=5:=fun c hc=>by
  obtain ⟨x,_,rfl⟩:=List.mem_map.1 hc; rfl
end Orr

namespace Orr
open Go Go.Proofs Orq
set_option maxRecDepth 10000
theorem Q1y:Qd Tryz.prog 230 [pr []] [.one .nilp,.one (.int .i64 2)]:=by
  have h:Vh []=some []:=rfl
  exact w tt Tryz.func230 rfl [.c [] (Oq Ek h),.t rfl] rfl rfl trivial
theorem Qu1:Qd Tryz.prog 303 [pr []] [.one (.row []),.one (.int .i64 2)] :=
  w tt Tryz.func303 rfl [.c [] Q1y,.t rfl] rfl rfl trivial
theorem Q8b {a o:List Int} (ha:Pb a) (h:Qmp a=some o):Pb o:=by
  unfold Qmp at h
  split at h
  · injection h with h; subst h; exact Ek
  · obtain ⟨l,hl,h⟩:=Option.bind_eq_some_iff.1 h
    obtain ⟨fs,hf,h⟩:=Option.bind_eq_some_iff.1 h
    exact Mr Qyi (Qfc (Iq (X1 ha) hl).2 hf) h
theorem Qul {p:List Int} {l:List Tm} (hp:Pb p) (h:Bt p=some l) (hl:l.length≤1000000):Qd Tryz.prog 276 [pr p] [.one (tas l)]:=by
  unfold Bt at h
  obtain ⟨q,hq,h⟩:=Option.bind_eq_some_iff.1 h
  have qp:=Q8b hp hq
  have co:=Q9x hp hq
  split at h
  · rename_i h0
    injection h with h; subst h
    obtain rfl:=List.eq_nil_of_length_eq_zero h0
    exact w tt Tryz.func276 rfl [.c [] co,.c [] Qu1,.t rfl] rfl rfl trivial
  · exact w tt Tryz.func276 rfl [.c [] co,.c [] (Q1x qp h hl),.f rfl] rfl rfl trivial
def ota:Option Tm→List LV
  | none=>zTr
  | some t=>ta t
theorem Q1n {p:List Int} {a:Tm} {l:List Tm} {r:Option Tm} (hp:Pb p) (ha:Tb a) (h:Bt p=some l) (hl:l.length≤1000000) (ht:∀ t∈l,Tb t) (hr:Ni a l=some r):Qd Tryz.prog 241 [pr p,.agg (ta a)] [.agg (ota r),.one (.bool r.isSome)]:=by
  have hll:(l.map fun t=>ta t).length=l.length:=by simp
  refine Z7 Tryz.func241 rfl ?_
  refine go tt [.c [] (Qul hp h hl)] rfl trivial ?_
  refine lp (S:=Nat) 2 (fun L1 i=>(11,.v (.one (.int .i64 (i:Int))))::L1) (fun _=>[.blk 67 (ta a),.blk 67 zTm]) (fun i=>l.length-i) (fun i=>i≤l.length∧Ni a (l.drop i)=some r) 0 ⟨Nat.zero_le _,hr⟩ rfl (fun _ _=>rfl) rfl fun i ⟨hi,hf⟩=>?_
  by_cases hlt:i<l.length
  · obtain ⟨t,hx⟩:∃ t,l[i]? = some t:=⟨_,List.getElem?_eq_getElem hlt⟩
    have hdr:l.drop i=t::l.drop (i+1):=by
      rw [List.drop_eq_getElem_cons hlt]; congr 1
      have:=List.getElem?_eq_getElem hlt; rw [hx] at this; injection this with this; exact this.symm
    rw [hdr] at hf
    simp only [Ni] at hf
    obtain ⟨c,c1,hf⟩:=Option.bind_eq_some_iff.1 hf
    have cc:=Qem (ht t (List.mem_of_getElem? hx)) ha c1
    by_cases hc:0<c
    · rw [if_pos hc] at hf
      injection hf with hf; subst hf
      exact en tt [.t (by simp; omega),.x (Ob hx),.c [] cc,.t (by simpa using hc)] rfl rfl trivial
    · rw [if_neg hc] at hf
      refine go tt [.t (by simp; omega),.x (Ob hx),.c [] cc,.f (by simpa using hc)] rfl (by simp [Qa]; omega) ?_
      exact rd (i+1) (by omega) ⟨hlt,hf⟩ rfl
  · obtain rfl:i=l.length:=by omega
    rw [List.drop_length] at hf
    simp only [Ni] at hf
    injection hf with hf; subst hf
    exact en tt [.f (by simp)] rfl rfl trivial
end Orr

namespace Orr
open Go Go.Proofs Orq
set_option maxRecDepth 10000
def Pj (now:Tm):List Wt→Option (List Wt)
  | []=>some []
  | w::l=>(if w.known=true then some w else (Aj w.c.p now).bind fun r=>some ⟨w.c,true,r⟩).bind fun w'=>(Pj now l).bind fun r=>some (w'::r)
theorem Eg {now:Tm}:∀ {l ws:List Wt},Pj now l=some ws→ws.length=l.length∧∀ (i:Nat) (w:Wt),l[i]? = some w→∃ v,ws[i]? = some v∧(w.known=true∧v=w∨w.known=false∧∃ r,Aj w.c.p now=some r∧v=⟨w.c,true,r⟩)
  | [],ws,h=>by injection h with h; subst h; exact ⟨rfl,fun i x hx=>by simp at hx⟩
  |
   y::l,ws,h=>by
   simp only [Pj] at h
   obtain ⟨v,hv,h⟩:=Option.bind_eq_some_iff.1 h
   obtain ⟨r,hr,h⟩:=Option.bind_eq_some_iff.1 h
   injection h with h; subst h
   obtain ⟨a,b⟩:=Eg hr
   refine ⟨by simp [a],fun i x hx=>?_⟩
   cases i with
   |
    zero =>
    injection hx with hx; subst hx
    refine ⟨v,rfl,?_⟩
    split at hv
    · rename_i hk; injection hv with hv; exact .inl ⟨hk,hv.symm⟩
    · rename_i hk
      obtain ⟨q,hq,hv⟩:=Option.bind_eq_some_iff.1 hv
      injection hv with hv
      exact .inr ⟨by simpa using hk,q,hq,hv.symm⟩
   | succ i=>exact b i x (by simpa using hx)
theorem Quk {p:List Int} {a:Tm} {r:Option Tm} (hp:Cp p) (ha:Va a) (h:Aj p a=some r):Qd Tryz.prog 241 [pr p,.agg (ta a)] [.agg (ota r),.one (.bool r.isSome)]:=by
  obtain ⟨l,l1,l2,l3,_⟩:=Ma hp
  unfold Aj at h
  rw [l1] at h
  exact Q1n (Dp.pb hp.dp) ha.tb l1 (by omega) (fun t ht=>(l3 t ht).tb) h
theorem Q1q {T:Nat} {c:Cr} {r0 r1:List (List LV)} {ws:List Wt} (hc:CrOk c) (h:Pj c.now c.l=some ws):Xj Tryz.prog 195 [.one (.ow 0 0)] [.blk T (U3 c r0 r1)] [] [.blk T (U3 { c with l:=ws } r0 r1)]:=by
  have hk:=hc.k
  have hw:=Uo c.l
  obtain ⟨h1,h2⟩:=Eg h
  refine Z7 Tryz.func195 rfl ?_
  refine go tt [.o 2 164 18,.c [0] (Qla hc.n)] rfl trivial ?_
  refine lp (S:=Nat) 3 (fun L1 i=>(13,.v (.one (.int .i64 (i:Int))))::(2,.v (.one (.orow 1 18 none)))::L1) (fun i=>[.blk T (U3 c r0 r1),.row false 164 18 (Bw (ws.take i)),.blk 67 (ta c.now)]) (fun i=>c.l.length-i) (fun i=>i≤c.l.length) 0 (Nat.zero_le _) rfl (fun _ _=>rfl) rfl fun i hi=>?_
  by_cases hlt:i<c.l.length
  · obtain ⟨w,hx⟩:∃ w,c.l[i]? = some w:=⟨_,List.getElem?_eq_getElem hlt⟩
    obtain ⟨v,hv,h3⟩:=h2 i w hx
    have hm:∀ y∈[wl v],y.length=18:=fun y hy=>by rw [List.mem_singleton.1 hy]; rfl
    have hg:=E4 hv
    have hl:decide ((i:Int)<((Bw c.l).length:Int))=true:=by simp [hw]; omega
    rcases h3 with ⟨k1,rfl⟩ | ⟨k1,r,k2,rfl⟩
    · obtain ⟨vc,vk,vf⟩:=v
      cases vf <;> (refine go tt [.t hl,.x (Y8 hx),.f (by rw [show vk=true from k1]; rfl),.s (sz:=18) hm] rfl (by simp [Qa,Uo]; omega) ?_; exact rd (i+1) (by omega) hlt (by rw [hg]; rfl))
    · have cg:=Quk (hc.l w (List.mem_of_getElem? hx)).p hc.n k2
      obtain ⟨wc,wk,wf⟩:=w
      cases r <;> cases wf <;> (refine go tt [.t hl,.x (Y8 hx),.t (by rw [show wk=false from k1]; rfl),.c [] cg,.s (sz:=18) hm] rfl (by simp [Qa,Uo]; omega) ?_; exact rd (i+1) (by omega) hlt (by rw [hg]; rfl))
  · obtain rfl:i=c.l.length:=by omega
    rw [←h1,List.take_length]
    exact ed tt [1] [0] [.f (by simp [hw,h1])] rfl trivial
def Qjc (ws:List Wt):Option (Option Tm):=match ws.filterMap (·.fails) with
  | []=>some none
  | b::l=>(Tk b l).map some
theorem Is {c:Cr} {ws:List Wt} (hc:CrOk c) (h:Pj c.now c.l=some ws):CrOk { c with l:=ws }:=by
  obtain ⟨h1,h2⟩:=Eg h
  refine ⟨hc.n,fun v hv=>?_,by show ws.length≤1000; rw [h1]; exact hc.k⟩
  obtain ⟨i,hi⟩:=List.getElem?_of_mem hv
  have hil:i<c.l.length:=by rw [←h1]; exact (List.getElem?_eq_some_iff.1 hi).1
  obtain ⟨v',h3,h4⟩:=h2 i _ (List.getElem?_eq_getElem hil)
  rw [hi] at h3; injection h3 with h3; subst h3
  have hw:=hc.l _ (List.getElem_mem hil)
  rcases h4 with ⟨_,rfl⟩ | ⟨_,r,k2,rfl⟩
  · exact hw
  · obtain ⟨r',r1,r2⟩:=Qx7 hw.p hc.n
    rw [k2] at r1; injection r1 with r1; subst r1
    refine ⟨hw.p,fun t ht=>?_⟩
    have ht:r=some t:=ht
    subst ht
    exact r2.2.1
theorem Q1r {T:Nat} {c:Cr} {r0 r1:List (List LV)} {ws:List Wt} {r:Option Tm} (hc:CrOk c) (h:Pj c.now c.l=some ws) (hr:Qjc ws=some r):Xj Tryz.prog 135 [.one (.ow 0 0)] [.blk T (U3 c r0 r1)] [.agg (ota r),.one (.bool r.isSome)] [.blk T (U3 { c with l:=ws } r0 r1)]:=by
  have hcl:=Q1q (T:=T) (r0:=r0) (r1:=r1) hc h
  have hc':=Is hc h
  have hk:=hc'.k
  have hw:=Uo ws
  have hvb:∀ t∈ws.filterMap (·.fails),Tb t:=fun t ht=>by
    obtain ⟨w,w1,w2⟩:=List.mem_filterMap.1 ht
    exact ((hc'.l w w1).f t w2).tb
  refine Z7 Tryz.func135 rfl ?_
  refine go tt [.c [0] hcl,.o 4 67 9] rfl trivial ?_
  refine lp (S:=Nat) 3 (fun L1 i=>(14,.v (.one (.int .i64 (i:Int))))::(4,.v (.one (.orow 2 9 none)))::L1) (fun i=>[.blk T (U3 { c with l:=ws } r0 r1),.blk 67 zTm,.row false 67 9 (tal ((ws.take i).filterMap (·.fails)))]) (fun i=>ws.length-i) (fun i=>i≤ws.length) 0 (Nat.zero_le _) rfl (fun _ _=>rfl) rfl fun i hi=>?_
  by_cases hlt:i<ws.length
  · obtain ⟨w,hx⟩:∃ w,ws[i]? = some w:=⟨_,List.getElem?_eq_getElem hlt⟩
    have hl:decide ((i:Int)<((Bw ws).length:Int))=true:=by simp [hw]; omega
    have hfl:((ws.take i).filterMap (·.fails)).length≤i:=Nat.le_trans (List.length_filterMap_le _ _) (by rw [List.length_take]; omega)
    have hg:(ws.take (i+1)).filterMap (·.fails)=(ws.take i).filterMap (·.fails)++(match w.fails with | none=>[] | some t=>[t]):=by
      rw [List.take_succ,hx,List.filterMap_append]
      show _++List.filterMap (·.fails) [w]=_
      cases hwf:w.fails <;> simp [hwf]
    obtain ⟨wc,wk,wf⟩:=w
    have hk:ws.length≤1000:=hk
    cases wf with
    |
     none =>
     refine go tt [.t hl,.x (Y8 hx),.f rfl] rfl (by simp [Qa]; omega) ?_
     exact rd (i+1) (by omega) hlt (by rw [hg]; simp; rfl)
    |
     some t =>
     refine go tt [.t hl,.x (Y8 hx),.t rfl,.s (l:=[ta t]) (sz:=9) (fun c hc=>by rw [List.mem_singleton.1 hc]; rfl)] rfl (by simp [Qa]; omega) ?_
     exact rd (i+1) (by omega) hlt (by rw [hg]; simp [tal]; rfl)
  · obtain rfl:i=ws.length:=by omega
    rw [List.take_length]
    have hf:decide ((ws.length:Int)<((Bw ws).length:Int))=false:=by simp [hw]
    have hln:(ws.filterMap (·.fails)).length≤1000:=Nat.le_trans (List.length_filterMap_le _ _) hk
    unfold Qjc at hr
    cases hfm:ws.filterMap (·.fails) with
    |
     nil =>
     rw [hfm] at hr
     injection hr with hr; subst hr
     exact ed tt [] [0] [.f hf,.p 2,.c [] Qun] rfl trivial
    |
     cons b l =>
     rw [hfm] at hr hvb hln
     obtain ⟨m,m1,rfl⟩:=Option.map_eq_some_iff.1 hr
     have cl:=Sq (hvb b (List.mem_cons_self ..)) (fun t ht=>hvb t (List.mem_cons_of_mem _ ht)) (by simp at hln; omega) m1
     exact ed tt [] [0] [.f hf,.p 2,.c [] cl] rfl trivial
end Orr

namespace Orr
open Go Go.Proofs Orq
set_option maxRecDepth 10000
theorem Qa4 {at_:Tm} {x:Ct}:∀ {l:List Wt} {w:Wt},Fy l x at_=some w→w=fresh x∨∃ v∈l,v.known=true∧v.c.p=x.p∧w=⟨x,true,v.fails⟩∧∀ t,v.fails=some t→∃ c,O3 t at_=some c∧0<c
  | [],w,h=>by simp only [Fy] at h; injection h with h; exact .inl h.symm
  |
   v::l,w,h=>by
   simp only [Fy] at h
   have tl:Fy l x at_=some w→w=fresh x∨∃ v'∈v::l,v'.known=true∧v'.c.p=x.p∧w=⟨x,true,v'.fails⟩∧∀ t,v'.fails=some t→∃ c,O3 t at_=some c∧0<c:=fun h=>by
     rcases Qa4 h with h | ⟨v',h1,h2⟩
     · exact .inl h
     · exact .inr ⟨v',List.mem_cons_of_mem _ h1,h2⟩
   split at h
   · rename_i hk
     cases hf:v.fails with
     |
      none =>
      rw [hf] at h
      injection h with h
      exact .inr ⟨v,List.mem_cons_self ..,hk.2.1,hk.2.2,by rw [hf]; exact h.symm,fun t ht=>by rw [hf] at ht; cases ht⟩
     |
      some t =>
      rw [hf] at h
      obtain ⟨c,c1,h⟩:=Option.bind_eq_some_iff.1 h
      split at h
      · rename_i h0
        injection h with h
        exact .inr ⟨v,List.mem_cons_self ..,hk.2.1,hk.2.2,by rw [hf]; exact h.symm,fun u hu=>by rw [hf] at hu; injection hu with hu; subst hu; exact ⟨c,c1,h0⟩⟩
      · exact tl h
   · exact tl h
theorem lay_ok {c:Cr} {at_:Tm} {l:List Ct} {ws:List Wt} (ev:Int) (hc:CrOk c) (ha:Va at_) (hl:∀ x∈l,Cp x.p) (hn:l.length≤1000) (h:Cv c.l at_ (Z9 l)=some ws):CrOk ⟨at_,ws,ev⟩:=by
  obtain ⟨h1,h2⟩:=Cw h
  refine ⟨ha,fun w hw=>?_,by show ws.length≤1000; rw [h1,Fi]; exact hn⟩
  obtain ⟨i,hi⟩:=List.getElem?_of_mem hw
  have hil:i<(Z9 l).length:=by rw [←h1]; exact (List.getElem?_eq_some_iff.1 hi).1
  obtain ⟨v,h3,h4⟩:=h2 i _ (List.getElem?_eq_getElem hil)
  rw [hi] at h4; injection h4 with h4; subst h4
  have hx:=hl _ (Mz (List.getElem_mem hil))
  rcases Qa4 h3 with e | ⟨v,v1,_,v3,e,_⟩
  · rw [e]; exact ⟨hx,fun t ht=>by cases ht⟩
  · rw [e]; exact ⟨hx,fun t ht=>(hc.l v v1).f t ht⟩
def goF {β:Type} (Bc:Tm→List Ct) (Br:Tm→β) (t:Rat):Nat→Cr→β→Int→Option (Cr×β×Int)
  | 0,_,_,_=>none
  |
   k+1,c,r,n=>(Pj c.now c.l).bind fun ws=>(Qjc ws).bind fun o=>match o with
   | none=>some (⟨tq t,ws,c.ev⟩,r,n)
   | some a=>if 0<Qu a t then some (⟨tq t,ws,c.ev⟩,r,n) else (Cv ws a (Z9 (Bc a))).bind fun w2=>goF Bc Br t k ⟨a,w2,c.ev+1⟩ (Br a) (n+1)
theorem Qya {ws:List Wt} {a:Tm} (h:Qjc ws=some (some a)) (hv:∀ t∈ws.filterMap (·.fails),Va t):a∈ws.filterMap (·.fails)∧∀ t∈ws.filterMap (·.fails),¬Yw t a:=by
  unfold Qjc at h
  cases hf:ws.filterMap (·.fails) with
  | nil=>rw [hf] at h; injection h with h; cases h
  |
   cons b l =>
   rw [hf] at h hv
   obtain ⟨m,m1,m2⟩:=Option.map_eq_some_iff.1 h
   injection m2 with m2; subst m2
   obtain ⟨m',n1,n2,n3⟩:=Eb l b hv
   rw [m1] at n1; injection n1 with n1; subst n1
   exact ⟨n2,n3⟩
theorem Q8a {c:Cr} {ws:List Wt} {a:Tm} (hc:CrOk c) (h:Pj c.now c.l=some ws) (hr:Qjc ws=some (some a)):Va a:=by
  have hc':=Is hc h
  have hv:∀ t∈ws.filterMap (·.fails),Va t:=fun t ht=>by
    obtain ⟨w,w1,w2⟩:=List.mem_filterMap.1 ht
    exact (hc'.l w w1).f t w2
  exact hv a (Qya hr hv).1
structure BuildOk (Bc:Tm→List Ct):Prop where
  p:∀ a,Va a→∀ x∈Bc a,Cp x.p
  n:∀ a,Va a→(Bc a).length≤1000
theorem Mf {T:Nat} {c:Cr} {r0 r1:List (List LV)}:Xj Tryz.prog 34 [.one (.ow 0 0)] [.blk T (U3 c r0 r1)] [.one (.int .i64 c.ev)] [.blk T (U3 c r0 r1)]:=by
  refine Z7 Tryz.func34 rfl ?_
  exact ed tt [] [0] [] rfl trivial
end Orr

namespace Orr
open Go Go.Proofs Orq
set_option maxRecDepth 10000
end Orr

namespace Orr
open Go Go.Proofs Orq
set_option maxRecDepth 10000
end Orr

namespace Orr
open Go Go.Proofs Orq
set_option maxRecDepth 10000
abbrev idl (l:List Int):List (List LV):=l.map fun (z:Int)=>[.int .i64 z]
theorem Qfk {l:List Int} {i:Nat} {z:Int} (h:l[i]? = some z):(idl l)[i]? = some [.int .i64 z]:=Xf h
def Up (v n:Int):Int:=if n<1 then 0 else v.emod n
theorem Qtr {v n:Int} (h:0<n):(if v.tmod n<0 then v.tmod n+n else v.tmod n)=v % n:=by
  have h3:=Int.emod_nonneg v (show n≠0 by omega)
  have h4:=Int.emod_lt_of_pos v h
  have h1:=Int.tmod_eq_emod (a:=v) (b:=n)
  have hn:((n.natAbs:Nat):Int)=n:=by omega
  split at h1
  · rw [h1]; simp; omega
  · rename_i hc
    rw [h1,hn]
    have:v % n≠0:=fun e=>hc (.inr (Int.dvd_of_emod_eq_zero e))
    rw [if_pos (by omega)]; omega
theorem B9 {v n:Int} (hv:-9223372036854775808≤v∧v≤9223372036854775807) (hn:n≤1000000000):Qd Tryz.prog 15 [.one (.int .i64 v),.one (.int .i64 n)] [.one (.int .i64 (Up v n))]:=by
  unfold Up
  by_cases h:n<1
  · rw [if_pos h]
    exact w tt Tryz.func15 rfl [.t (by simpa using h)] rfl rfl trivial
  · rw [if_neg h]
    have e:=Qtr (v:=v) (n:=n) (by omega)
    have h3:=Int.emod_nonneg v (show n≠0 by omega)
    have h4:=Int.emod_lt_of_pos v (show 0<n by omega)
    show Qd Tryz.prog 15 [.one (.int .i64 v),.one (.int .i64 n)] [.one (.int .i64 (v % n))]
    by_cases h0:v.tmod n<0
    · rw [if_pos h0] at e
      have b:-n≤v.tmod n:=by omega
      exact w tt Tryz.func15 rfl [.f (by simpa using h),.t (by simpa using h0)] rfl (by rw [e]) (by simp [Qa]; omega)
    · rw [if_neg h0] at e
      exact w tt Tryz.func15 rfl [.f (by simpa using h),.f (by simpa using h0)] rfl (by rw [e]) (by simp [Qa]; omega)
end Orr

namespace Orr
open Go Go.Proofs
set_option maxRecDepth 10000
def frow (p:List Rat):List (List LV):=p.map fr
theorem Js (p:List Rat):(frow p).length=p.length:=by simp [frow]
theorem Fw {p:List Rat} {i:Nat} {q:Rat} (h:p[i]? = some q):(frow p)[i]? = some (fr q):=Xf h
theorem Qc6 (p:List Rat) (q:Rat):frow (p++[q])=frow p++[fr q]:=by simp [frow]
theorem Lu (p:List Rat):∀ c∈frow p,c.length=4:=fun c hc=>by obtain ⟨x,_,rfl⟩:=List.mem_map.1 hc; rfl
abbrev rp (p:List Rat):LV:=.row (frow p)
theorem Qmj (q:Rat):∀ c∈[fr q],c.length=4:=fun c hc=>by rw [List.mem_singleton.1 hc]; rfl
theorem Qvc:Qd Tryz.prog 308 [] [.agg (fr 0)]:=w tt Tryz.func308 rfl [.c [] (Np (n:=0) (by decide))] rfl rfl trivial
theorem Ss {p:List Rat}:Qd Tryz.prog 280 [.one (rp p)] [.one (rp (Wm p))]:=by
  refine Z7 Tryz.func280 rfl (ln 0 rfl rfl fun hl=>?_)
  rw [Js] at hl
  have hpl:=Js p
  refine go tt [] rfl trivial ?_
  refine lp (S:=Nat) 0 (fun L1 n=>(3,.v (.one (.int .i64 (n:Int))))::L1) (fun _=>[]) id (fun n=>n≤p.length∧∀ j x,n≤j→p[j]? = some x→x=0) (frow p).length ⟨by rw [hpl]; exact Nat.le_refl _,fun j x h1 h2=>by
    have:=(List.getElem?_eq_some_iff.1 h2).1; rw [hpl] at h1; omega⟩ rfl (fun _ _=>rfl) rfl fun n hs=>?_
  obtain ⟨h1,h2⟩:=hs
  cases n with
  |
   zero =>
   have e:=Et h1 (fun j x h=>h2 j x h) (fun h=>absurd h (by decide))
   exact en tt [.g 8 false (by simp),.f rfl,.i 0] rfl (by rw [e]; rfl) (by simp [Qa])
  |
   succ n =>
   obtain ⟨x,hx⟩:∃ x,p[n]? = some x:=⟨_,List.getElem?_eq_getElem (by omega)⟩
   have hn:=Rat.num_eq_zero (q:=x)
   by_cases h0:x=0
   · refine go tt [.g 8 true (by simp),.r 11 (eI (b:=(n:Int)) (by simp)),.x (Fw hx),.c [] (Vz (z:=x.num)),.t (decide_eq_true (hn.2 h0)),.r 18 (eI (b:=(n:Int)) (by simp))] rfl (by simp [Qa]; omega) ?_
     exact rd n (by simp) ⟨by omega,fun j y h3 h4=>by
         rcases Nat.eq_or_lt_of_le h3 with rfl | h3
         · rw [hx] at h4; injection h4 with h4; rw [←h4,h0]
         · exact h2 j y h3 h4⟩ rfl
   · have e:=Et h1 (fun j x h=>h2 j x h) (fun _=>⟨x,hx,h0⟩)
     exact en tt [.g 8 true (by simp),.r 11 (eI (b:=(n:Int)) (by simp)),.x (Fw hx),.c [] (Vz (z:=x.num)),.f (decide_eq_false fun h=>h0 (hn.1 h)),.i (n+1)] rfl (by rw [e]; simp [rp,frow,List.map_take]) (by simp [Qa,hpl] <;> omega)
theorem Q5l {p:List Rat} {i:Nat} (hi:i<1099511627776):Qd Tryz.prog 286 [.one (rp p),.one (.int .i64 (i:Int))] [.agg (fr (p.getD i 0))]:=by
  have hpl:=Js p
  by_cases h:i<p.length
  · have e:p.getD i 0=p[i]:=by rw [List.getD_eq_getElem?_getD,List.getElem?_eq_getElem h]; rfl
    rw [e]
    exact w tt Tryz.func286 rfl [.g 7 false (decide_eq_false (by omega)),.f (decide_eq_false (by omega)),.x (Fw (List.getElem?_eq_getElem h))] rfl rfl trivial
  · have e:p.getD i 0=0:=by rw [List.getD_eq_getElem?_getD,List.getElem?_eq_none (by omega)]; rfl
    rw [e]
    exact w tt Tryz.func286 rfl [.g 7 false (decide_eq_false (by omega)),.t (decide_eq_true (by omega)),.c [] Qvc] rfl rfl trivial
theorem Qvo:Qd Tryz.prog 281 [.one (ids [1])] [.one (rp (zp [1]))]:=by
  have cc:=Ss (p:=zp [1])
  rw [We,show trim [1]=[1] from rfl] at cc
  refine Z7 Tryz.func281 rfl ?_
  refine go tt [.o 3 49 4] rfl trivial ?_
  refine lp (S:=Nat) 1 (fun L1 i=>(7,.v (.one (.int .i64 (i:Int))))::(3,.v (.one (.orow 0 4 none)))::L1) (fun i=>[.row false 49 4 (frow ((zp [1]).take i))]) (fun i=>1-i) (fun i=>i≤1) 0 (by decide) rfl (fun _ _=>rfl) rfl fun i hi=>?_
  rcases (show i=0∨i=1 by omega) with rfl | rfl
  · refine go tt [.t rfl,.x (l:=idl [1]) (i:=0) (xs:=[.int .i64 1]) rfl,.c [] (Np (n:=1) (by decide)),.s (sz:=4) (Qmj _)] rfl (by simp [Qa,frow]) ?_
    exact rd 1 (by omega) (by omega) rfl
  · exact en tt [.f rfl,.c [] cc] rfl rfl trivial
theorem Mg {p:List Int} (hb:Bd 90000000 p) (hl:p.length≤1000000):Qd Tryz.prog 249 [pr p] [.one (rp (zp (trim p)))]:=by
  have hpl:(p.map Zx).length=p.length:=by simp
  have cc:=Ss (p:=zp p)
  rw [We] at cc
  show Qd Tryz.prog 249 [.one (.row (p.map Zx))] _
  refine Z7 Tryz.func249 rfl ?_
  refine go tt [.o 3 49 4] rfl trivial ?_
  refine lp (S:=Nat) 1 (fun L1 i=>(7,.v (.one (.int .i64 (i:Int))))::(3,.v (.one (.orow 0 4 none)))::L1) (fun i=>[.row false 49 4 (frow (zp (p.take i)))]) (fun i=>p.length-i) (fun i=>i≤p.length) 0 (Nat.zero_le _) rfl (fun _ _=>rfl) rfl fun i hi=>?_
  have hol:(frow (zp (p.take i))).length=i:=by rw [Js,J6,List.length_take]; omega
  by_cases h:i<p.length
  · obtain ⟨z,hz⟩:∃ z,p[i]? = some z:=⟨_,List.getElem?_eq_getElem h⟩
    have hzb:=hb z (List.mem_of_getElem? hz)
    have hg:frow (zp (p.take (i+1)))=frow (zp (p.take i))++[fr (z:Rat)]:=by
      rw [List.take_succ,hz]; simp [frow,zp]
    refine go tt [.t (decide_eq_true (by omega)),.x (Xf (f:=Zx) hz),.c [] (Qen (z:=z) (by omega)),.c [] (Uv (n:=1) (by decide)),.c [] (Vr (n:=z)),.s (sz:=4) (Qmj _)] rfl (by simp [Qa,hol,-List.getD_eq_getElem?_getD]; omega) ?_
    exact rd (i+1) (by omega) h (by rw [hg]; rfl)
  · have e:i=p.length:=by omega
    rw [e,List.take_length]
    exact en tt [.f (decide_eq_false (by omega)),.c [] cc] rfl rfl trivial
theorem Q5k {p:List Int} (hb:Bd 90000000 p) (hl:p.length≤1000000):Qd Tryz.prog 277 [.one (rp (zp p))] [pr p]:=by
  have hpl:(frow (zp p)).length=p.length:=by rw [Js,J6]
  show Qd Tryz.prog 277 [.one (rp (zp p))] [.one (.row (p.map Zx))]
  refine Z7 Tryz.func277 rfl ?_
  refine go tt [.o 3 29 2] rfl trivial ?_
  refine lp (S:=Nat) 1 (fun L1 i=>(7,.v (.one (.int .i64 (i:Int))))::(3,.v (.one (.orow 0 2 none)))::L1) (fun i=>[.row false 29 2 ((p.take i).map Zx)]) (fun i=>p.length-i) (fun i=>i≤p.length) 0 (Nat.zero_le _) rfl (fun _ _=>rfl) rfl fun i hi=>?_
  have hol:((p.take i).map Zx).length=i:=by rw [List.length_map,List.length_take]; omega
  by_cases h:i<p.length
  · obtain ⟨z,hz⟩:∃ z,p[i]? = some z:=⟨_,List.getElem?_eq_getElem h⟩
    have hzb:=hb z (List.mem_of_getElem? hz)
    have hq:∀ c∈[Zx z],c.length=2:=fun c hc=>by rw [List.mem_singleton.1 hc]; rfl
    have hg:(p.take (i+1)).map Zx=(p.take i).map Zx++[Zx z]:=by
      rw [List.take_succ,hz]; simp
    refine go tt [.t (decide_eq_true (by omega)),.x (Fw (Q0z hz)),.c [] (Qu6 (z:=z) (by omega)),.s (sz:=2) hq] rfl (by simp [Qa]; omega) ?_
    exact rd (i+1) (by omega) h (by rw [hg]; rfl)
  · have e:i=p.length:=by omega
    rw [e,List.take_length]
    exact en tt [.f (decide_eq_false (by omega))] rfl rfl trivial
theorem Qlk {p q:List Rat} (hp:Rb 20000000 p) (hq:Rb 20000000 q) (hlp:p.length≤1000000) (hlq:q.length≤1000000):Qd Tryz.prog 255 [.one (rp p),.one (rp q)] [.one (rp (Qtf p q))]:=by
  have h1:=Js p
  have h2:=Js q
  obtain ⟨M,hM⟩:∃ M,M=max p.length q.length:=⟨_,rfl⟩
  have cc:=Ss (p:=Sf (fun i=>p.getD i 0+q.getD i 0) M)
  unfold Qtf
  rw [←hM]
  refine Z7 Tryz.func255 rfl ?_
  refine go tt [.o 5 49 4] rfl trivial ?_
  refine lp (S:=Nat) 1 (fun L1 i=>(6,.v (.one (.int .i64 (i:Int))))::(5,.v (.one (.orow 0 4 none)))::L1) (fun i=>[.row false 49 4 (frow (Sf (fun i=>p.getD i 0+q.getD i 0) i))]) (fun i=>M-i) (fun i=>i≤M) 0 (Nat.zero_le _) rfl (fun _ _=>rfl) rfl fun i hi=>?_
  have hol:(frow (Sf (fun i=>p.getD i 0+q.getD i 0) i)).length=i:=by rw [Js,Dv]
  by_cases h:i<M
  · refine go tt [.r 12 (eI (b:=(M:Int)) (by omega)),.t (decide_eq_true (by omega)),.c [] (Q5l (p:=p) (i:=i) (by omega)),.c [] (Q5l (p:=q) (i:=i) (by omega)),.c [] (Quf (hp.getD (by decide) i) (hq.getD (by decide) i)),.s (sz:=4) (Qmj _)] rfl (by simp [Qa,hol,-List.getD_eq_getElem?_getD]; omega) ?_
    exact rd (i+1) (by omega) h (by rw [Qec,Qc6]; rfl)
  · have e:i=M:=by omega
    rw [e]
    exact en tt [.r 12 (eI (b:=(M:Int)) (by omega)),.f (decide_eq_false (by omega)),.c [] cc] rfl rfl trivial
theorem Hp {p:List Rat} {c:Rat} (hp:Rb 40000000 p) (hc:Qs 40000000 c) (hlp:p.length≤1000000):Qd Tryz.prog 248 [.one (rp p),.agg (fr c)] [.one (rp (Vq p c))]:=by
  have h1:=Js p
  have cc:=Ss (p:=Sf (fun i=>p.getD i 0*c) p.length)
  unfold Vq
  refine Z7 Tryz.func248 rfl ?_
  refine go tt [.o 5 49 4] rfl trivial ?_
  refine lp (S:=Nat) 2 (fun L1 i=>(9,.v (.one (.int .i64 (i:Int))))::(5,.v (.one (.orow 1 4 none)))::L1) (fun i=>[.blk 49 (fr c),.row false 49 4 (frow (Sf (fun i=>p.getD i 0*c) i))]) (fun i=>p.length-i) (fun i=>i≤p.length) 0 (Nat.zero_le _) rfl (fun _ _=>rfl) rfl fun i hi=>?_
  have hol:(frow (Sf (fun i=>p.getD i 0*c) i)).length=i:=by rw [Js,Dv]
  by_cases h:i<p.length
  · have hg:p[i]? = some (p.getD i 0):=by rw [List.getD_eq_getElem?_getD,List.getElem?_eq_getElem h]; rfl
    refine go tt [.t (decide_eq_true (by omega)),.x (Fw hg),.c [] (Quq (hp.getD (by decide) i) hc),.s (sz:=4) (Qmj _)] rfl (by simp [Qa,hol,-List.getD_eq_getElem?_getD]; omega) ?_
    exact rd (i+1) (by omega) h (by rw [Qec,Qc6]; rfl)
  · have e:i=p.length:=by omega
    rw [e]
    exact en tt [.f (decide_eq_false (by omega)),.c [] cc] rfl rfl trivial
theorem Qln {p:List Rat} (hp:Rb 40000000 p) (hlp:p.length≤1000000):Qd Tryz.prog 253 [.one (rp p)] [.one (rp (Qgk p))]:=by
  have cs:=Hp (p:=p) (c:=-1) hp ⟨by decide,by decide⟩ hlp
  have co:=Np (n:=-1) (by decide)
  rw [show ((-1:Int):Rat)=-1 from rfl] at co
  exact w tt Tryz.func253 rfl [.c [] co,.c [] cs] rfl rfl trivial
theorem Q36 {s t:Nat} {a b:Rat} (ha:Qs s a) (hb:Qs t b):Qs (s+t+1) (a*b):=by
  rw [←Qdj]
  unfold Zu
  rw [if_neg (Int.mul_ne_zero (Wq a) (Wq b))]
  have h1:=Q3 a.num b.num
  have h2:=Q3 (a.den:Int) (b.den:Int)
  have:=ha.1; have:=ha.2; have:=hb.1; have:=hb.2
  exact Qs.divInt (by omega) (by omega) (by omega)
theorem Qza {s:Nat} {p:List Rat} (hp:Rb s p):Rb (s+2) (Qgk p):=by
  unfold Qgk Vq
  refine Rb.trim (Q4v fun i hi=>?_)
  have h1:Qs (s+0) (p.getD i 0):=by
    have hi:i<p.length:=hi
    rw [List.getD_eq_getElem?_getD,List.getElem?_eq_getElem hi]
    exact hp _ (List.getElem_mem hi)
  have:=Q36 h1 (show Qs 1 (-1:Rat) from ⟨by decide,by decide⟩)
  exact this.mono (by omega)
theorem Qj3 (p:List Rat):(Qgk p).length≤p.length:=by
  unfold Qgk Vq
  exact Nat.le_trans (Qd6 _) (by rw [Dv]; exact Nat.le_refl _)
theorem Q68 {p q:List Rat} (hp:Rb 19000000 p) (hq:Rb 19000000 q) (hlp:p.length≤1000000) (hlq:q.length≤1000000):Qd Tryz.prog 208 [.one (rp p),.one (rp q)] [.one (rp (Qzm p q))] :=
  w tt Tryz.func208 rfl [.c [] (Qln (hq.mono (by decide)) hlq),.c [] (Qlk (hp.mono (by decide)) ((Qza hq).mono (by decide)) hlp (Nat.le_trans (Qj3 q) hlq))] rfl rfl trivial
end Orr

namespace Orr
open Go Go.Proofs
set_option maxRecDepth 10000
theorem Qur {a b:Int} (ha:Ql a≤40000000) (hb:Ql b≤40000000):Qd Tryz.prog 279 [.agg (fr (a:Rat)),.agg (fr (b:Rat))] [.agg (fr ((a*b:Int):Rat))]:=by
  have h:=Quq (Us ha (by decide)) (Us hb (by decide))
  rw [←Rat.intCast_mul] at h; exact h
theorem Q6s {a b:Int} (ha:Ql a≤20000000) (hb:Ql b≤20000000):Qd Tryz.prog 285 [.agg (fr (a:Rat)),.agg (fr (b:Rat))] [.agg (fr ((a+b:Int):Rat))]:=by
  have h:=Quf (Us ha (by decide)) (Us hb (by decide))
  rw [←Rat.intCast_add] at h; exact h
theorem Qim (l:List Int) (i:Nat) (z:Int):(frow (zp l)).set i (fr (z:Rat))=frow (zp (l.set i z)):=by simp [frow,zp,List.map_set]
theorem Q00 {p:List Int} {i:Nat} (h:i<p.length):(zp p)[i]? = some ((p.getD i 0:Int):Rat):=Q0z (Xs h)
theorem Je {p:List Int} {i:Nat} (h:i<p.length):(frow (zp p))[i]? = some (fr ((p.getD i 0:Int):Rat)):=Fw (Q00 h)
theorem Il (p:List Int):(frow (zp p)).length=p.length:=by rw [Js,J6]
abbrev zR:List LV:=[.nils,.bool false,.nils,.bool false]
theorem Qfd {n i:Nat} (h:i<n):(List.replicate i (fr 0)++List.replicate (n-i) zR).set i (fr 0)=List.replicate (i+1) (fr 0)++List.replicate (n-(i+1)) zR:=by
  rw [List.set_append_right _ _ (by simp),List.length_replicate,Nat.sub_self,show n-i=n-(i+1)+1 by omega,List.replicate_succ (n:=n-(i+1)),List.set_cons_zero,List.replicate_succ' (n:=i),List.append_assoc]; rfl
theorem Qby (n:Nat):List.replicate n (fr 0)++List.replicate (n-n) zR=frow (zp (List.replicate n 0)):=by simp [zp,frow]
theorem Qey {p q:List Int} {s t:Nat} (hlp:p.length≤1000000) (hlq:q.length≤1000000) (hp:Bd s p) (hq:Bd t q) (hst:s+t≤19000000):Qd Tryz.prog 283 [.one (rp (zp p)),.one (rp (zp q))] [.one (rp (zp (Zh p q)))]:=by
  have hpl:=Il p
  have hql:=Il q
  rcases Nat.eq_zero_or_pos p.length with h0 | h0
  · have e:Zh p q=[]:=by unfold Zh; rw [if_pos (.inl h0)]
    rw [e]
    exact w tt Tryz.func283 rfl [.g 12 true (decide_eq_true (by omega)),.t rfl] rfl rfl trivial
  rcases Nat.eq_zero_or_pos q.length with h1 | h1
  · have e:Zh p q=[]:=by unfold Zh; rw [if_pos (.inr h1)]
    rw [e]
    exact w tt Tryz.func283 rfl [.g 12 false (decide_eq_false (by omega)),.t (decide_eq_true (by omega))] rfl rfl trivial
  have e:Zh p q=trim (Kw p q (List.replicate (p.length+q.length-1) 0) p.length):=by unfold Zh; rw [if_neg (by omega)]
  rw [e]
  obtain ⟨N,hN⟩:∃ N,N=p.length+q.length-1:=⟨_,rfl⟩
  rw [←hN]
  obtain ⟨o,ho⟩:∃ o,o=List.replicate N (0:Int):=⟨_,rfl⟩
  rw [←ho]
  have hol:o.length=N:=by rw [ho]; simp
  have ho0:∀ m,o.getD m 0=0:=fun m=>by rw [ho]; exact J1 N m
  have cc:=Ss (p:=zp (Kw p q o p.length))
  rw [We] at cc
  refine Z7 Tryz.func283 rfl ?_
  refine go tt [.g 12 false (decide_eq_false (by omega)),.f (decide_eq_false (by omega)),.r 22 (eI (b:=(N:Int)) (by omega)),.i N,.i N,.r 25 (eI (b:=(N:Int)) (by simp))] rfl (by simp [Qa]; omega) ?_
  refine lp (S:=Nat) 1 (fun L1 i=>(26,.v (.one (.int .i64 (i:Int))))::L1) (fun i=>[.row false 49 4 (List.replicate i (fr 0)++List.replicate (N-i) zR)]) (fun i=>N-i) (fun i=>i≤N) 0 (Nat.zero_le _) rfl (fun _ _=>rfl) rfl fun i hi=>?_
  by_cases hlt:i<N
  · refine go tt [.t (decide_eq_true (by omega)),.c [] Qvc,.i i] rfl (by simp [Qa]; omega) ?_
    rw [Qfd hlt]
    exact rd (i+1) (by omega) hlt rfl
  have hiN:i=N:=by omega
  rw [hiN,Qby,←ho]
  clear hiN hlt hi
  refine go tt [.f (decide_eq_false (by omega))] rfl trivial ?_
  refine lp (S:=Nat) 1 (fun L1 i=>(36,.v (.one (.int .i64 (i:Int))))::L1) (fun i=>[.row false 49 4 (frow (zp (Kw p q o i)))]) (fun i=>p.length-i) (fun i=>i≤p.length) 0 (Nat.zero_le _) rfl (fun _ _=>rfl) rfl fun i hi=>?_
  by_cases hlt:i<p.length
  · refine go tt [.t (decide_eq_true (by omega))] rfl trivial ?_
    refine lp (S:=Nat) 1 (fun L1 k=>(41,.v (.one (.int .i64 (k:Int))))::L1) (fun k=>[.row false 49 4 (frow (zp (H5 (p.getD i 0) q i (Kw p q o i) k)))]) (fun k=>q.length-k) (fun k=>k≤q.length) 0 (Nat.zero_le _) rfl (fun _ _=>rfl) rfl fun k hk=>?_
    by_cases hk2:k<q.length
    · have hm1:Ql ((H5 (p.getD i 0) q i (Kw p q o i) k).getD (i+k) 0)≤20000000:=Nat.le_trans (Hf (t:=39) (Qfy (by rw [Kx]; omega) (Qfx (fun j hj=>by omega) ho0 (fun i j=>Vw (Qq hp i) (Qq hq j))) (fun j=>Vw (Qq hp i) (Qq hq j)) (i+k)) (Nat.lt_of_lt_of_eq (show i+1<549755813888 by omega) (by decide))) (by omega)
      have hm2:Ql (p.getD i 0*q.getD k 0)≤20000000:=Nat.le_trans (Q3 _ _) (by have:=Qq hp i; have:=Qq hq k; omega)
      have hml:(H5 (p.getD i 0) q i (Kw p q o i) k).length=N:=by rw [H6,Kx,hol]
      have cm:=Qur (a:=p.getD i 0) (b:=q.getD k 0) (Nat.le_trans (Qq hp i) (by omega)) (Nat.le_trans (Qq hq k) (by omega))
      have hfl:=Il (H5 (p.getD i 0) q i (Kw p q o i) k)
      refine go tt [.t (decide_eq_true (by omega)),.i (i+k),.x (Je (p:=H5 (p.getD i 0) q i (Kw p q o i) k) (i:=i+k) (by omega)),.x (Je hlt),.x (Je hk2),.c [] cm,.c [] (Q6s hm1 hm2),.i (i+k)] rfl (by simp [Qa,hfl,-List.getD_eq_getElem?_getD] <;> omega) ?_
      rw [Qim]
      exact rd (k+1) (by omega) hk2 rfl
    · obtain rfl:k=q.length:=by omega
      exact go tt [.f (decide_eq_false (by omega))] rfl (by simp [Qa]; omega) (rd (i+1) (by omega) hlt rfl)
  · obtain rfl:i=p.length:=by omega
    exact en tt [.f (decide_eq_false (by omega)),.c [] cc] rfl rfl trivial
def Qih (p:List Int) (n:Nat):List Int:=(List.range n).map fun k=>p.getD (k+1) 0*((k+1:Nat):Int)
theorem Qwk (p:List Int) (n:Nat):(Qih p n).length=n:=by simp [Qih]
theorem Qsl (p:List Int) (n:Nat):Qih p (n+1)=Qih p n++[p.getD (n+1) 0*((n+1:Nat):Int)]:=by simp [Qih,List.range_succ]
theorem Qhc (p:List Int) (z:Int):frow (zp (p++[z]))=frow (zp p)++[fr (z:Rat)]:=by simp [frow,zp]
theorem Qll {p:List Int} (hp:Bd 40000000 p) (hl:p.length≤1000000):Qd Tryz.prog 252 [.one (rp (zp p))] [.one (rp (zp (Zn p)))]:=by
  have hpl:=Il p
  have cc:=Ss (p:=zp (Qih p (p.length-1)))
  rw [We] at cc
  refine Z7 Tryz.func252 rfl ?_
  refine go tt [.o 3 49 4] rfl trivial ?_
  refine lp (S:=Nat) 1 (fun L1 j=>(4,.v (.one (.int .i64 ((j+1:Nat):Int))))::(3,.v (.one (.orow 0 4 none)))::L1) (fun j=>[.row false 49 4 (frow (zp (Qih p j)))]) (fun j=>p.length-j) (fun j=>j≤p.length-1) 0 (Nat.zero_le _) rfl (fun _ _=>rfl) rfl fun j hj=>?_
  have hfl:=Il (Qih p j)
  rw [Qwk] at hfl
  by_cases h:j+1<p.length
  · have hk:Ql ((j+1:Nat):Int)≤40000000:=Nat.le_trans (Qfn (t:=38) (k:=j+1) (Nat.lt_of_lt_of_eq (show j+1<274877906944 by omega) (by decide))) (by decide)
    refine go tt [.t (decide_eq_true (by omega)),.x (Je h),.c [] (Np (n:=((j+1:Nat):Int)) (by omega)),.c [] (Qur (Qq hp (j+1)) hk),.s (sz:=4) (Qmj _)] rfl (by simp [Qa,hfl,-List.getD_eq_getElem?_getD] <;> omega) ?_
    exact rd (j+1) (by omega) (by omega) (by rw [Qsl,Qhc]; rfl)
  · have e:j=p.length-1:=by omega
    rw [e]
    exact en tt [.f (decide_eq_false (by omega)),.c [] cc] rfl rfl trivial
theorem Q7p (z:Int):fr (z:Rat)=[nd z.natAbs,sg z,.row [[.int .i64 1]],.bool false]:=by
  have e:Q8 1=[1]:=by rw [Tc (by decide),show 1 / 10000=0 from rfl,Z3]
  show [nd z.natAbs,sg z,nd 1,sg 1]=_
  unfold nd dl
  rw [e]; rfl
theorem Qvp {p:List Int} (hl:p.length≤1000000):Qd Tryz.prog 345 [.one (rp (zp p))] [.one (.bool true)]:=by
  have hpl:=Il p
  refine Z7 Tryz.func345 rfl ?_
  refine go tt [] rfl trivial ?_
  refine lp (S:=Nat) 0 (fun L1 i=>(6,.v (.one (.int .i64 (i:Int))))::L1) (fun _=>[]) (fun i=>p.length-i) (fun i=>i≤p.length) 0 (Nat.zero_le _) rfl (fun _ _=>rfl) rfl fun i hi=>?_
  by_cases h:i<p.length
  · have hg:=Je h
    rw [Q7p] at hg
    refine go tt [.t (decide_eq_true (by omega)),.x hg,.g 17 false rfl,.x hg,.x (l:=[[.int .i64 1]]) (i:=0) (xs:=[.int .i64 1]) rfl,.f rfl] rfl (by simp [Qa]; omega) ?_
    exact rd (i+1) (by omega) h rfl
  · exact en tt [.f (decide_eq_false (by omega))] rfl rfl trivial
theorem Qqx:[LV.nils,LV.bool false].map C5=ri 0:=by
  show _=[nd 0,sg 0]
  unfold nd dl
  rw [Z3]; rfl
theorem Qmu (p:List Int) (q:Rat):Int.sign (Vk p q.num q.den p.length).1=Z0 p q:=by
  unfold Z0 Q34 Kl
  generalize (Vk p q.num q.den p.length).1=z
  rcases Int.lt_trichotomy z 0 with h | h | h
  · rw [if_pos h,Int.sign_eq_neg_one_of_neg h]
  · subst h; rfl
  · rw [if_neg (by omega),if_pos h,Int.sign_eq_one_of_pos h]
theorem Qok {p:List Int} {q:Rat} (hp:Bd 30000000 p) (hl:p.length≤64) (hq:Qs 1000000 q):Qd Tryz.prog 338 [.one (rp (zp p)),.agg (fr q)] [.one (.int .i64 (Z0 p q))]:=by
  have hpl:=Il p
  refine Z7 Tryz.func338 rfl ?_
  refine go tt [.c [] (Qvp (p:=p) (by omega)),.f rfl,.c [] (Uv (n:=1) (by decide)),.r 19 (eI (b:=(p.length:Int)-1-((0:Nat):Int)) (by simp; omega))] rfl (by simp [Qa]; omega) ?_
  refine nlb 1 rfl rfl rfl ?_
  rw [Qqx]
  refine lp (S:=Nat) 3 (fun L1 j=>(7,.v (.one (.int .i64 ((p.length:Int)-1-(j:Int)))))::L1) (fun j=>[.blk 49 (fr q),.blk 47 (ri (Vk p q.num q.den j).1),.blk 47 (ri (Vk p q.num q.den j).2)]) (fun j=>p.length-j) (fun j=>j≤p.length) 0 (Nat.zero_le _) rfl (fun _ _=>rfl) rfl fun j hj=>?_
  have hv:=Qg6 (k:=j) hp hq.1 hq.2
  have hjl:j*(1000000+1)≤p.length*(1000000+1):=Nat.mul_le_mul_right _ (by omega)
  by_cases h:j<p.length
  · have hc:=Qq hp (p.length-1-j)
    have hq1:=hq.1
    have hq2:=hq.2
    have hm1:Ql ((Vk p q.num q.den j).1*q.num)≤200000000:=Nat.le_trans (Q3 _ _) (by omega)
    have hm2:Ql (p.getD (p.length-1-j) 0*(Vk p q.num q.den j).2)≤200000000:=Nat.le_trans (Q3 _ _) (by omega)
    refine go tt [.t (decide_eq_true (by omega)),.c [] (Yx (a:=(Vk p q.num q.den j).1) (b:=q.num) (by omega) (by omega)),.r 29 (eI (b:=((p.length-1-j:Nat):Int)) (by omega)),.x (Je (p:=p) (i:=p.length-1-j) (by omega)),.c [] (Yx (a:=p.getD (p.length-1-j) 0) (b:=(Vk p q.num q.den j).2) (by omega) (by omega)),.c [] (Qlh hm1 hm2),.c [] (Yx (a:=(Vk p q.num q.den j).2) (b:=(q.den:Int)) (by omega) (by omega)),.r 23 (eI (b:=(p.length:Int)-1-((j+1:Nat):Int)) (by omega))] rfl (by simp [Qa] <;> omega) ?_
    exact rd (j+1) (by omega) h rfl
  · obtain rfl:j=p.length:=by omega
    exact en tt [.f (decide_eq_false (by omega)),.c [] Qoh] rfl (by rw [Qmu]) trivial
end Orr

namespace Orr
def Zg (p:List Int):Int:=p.getD (p.length-1) 0
def P3 (a b:List Int):Int:=if Zg b<0 then -(Zg a) else Zg a
def Hi (a b:List Int) (i:Nat):Int:=a.getD i 0*((Zg b).natAbs:Int)-(if a.length-b.length≤i then P3 a b*b.getD (i-(a.length-b.length)) 0 else 0)
def Qd4 (a b:List Int):List Int:=Vn a.length (Hi a b)
inductive RRun (b:List Int):Nat→List Int→List Int→Prop
  | stop {a:List Int}:a.length<b.length→RRun b 0 a a
  | step {k:Nat} {a r:List Int}:b.length≤a.length→a.length≤1000→Bd 9000000 a→Bd 9000000 b→RRun b k (Qd4 a b) r→RRun b (k+1) a r
def Hr (p:List Int):Nat→Nat
  | 0=>0
  | i+1=>Int.gcd (Hr p i:Nat) (p.getD i 0)
def Na (p:List Int):Nat:=Hr p p.length
theorem Ll (p:List Int):∀ {i j:Nat},j<i→((Hr p i:Nat):Int)∣p.getD j 0
  | 0,_,h=>absurd h (Nat.not_lt_zero _)
  |
   i+1,j,h=>by
   simp only [Hr]
   rcases Nat.lt_or_ge j i with h1 | h1
   · exact Int.dvd_trans (Int.gcd_dvd_left ..) (Ll p h1)
   · rw [show j=i by omega]; exact Int.gcd_dvd_right ..
theorem Qh4 (p:List Int) (j:Nat):((Na p:Nat):Int)∣p.getD j 0:=by
  rcases Nat.lt_or_ge j p.length with h | h
  · exact Ll p h
  · rw [List.getD_eq_getElem?_getD,List.getElem?_eq_none h]; exact Int.dvd_zero _
theorem Sv {s:Nat} {p:List Int} (h:Bd s p):∀ i,Ql ((Hr p i:Nat):Int)≤s
  | 0=>by simp [Hr,Vu]
  |
   i+1=>by
   simp only [Hr]
   by_cases h0:p.getD i 0=0
   · rw [h0,Int.gcd_zero_right]; exact Sv h i
   · have h1:=Int.gcd_dvd_right (Hr p i:Nat) (p.getD i 0)
     have h2:(Int.gcd (Hr p i:Nat) (p.getD i 0))≤(p.getD i 0).natAbs:=Nat.le_of_dvd (by omega) (by simpa using Int.natAbs_dvd_natAbs.2 h1)
     have h3:=Qq h i
     rw [J3] at h3 ⊢
     simp only [Int.natAbs_natCast]
     omega
theorem Qsb {p:List Int} {j i:Nat} (hj:j<i) (h:p.getD j 0≠0):0<Hr p i:=by
  have:=Ll p hj
  rcases Nat.eq_zero_or_pos (Hr p i) with h0 | h0
  · rw [h0] at this
    exact absurd (Int.zero_dvd.1 this) h
  · exact h0
theorem Qh5 {p:List Int} (ht:Qj p) (h:0<p.length):0<Na p:=Qsb (j:=p.length-1) (by omega) (Xm ht h)
def Kb (p:List Int):Int:=if Zg p<0 then -((Na p:Nat):Int) else ((Na p:Nat):Int)
def Xw (p:List Int):List Int:=Vn p.length fun i=>p.getD i 0 / Kb p
def Vo (p:List Int):List Int:=if Zg p<0 then Vg (Xw p) else Xw p
theorem Qso (p:List Int) (j:Nat):Kb p∣p.getD j 0:=by
  unfold Kb
  split
  · exact Int.neg_dvd.2 (Qh4 p j)
  · exact Qh4 p j
theorem Qwx {p:List Int} (ht:Qj p) (h:0<p.length):Kb p≠0:=by
  have:=Qh5 ht h
  unfold Kb
  split <;> omega
theorem Qcu {s:Nat} {p:List Int} (h:Bd s p):Ql (Kb p)≤s:=by
  unfold Kb
  split
  · rw [Z8]; exact Sv h _
  · exact Sv h _
theorem Qm9 {p:List Int} {c:Int} (hc:c≠0) (hd:∀ j,c∣p.getD j 0):Vq (zp p) (1 / (c:Rat))=zp (Vn p.length fun i=>p.getD i 0 / c):=by
  unfold Vq Vn
  rw [Oa (g:=fun i=>p.getD i 0 / c) _ fun i _=>?_,We,J6]
  obtain ⟨k,hk⟩:=hd i
  have hc':(c:Rat)≠0:=fun e=>hc (by exact_mod_cast e)
  rw [D8,hk,Int.mul_ediv_cancel_left _ hc,Rat.intCast_mul]
  grind
theorem Oi {s:Nat} {p:List Int} (h:Bd s p):Bd s (Xw p):=Me fun i _=>Nat.le_trans (Pe _ _) (Qq h i)
theorem Ec (p:List Int):(Xw p).length≤p.length:=Hw _ _
theorem Qrq {s:Nat} {p:List Int} (h:Bd s p):Bd s (Vo p):=by
  unfold Vo
  split
  · exact A9 (Oi h)
  · exact Oi h
theorem Ql9 (p:List Int):(Vo p).length≤p.length:=by
  unfold Vo
  split
  · exact Nat.le_trans (Pg _) (Ec p)
  · exact Ec p
inductive GRun:Nat→List Int→List Int→List Int→Prop
  | stop (a:List Int):GRun 0 a [] a
  | step {k m:Nat} {a b r g:List Int}:0<b.length→b.length≤1000→Bd 9000000 b→RRun b m a r→r.length≤1000→Bd 9000000 r→Qj r→GRun k b (Xw r) g→GRun (k+1) a b g
theorem GRun.inv {k:Nat} {a b g:List Int} (h:GRun k a b g):(k=0∧b.length=0∧a=g)∨∃ j m r,k=j+1∧0<b.length∧b.length≤1000∧Bd 9000000 b∧RRun b m a r∧r.length≤1000∧Bd 9000000 r∧Qj r∧GRun j b (Xw r) g:=by
  cases h with
  | stop=>exact .inl ⟨rfl,rfl,rfl⟩
  | step h1 h2 h3 h4 h5 h6 h7 h8=>exact .inr ⟨_,_,_,rfl,h1,h2,h3,h4,h5,h6,h7,h8⟩
def Gh (k:Nat) (p:List Int):List Int:=List.replicate k 0++p
theorem Qnc (k:Nat) (p:List Int):(Gh k p).length=k+p.length:=by simp [Gh]
theorem Qrr {s k:Nat} {p:List Int} (h:Bd s p):Bd s (Gh k p):=fun z hz=>by
  rcases List.mem_append.1 hz with h1 | h1
  · rw [List.eq_of_mem_replicate h1,Vu]; exact Nat.zero_le _
  · exact h z h1
inductive DRun (b:List Int):Nat→List Int→List Int→List Int→List Int→Prop
  | stop {a q:List Int}:a.length<b.length→DRun b 0 a q q a
  | step {k:Nat} {a q qf r:List Int}:b.length≤a.length→a.length≤1000→Bd 9000000 a→Zg b≠0→Zg b∣Zg a→a.length-b.length<q.length →
      DRun b k (Vp a (Gh (a.length-b.length) (Qx b (Zg a / Zg b)))) (q.set (a.length-b.length) (Zg a / Zg b)) qf r→DRun b (k+1) a q qf r
theorem DRun.inv {b a q qf r:List Int} {k:Nat} (h:DRun b k a q qf r):(k=0∧q=qf∧a=r∧a.length<b.length)∨∃ j,k=j+1∧b.length≤a.length∧a.length≤1000∧Bd 9000000 a∧Zg b≠0∧Zg b∣Zg a∧a.length-b.length<q.length ∧
    DRun b j (Vp a (Gh (a.length-b.length) (Qx b (Zg a / Zg b)))) (q.set (a.length-b.length) (Zg a / Zg b)) qf r:=by
  cases h with
  | stop h=>exact .inl ⟨rfl,rfl,rfl,h⟩
  | step h1 h2 h3 h4 h5 h6 h7=>exact .inr ⟨_,rfl,h1,h2,h3,h4,h5,h6,h7⟩
def Vl (l:List (List Int)):List Int:=l.getD (l.length-1) []
inductive LRun:Nat→List (List Int)→List (List Int)→Prop
  | stop {l:List (List Int)}:(Vl l).length≤1→LRun 0 l l
  | step {k m:Nat} {l f:List (List Int)} {g:List Int}:1<(Vl l).length→(Vl l).length≤1000→Qj (Vl l)→Bd 9000000 (Vl l)→Bd 9000000 (Zn (Vl l))→GRun m (Xw (Vl l)) (Xw (Zn (Vl l))) g→l.length≤1000→LRun k (l++[g]) f→LRun (k+1) l f
theorem LRun.inv {k:Nat} {l f:List (List Int)} (h:LRun k l f):(k=0∧l=f∧(Vl l).length≤1)∨∃ j m g,k=j+1∧1<(Vl l).length∧(Vl l).length≤1000∧Qj (Vl l)∧Bd 9000000 (Vl l)∧Bd 9000000 (Zn (Vl l))∧GRun m (Xw (Vl l)) (Xw (Zn (Vl l))) g∧l.length≤1000∧LRun j (l++[g]) f:=by
  cases h with
  | stop h=>exact .inl ⟨rfl,rfl,h⟩
  | step h1 h2 h3 h4 h5 h6 h7 h8=>exact .inr ⟨_,_,_,rfl,h1,h2,h3,h4,h5,h6,h7,h8⟩
def DOk (a b q:List Int):Prop:=0<b.length∧b.length≤1000∧a.length≤1000∧Bd 9000000 b∧∃ qf r n,Bd 9000000 qf∧qf.length≤1000∧DRun b n a (List.replicate (a.length+1-b.length) 0) qf r∧q=trim qf
theorem DOk.bd {a b q:List Int} (h:DOk a b q):Bd 9000000 q:=by
  obtain ⟨_,_,_,_,qf,r,n,h1,_,_,rfl⟩:=h
  exact Jo h1
theorem DOk.len {a b q:List Int} (h:DOk a b q):q.length≤1000:=by
  obtain ⟨_,_,_,_,qf,r,n,_,h1,_,rfl⟩:=h
  exact Nat.le_trans (Xl _) h1
theorem DOk.trim {a b q:List Int} (h:DOk a b q):Qj q:=by
  obtain ⟨_,_,_,_,qf,r,n,_,_,_,rfl⟩:=h
  exact Xv _
def Q9m (a b c f:List Int):Prop:=∃ x y z,DOk a b x∧DOk b c y∧DOk (Xw x) (Xw y) z∧f=Xw z
structure FRun (a:List Int) (m:Nat) (f:Nat→List Int):Prop where
  run:∃ n l,LRun n [Xw a] l∧l.length=m+1∧∀ k,k<m→Q9m ((l++[[1]]).getD k []) ((l++[[1]]).getD (k+1) []) ((l++[[1]]).getD (k+2) []) (f k)
  small:m≤1000
def Qbw (f:Nat→List Int) (n:Nat):List (List Int):=(List.range n).map f
theorem Qke (f:Nat→List Int) (n:Nat):(Qbw f n).length=n:=by simp [Qbw]
theorem Qto (f:Nat→List Int) (n:Nat):Qbw f (n+1)=Qbw f n++[f n]:=by simp [Qbw,List.range_succ]
theorem Q0e {f:Nat→List Int} {n i:Nat} (h:i<n):(Qbw f n)[i]? = some (f i):=by simp [Qbw,List.getElem?_range h]
theorem Ql4 {l:List (List Int)} {i:Nat} (h:i<l.length):l[i]? = some (l.getD i []):=by
  rw [List.getD_eq_getElem?_getD,List.getElem?_eq_getElem h]; rfl
def Rf (f:Nat→List Int):Nat→List Int
  | 0=>[1]
  | i+1=>Zh (Rf f i) (f i)
def Q9l (m:Nat) (f:Nat→List Int):Prop:=∀ i,i<m→Bd 9000000 (Rf f i)∧(Rf f i).length≤1000∧Bd 9000000 (f i)∧(f i).length≤1000
inductive CRun:Nat→List (List Int)→List Int→List (List Int)→Prop
  | stop {l:List (List Int)} {g:List Int}:g.length=0→CRun 0 l g l
  | step {k m:Nat} {l f:List (List Int)} {g r:List Int}:0<g.length→g.length≤1000→Bd 9000000 g→RRun g m (Vl l) r→Qj r→Bd 9000000 r→r.length≤1000→0<l.length→l.length≤1000→CRun k (l++[g]) (Vg (Vo r)) f→CRun (k+1) l g f
theorem CRun.inv {k:Nat} {l f:List (List Int)} {g:List Int} (h:CRun k l g f):(k=0∧l=f∧g.length=0)∨∃ j m r,k=j+1∧0<g.length∧g.length≤1000∧Bd 9000000 g∧RRun g m (Vl l) r∧Qj r∧Bd 9000000 r∧r.length≤1000∧0<l.length∧l.length≤1000∧CRun j (l++[g]) (Vg (Vo r)) f:=by
  cases h with
  | stop h=>exact .inl ⟨rfl,rfl,h⟩
  | step h1 h2 h3 h4 h5 h6 h7 h8 h9 h10=>exact .inr ⟨_,_,_,rfl,h1,h2,h3,h4,h5,h6,h7,h8,h9,h10⟩
structure ChRun (a:List Int) (sq:List Int) (c:List (List Int)):Prop where
  fac:∃ m f,FRun a m f∧Q9l m f∧sq=Rf f m
  Hq:∃ n,CRun n [sq] (Vo (Zn sq)) c
  bd:Bd 8000000 sq
  len:sq.length≤1000
  small:c.length≤1000
def Qnv (q:Rat) (c:List (List Int)):Prop:=∃ sq,ChRun [-q.num,(q.den:Int)] sq c
end Orr

namespace Orr
open Go Go.Proofs
set_option maxRecDepth 10000
theorem RRun.inv {b a r:List Int} {k:Nat} (h:RRun b k a r):(k=0∧a=r∧a.length<b.length)∨(∃ j,k=j+1∧b.length≤a.length∧a.length≤1000∧Bd 9000000 a∧Bd 9000000 b∧RRun b j (Qd4 a b) r):=by
  cases h with
  | stop h=>exact .inl ⟨rfl,rfl,h⟩
  | step h1 h2 h3 h4 h5=>exact .inr ⟨_,rfl,h1,h2,h3,h4,h5⟩
theorem Q4e {a b:List Int} (ha:Bd 9000000 a):Ql (P3 a b)≤9000000:=by
  unfold P3; split
  · rw [Z8]; exact Qq ha _
  · exact Qq ha _
theorem Q4a (n:Nat):ri (n:Int)=[nd n,.bool false]:=by
  show [nd n,sg (n:Int)]=_
  unfold sg
  rw [decide_eq_false (by omega)]
def Qgn (a b:List Int) (n:Nat):List Int:=(List.range n).map (Hi a b)
theorem Qzn (a b:List Int) (n:Nat):(Qgn a b n).length=n:=by simp [Qgn]
theorem Qd5 (a b:List Int) (n:Nat):Qgn a b (n+1)=Qgn a b n++[Hi a b n]:=by simp [Qgn,List.range_succ]
theorem Qom {a0 b res:List Int} {n:Nat} (hb0:0<b.length) (hb1:b.length≤1000) (hbb0:Bd 9000000 b) (hrun:RRun b n a0 res):Qd Tryz.prog 254 [.one (rp (zp a0)),.one (rp (zp b))] [.one (rp (zp res))]:=by
  have hbl:=Il b
  have hle:Ql (((Zg b).natAbs:Nat):Int)≤9000000:=Qq hbb0 _
  refine Z7 Tryz.func254 rfl ?_
  refine go tt [.r 15 (eI (b:=((b.length-1:Nat):Int)) (by omega)),.x (Je (p:=b) (i:=b.length-1) (by omega))] rfl (by simp [Qa]; omega) ?_
  refine sb [(0,.v (.one (rp (zp a0)))),(1,.v (.one (rp (zp b)))),(5,.v (.one (.ow 0 0))),(6,.v (.one (.ow 1 0)))] [.blk 47 (ri (Zg b)),.blk 47 [nd (Zg b).natAbs,.bool false]] rfl rfl ?_
  refine lp (S:=Nat×List Int) 2 (fun L1 s=>(0,.v (.one (rp (zp s.2))))::L1) (fun _=>[.blk 47 (ri (Zg b)),.blk 47 [nd (Zg b).natAbs,.bool false]]) (fun s=>s.1) (fun s=>RRun b s.1 s.2 res) (n,a0) hrun rfl (fun _ _=>rfl) rfl fun ⟨k,a⟩ hs=>?_
  have hal:=Il a
  have hs:RRun b k a res:=hs
  rcases RRun.inv hs with ⟨rfl,rfl,h1⟩ | ⟨j,rfl,h1,h2,ha,hb,hr⟩
  · exact en tt [.f (decide_eq_false (by dsimp only; omega))] rfl rfl trivial
  obtain ⟨K,hK⟩:∃ K,K=a.length-b.length:=⟨_,rfl⟩
  have htb:=Q4e (b:=b) ha
  have cc:=Ss (p:=zp (Qgn a b a.length))
  rw [We,show trim (Qgn a b a.length)=Qd4 a b from rfl] at cc
  refine go tt [.t (decide_eq_true (by dsimp only; omega)),.r 30 (eI (b:=(K:Int)) (by dsimp only; omega)),.r 34 (eI (b:=((a.length-1:Nat):Int)) (by dsimp only; omega)),.x (Je (p:=a) (i:=a.length-1) (by omega))] rfl (by simp [Qa]; omega) ?_
  refine ct 1 (S:=Unit) (fun _=>[(0,.v (.one (rp (zp a)))),(1,.v (.one (rp (zp b)))),(5,.v (.one (.ow 0 0))),(6,.v (.one (.ow 1 0))),(7,.v (.one (.int .i64 (K:Int)))),(8,.v (.one (.ow 2 0)))]) (fun _=>[.blk 47 (ri (Zg b)),.blk 47 [nd (Zg b).natAbs,.bool false],.blk 47 (ri (P3 a b))]) (fun _=>True) rfl ?_ (fun _ _=>?_)
  · by_cases hn:Zg b<0
    · have e:P3 a b=-(Zg a):=if_pos hn
      rw [e]
      exact go tt [.t (decide_eq_true hn),.c [] (Rw (z:=Zg a))] rfl trivial (rc () trivial rfl)
    · have e:P3 a b=Zg a:=if_neg hn
      rw [e]
      exact go tt [.f (decide_eq_false hn)] rfl trivial (rc () trivial rfl)
  refine go tt [.o 9 49 4] rfl trivial ?_
  refine lp (S:=Nat) 4 (fun L1 i=>(44,.v (.one (.int .i64 (i:Int))))::(9,.v (.one (.orow 3 4 none)))::L1) (fun i=>[.blk 47 (ri (Zg b)),.blk 47 [nd (Zg b).natAbs,.bool false],.blk 47 (ri (P3 a b)),.row false 49 4 (frow (zp (Qgn a b i)))]) (fun i=>a.length-i) (fun i=>i≤a.length) 0 (Nat.zero_le _) rfl (fun _ _=>rfl) rfl fun i hi=>?_
  have hfl:=Il (Qgn a b i)
  rw [Qzn] at hfl
  by_cases h:i<a.length
  · have cm:=Yx (a:=a.getD i 0) (b:=(((Zg b).natAbs:Nat):Int)) (Nat.le_trans (Qq ha i) (by decide)) (by omega)
    have hm:=Q3 (a.getD i 0) (((Zg b).natAbs:Nat):Int)
    have hai:=Qq ha i
    rw [Q4a (Zg b).natAbs] at cm
    by_cases hk:K≤i
    · have hbi:=Qq hb (i-K)
      have hm2:=Q3 (P3 a b) (b.getD (i-K) 0)
      have e:Hi a b i=a.getD i 0*(((Zg b).natAbs:Nat):Int)-P3 a b*b.getD (i-K) 0:=by unfold Hi; rw [if_pos (by omega),hK]
      refine go tt [.t (decide_eq_true (by omega)),.x (Je h),.c [] cm,.t (decide_eq_true (by omega)),.r 62 (eI (b:=((i-K:Nat):Int)) (by omega)),.x (Je (p:=b) (i:=i-K) (by omega)),.c [] (Yx (a:=P3 a b) (b:=b.getD (i-K) 0) (by omega) (by omega)),.c [] (Qvd (by omega) (by omega)),.c [] (Uv (n:=1) (by decide)),.c [] (Vr (n:=a.getD i 0*(((Zg b).natAbs:Nat):Int)-P3 a b*b.getD (i-K) 0)),.s (sz:=4) (Qmj _)] rfl (by simp [Qa,hfl,-List.getD_eq_getElem?_getD] <;> omega) ?_
      exact rd (i+1) (by omega) h (by rw [Qd5,Qhc,e]; rfl)
    · have e:Hi a b i=a.getD i 0*(((Zg b).natAbs:Nat):Int):=by unfold Hi; rw [if_neg (by omega),Int.sub_zero]
      refine go tt [.t (decide_eq_true (by omega)),.x (Je h),.c [] cm,.f (decide_eq_false (by omega)),.c [] (Uv (n:=1) (by decide)),.c [] (Vr (n:=a.getD i 0*(((Zg b).natAbs:Nat):Int))),.s (sz:=4) (Qmj _)] rfl (by simp [Qa,hfl,-List.getD_eq_getElem?_getD] <;> omega) ?_
      exact rd (i+1) (by omega) h (by rw [Qd5,Qhc,e]; rfl)
  · have e:i=a.length:=by omega
    rw [e]
    exact go tt [.f (decide_eq_false (by omega)),.c [] cc] rfl trivial (rd (j,Qd4 a b) (by omega) hr rfl)
theorem Q66:Qd Tryz.prog 47 [.agg (ri 1),.agg (ri 1)] [.agg (ri 1)]:=Yx (a:=1) (b:=1) (by decide) (by decide)
theorem Q15:Qd Tryz.prog 141 [.agg (ri 1),.agg (ri 1)] [.agg (ri 1)]:=Ou (a:=1) (b:=1) (by decide) (by decide)
theorem Q1t {z:Int} (hz:Ql z≤90000000):Qd Tryz.prog 47 [.agg (ri z),.agg (ri 1)] [.agg (ri z)]:=by
  have h:=Yx (a:=z) (b:=1) (by omega) (by decide)
  rwa [Int.mul_one] at h
theorem Qoa {z:Int} (hz:Ql z≤90000000):Qd Tryz.prog 142 [.agg (ri z),.agg (ri 1)] [.agg (ri z)]:=by
  have h:=Lj (a:=z) (b:=1) hz (by decide) (by decide) (Int.emod_one z)
  rwa [Int.ediv_one] at h
theorem Qus {z:Int}:Qd Tryz.prog 206 [.agg (fr (z:Rat))] [.agg (fr ((-z:Int):Rat))]:=by
  have h:=Q6y (a:=(z:Rat))
  rwa [←Rat.intCast_neg] at h
theorem Q8g {c:Int} (hc:c≠0) (hs:Ql c≤9000000):Qs 40000000 (((1:Int):Rat) / (c:Rat)):=by
  have h0:(c:Rat)≠0:=fun e=>hc (by exact_mod_cast e)
  rw [←Qdy h0]
  unfold Zu
  rw [if_neg (Int.mul_ne_zero (Wq _) (fun e=>hc (by simpa using e)))]
  refine Qs.divInt (by show Ql (1*1)≤_; decide) ?_ (by decide)
  show Ql (1*c)≤_
  rw [Int.one_mul]; omega
theorem Qle {p:List Int} {c:Int} (hc:c≠0) (hs:Ql c≤9000000) (hd:∀ j,c∣p.getD j 0) (hp:Bd 9000000 p) (hl:p.length≤1000):Qd Tryz.prog 248 [.one (rp (zp p)),.agg (fr (((1:Int):Rat) / (c:Rat)))] [.one (rp (zp (Vn p.length fun i=>p.getD i 0 / c)))]:=by
  have h:=Hp ((Sa hp (by omega)).mono (by omega)) (Q8g hc hs) (by rw [J6]; omega)
  rwa [show ((1:Int):Rat)=1 from rfl,Qm9 hc hd] at h
theorem Ry {p:List Int} (tp:Qj p) (hp:Bd 9000000 p) (hl:p.length≤1000):Qd Tryz.prog 284 [.one (rp (zp p))] [.agg (fr ((Kb p:Int):Rat)),.one (rp (zp (Xw p)))]:=by
  have hpl:=Il p
  rcases Nat.eq_zero_or_pos p.length with h0 | h0
  · have e:=List.eq_nil_of_length_eq_zero h0
    subst e
    exact w tt Tryz.func284 rfl [.t rfl,.c [] Qvc] rfl rfl trivial
  have hc:=Qwx tp h0
  refine Z7 Tryz.func284 rfl ?_
  refine go tt [.f (decide_eq_false (by omega)),.c [] (Uv (n:=1) (by decide))] rfl trivial ?_
  refine lp (S:=Nat) 2 (fun L1 i=>(16,.v (.one (.int .i64 (i:Int))))::L1) (fun i=>[.blk 49 [.nils,.bool false,.nils,.bool false],.blk 47 (ri 1)]) (fun i=>p.length-i) (fun i=>i≤p.length) 0 (Nat.zero_le _) rfl (fun _ _=>rfl) rfl fun i hi=>?_
  by_cases h:i<p.length
  · refine go tt [.t (decide_eq_true (by omega)),.x (Je h),.c [] Q66,.x (Je h),.c [] Q15,.c [] (Qoa (z:=1) (by decide))] rfl (by simp [Qa]; omega) ?_
    exact rd (i+1) (by omega) h rfl
  refine go tt [.f (decide_eq_false (by omega))] rfl trivial ?_
  clear h hi
  refine nlb 2 rfl rfl rfl ?_
  rw [Qqx]
  refine lp (S:=Nat) 3 (fun L1 i=>(37,.v (.one (.int .i64 (i:Int))))::L1) (fun i=>[.blk 49 [.nils,.bool false,.nils,.bool false],.blk 47 (ri 1),.blk 47 (ri ((Hr p i:Nat):Int))]) (fun i=>p.length-i) (fun i=>i≤p.length) 0 (Nat.zero_le _) rfl (fun _ _=>rfl) rfl fun i hi=>?_
  by_cases h:i<p.length
  · have hb:=Qq hp i
    have hg:=Sv hp i
    refine go tt [.t (decide_eq_true (by omega)),.x (Je h),.c [] (Q1t (z:=p.getD i 0) (by omega)),.x (Je h),.c [] (Qoa (z:=p.getD i 0) (by omega)),.c [] (Ou (a:=((Hr p i:Nat):Int)) (b:=p.getD i 0) (by omega) (by omega))] rfl (by simp [Qa]; omega) ?_
    exact rd (i+1) (by omega) h rfl
  have e:i=p.length:=by omega
  rw [e]
  have co:=Np (n:=1) (by decide)
  have cs:=Qle hc (Qcu hp) (Qso p) hp hl
  by_cases hn:Zg p<0
  · have e2:Kb p=-((Na p:Nat):Int):=if_pos hn
    rw [show (fun i=>p.getD i 0 / Kb p)=fun i=>p.getD i 0 / Kb p from rfl] at cs
    have cn:=Qus (z:=((Na p:Nat):Int))
    rw [←e2] at cn
    exact en tt [.f (decide_eq_false (by omega)),.c [] (Vr (n:=((Na p:Nat):Int))),.r 62 (eI (b:=((p.length-1:Nat):Int)) (by omega)),.x (Je (p:=p) (i:=p.length-1) (by omega)),.t (decide_eq_true hn),.c [] cn,.c [] co,.c [] (Qld (a:=((1:Int):Rat)) (b:=((Kb p:Int):Rat)) ⟨by decide,by decide⟩ (Us (by have:=Qcu hp; omega) (by decide)) (fun e=>hc (by exact_mod_cast e))),.c [] cs] rfl rfl (by simp [Qa]; omega)
  · have e2:Kb p=((Na p:Nat):Int):=if_neg hn
    have cm:=Vr (n:=Kb p)
    rw [e2] at cm cs hc ⊢
    exact en tt [.f (decide_eq_false (by omega)),.c [] cm,.r 62 (eI (b:=((p.length-1:Nat):Int)) (by omega)),.x (Je (p:=p) (i:=p.length-1) (by omega)),.f (decide_eq_false hn),.c [] co,.c [] (Qld (a:=((1:Int):Rat)) (b:=((((Na p:Nat):Int):Int):Rat)) ⟨by decide,by decide⟩ (Us (by have:=Sv hp p.length; unfold Na; omega) (by decide)) (fun e=>hc (by exact_mod_cast e))),.c [] cs] rfl (by unfold Xw; rw [e2]; rfl) (by simp [Qa]; omega)
theorem Rx {p:List Int} (tp:Qj p) (hp:Bd 9000000 p) (hl:p.length≤1000):Qd Tryz.prog 305 [.one (rp (zp p))] [.one (rp (zp (Xw p)))] :=
  w tt Tryz.func305 rfl [.c [] (Ry tp hp hl)] rfl rfl trivial
theorem Qcv {p:List Int} (tp:Qj p):Kb p<0↔Zg p<0:=by
  unfold Kb
  rcases Nat.eq_zero_or_pos p.length with h0 | h0
  · have:=List.eq_nil_of_length_eq_zero h0; subst this; decide
  · have:=Qh5 tp h0
    split <;> omega
theorem Qvk {p:List Int} (hp:Bd 9000000 p) (hl:p.length≤1000000):Qd Tryz.prog 253 [.one (rp (zp p))] [.one (rp (zp (Vg p)))]:=by
  have h:=Qln ((Sa hp (by decide)).mono (by decide)) (by rw [J6]; exact hl)
  rwa [Qqy] at h
theorem Qhu {p:List Int} (tp:Qj p) (hp:Bd 9000000 p) (hl:p.length≤1000):Qd Tryz.prog 251 [.one (rp (zp p))] [.one (rp (zp (Vo p)))]:=by
  by_cases hn:Zg p<0
  · have e:Vo p=Vg (Xw p):=if_pos hn
    rw [e]
    exact w tt Tryz.func251 rfl [.c [] (Ry tp hp hl),.t (decide_eq_true ((Qcv tp).2 hn)),.c [] (Qvk (Oi hp) (Nat.le_trans (Ec p) (by omega)))] rfl rfl trivial
  · have e:Vo p=Xw p:=if_neg hn
    rw [e]
    exact w tt Tryz.func251 rfl [.c [] (Ry tp hp hl),.f (decide_eq_false fun h=>hn ((Qcv tp).1 h))] rfl rfl trivial
end Orr

namespace Orr
theorem Hx (f:Nat→Int):Vn 1 f=trim [f 0]:=rfl
theorem Qah (f:Nat→Int):Vn 2 f=trim [f 0,f 1]:=rfl
theorem Dy (x:Int):trim [x]=if x=0 then [] else [x]:=rfl
theorem Qef (x y:Int):trim [x,y]=if y=0 then trim [x] else [x,y]:=by
  simp only [trim]; split <;> split <;> simp_all
theorem bd1 {s:Nat} {x:Int} (h:Ql x≤s):Bd s [x]:=fun z hz=>by simp at hz; subst hz; exact h
theorem bd2 {s:Nat} {x y:Int} (h:Ql x≤s) (h':Ql y≤s):Bd s [x,y]:=fun z hz=>by
  simp only [List.mem_cons,List.not_mem_nil,or_false] at hz
  rcases hz with rfl | rfl <;> assumption
section
variable {x d:Int} (hd:0<d) (hg:Int.gcd x d=1) (hx:Ql x≤1000000) (hs:Ql d≤1000000)
theorem b1 {s:Nat} (h:1≤s):Bd s [1]:=bd1 (Nat.le_trans (show Ql 1≤1 by decide) h)
include hd in
theorem De (hg:Int.gcd x d=1):Xw [x,d]=[x,d]:=by
  have hc:Kb [x,d]=1:=by
    have h1:Na [x,d]=1:=by
      show Int.gcd (Int.gcd ((0:Nat):Int) x:Nat) d=1
      rw [show Int.gcd ((0:Nat):Int) x=x.natAbs by simp,show Int.gcd ((x.natAbs:Nat):Int) d=Int.gcd x d by simp [Int.gcd],hg]
    unfold Kb
    rw [if_neg (show ¬Zg [x,d]<0 from by show ¬d<0; omega),h1]; rfl
  unfold Xw
  rw [hc]
  show Vn 2 _=_
  rw [Qah,Qef]
  show (if d / 1=0 then _ else [x / 1,d / 1])=_
  rw [Int.ediv_one,if_neg (by omega),Int.ediv_one]
theorem Qyq:Xw [1]=[1]:=by decide
include hd in
theorem Qbj:Xw [d]=[1]:=by
  have hc:Kb [d]=d:=by
    have h1:((Na [d]:Nat):Int)=d:=by
      show ((Int.gcd ((0:Nat):Int) d:Nat):Int)=d
      simp; omega
    unfold Kb
    rw [if_neg (show ¬Zg [d]<0 from by show ¬d<0; omega),h1]
  unfold Xw
  rw [hc]
  show Vn 1 _=_
  rw [Hx,Dy]
  show (if d / d=0 then _ else [d / d])=_
  rw [Int.ediv_self (by omega)]; rfl
include hd in
theorem Qe3:Zn [x,d]=[d]:=by
  show Vn 1 _=_
  rw [Hx,Dy]
  show (if d*1=0 then _ else [d*1])=_
  rw [Int.mul_one,if_neg (by omega)]
include hd hx hs in
theorem Qj2:∃ m,RRun [1] m [x,d] []:=by
  have h1:Qd4 [x,d] [1]=trim [x]:=by
    show Vn 2 _=_
    rw [Qah,Qef]
    have e1:Hi [x,d] [1] 1=0:=by
      show d*1-(if 1≤1 then P3 [x,d] [1]*1 else 0)=0
      have:P3 [x,d] [1]=d:=by unfold P3; rw [if_neg (by decide)]; rfl
      rw [this]; simp
    have e0:Hi [x,d] [1] 0=x:=by
      show x*1-(if 1≤0 then _ else 0)=x
      simp
    rw [e1,if_pos rfl,e0]
  have hb:Bd 9000000 [x,d]:=bd2 (by omega) (by omega)
  by_cases h0:x=0
  · refine ⟨1,.step (by show 1≤2; decide) (by show 2≤1000; decide) hb (b1 (by decide)) ?_⟩
    rw [h1,h0]
    exact .stop (by decide)
  · refine ⟨2,.step (by show 1≤2; decide) (by show 2≤1000; decide) hb (b1 (by decide)) ?_⟩
    rw [h1,Dy,if_neg h0]
    refine .step (Nat.le_refl 1) (by show 1≤1000; decide) (bd1 (by omega)) (b1 (by decide)) ?_
    have h2:Qd4 [x] [1]=[]:=by
      show Vn 1 _=_
      rw [Hx,Dy]
      have e0:Hi [x] [1] 0=0:=by
        show x*1-(if 0≤0 then P3 [x] [1]*1 else 0)=0
        have:P3 [x] [1]=x:=by unfold P3; rw [if_neg (by decide)]; rfl
        rw [this]; simp
      rw [e0,if_pos rfl]
    rw [h2]
    exact .stop (by decide)
include hd hx hs in
theorem Qxh:∃ m,GRun m [x,d] [1] [1]:=by
  obtain ⟨m,h⟩:=Qj2 hd hx hs
  exact ⟨1,.step (by decide) (by decide) (b1 (by decide)) h (by decide) Sp rfl (by rw [show Xw []=[] by decide]; exact .stop _)⟩
theorem Qtb (c:Int):Vp [c] [c]=[]:=by
  show Vn 1 _=_
  rw [Hx,Dy]
  show (if c-c=0 then _ else _)=_
  rw [if_pos (by omega)]
include hd hx hs in
theorem Qo3:DOk [x,d] [1] [x,d]:=by
  refine ⟨by decide,by decide,by show 2≤1000; decide,b1 (by decide),[x,d],[],?_⟩
  have hpl:Zg [x,d] / Zg [1]=d:=by show d / 1=d; rw [Int.ediv_one]
  have hsc:Qx [1] d=[d]:=by
    show Vn 1 _=_
    rw [Hx,Dy]
    show (if 1*d=0 then _ else [1*d])=_
    rw [Int.one_mul,if_neg (by omega)]
  have hsub:Vp [x,d] (Gh 1 [d])=trim [x]:=by
    show Vn 2 _=_
    rw [Qah,Qef]
    show (if d-d=0 then trim [x-0] else _)=_
    rw [if_pos (by omega),Int.sub_zero]
  have hb:Bd 9000000 [x,d]:=bd2 (by omega) (by omega)
  have ht:trim [x,d]=[x,d]:=by rw [Qef,if_neg (by omega)]
  by_cases h0:x=0
  · refine ⟨1,hb,by show 2≤1000; decide,?_,ht.symm⟩
    refine .step (by show 1≤2; decide) (by show 2≤1000; decide) hb (by decide) (by show (1:Int)∣d; exact Int.one_dvd d) (by show 1<2; decide) ?_
    rw [hpl,hsc,show [x,d].length-[(1:Int)].length=1 from rfl,hsub,Dy,if_pos h0]
    show DRun [1] 0 [] [0,d] [x,d] []
    rw [h0]; exact .stop (by decide)
  · refine ⟨2,hb,by show 2≤1000; decide,?_,ht.symm⟩
    refine .step (by show 1≤2; decide) (by show 2≤1000; decide) hb (by decide) (by show (1:Int)∣d; exact Int.one_dvd d) (by show 1<2; decide) ?_
    rw [hpl,hsc,show [x,d].length-[(1:Int)].length=1 from rfl,hsub,Dy,if_neg h0]
    refine .step (by show 1≤1; decide) (by show 1≤1000; decide) (bd1 (by omega)) (by decide) (by show (1:Int)∣x; exact Int.one_dvd x) (by show 0<2; decide) ?_
    have hpl2:Zg [x] / Zg [1]=x:=by show x / 1=x; rw [Int.ediv_one]
    have hsc2:Qx [1] x=[x]:=by
      show Vn 1 _=_
      rw [Hx,Dy]
      show (if 1*x=0 then _ else [1*x])=_
      rw [Int.one_mul,if_neg h0]
    rw [hpl2,hsc2,show [x].length-[(1:Int)].length=0 from rfl,show Gh 0 [x]=[x] from rfl,Qtb]
    exact .stop (by decide)
theorem div_one:DOk [1] [1] [1]:=by
  refine ⟨by decide,by decide,by decide,b1 (by decide),[1],[],1,b1 (by decide),by decide,?_,by decide⟩
  refine .step (by decide) (by decide) (b1 (by decide)) (by decide) (by decide) (by decide) ?_
  exact .stop (by decide)
include hd hg hx hs in
theorem Qw0:FRun [x,d] 1 (fun _=>[x,d]):=by
  obtain ⟨m,hm⟩:=Qxh (x:=x) hd hx hs
  refine ⟨⟨1,[[x,d],[1]],?_,rfl,?_⟩,by decide⟩
  · rw [De hd hg]
    refine .step (by show 1<2; decide) (by show 2≤1000; decide) (by show trim [x,d]=[x,d]; rw [Qef,if_neg (by omega)]) (by show Bd 9000000 [x,d]; exact bd2 (by omega) (by omega)) ?_ ?_ (by show 1≤1000; decide) (m:=m) (g:=[1]) ?_
    · show Bd 9000000 (Zn [x,d])
      rw [Qe3 hd]; exact bd1 (by omega)
    · show GRun m (Xw [x,d]) (Xw (Zn [x,d])) [1]
      rw [De hd hg,Qe3 hd,Qbj hd]; exact hm
    · exact .stop (by show 1≤1; decide)
  · intro k hk
    have:k=0:=by omega
    subst this
    exact ⟨[x,d],[1],[x,d],Qo3 hd hx hs,div_one,by rw [De hd hg,Qyq]; exact Qo3 hd hx hs,(De hd hg).symm⟩
theorem Qs1 {p:List Int} (hp:Qj p) (h0:0<p.length):Zh [1] p=p:=by
  refine S0 (Z2 _ _) hp fun k=>?_
  unfold Zh
  rw [if_neg (by
   rintro (h | h); · cases h
   · omega),Fj]
  show (Kw [1] p (List.replicate (1+p.length-1) 0) 1).getD k 0=_
  simp only [Kw]
  rw [Eh _ _ _ _ _ _ (by simp),J1]
  split
  · show 0+1*p.getD (k-0) 0=_
    rw [Nat.sub_zero]; omega
  · rename_i h
    rw [List.getD_eq_getElem?_getD,List.getElem?_eq_none (by omega)]; rfl
include hd hg hx hs in
theorem Qsa:ChRun [x,d] [x,d] [[x,d],[1]]:=by
  obtain ⟨m,hm⟩:=Qj2 (x:=x) hd hx hs
  have ht:Qj [x,d]:=by show trim [x,d]=_; rw [Qef,if_neg (by omega)]
  refine ⟨⟨1,fun _=>[x,d],Qw0 hd hg hx hs,?_,?_⟩,⟨1,?_⟩,bd2 (by omega) (by omega),by show 2≤1000; decide,by show 2≤1000; decide⟩
  · intro i hi
    have:i=0:=by omega
    subst this
    exact ⟨b1 (by decide),by show 1≤1000; decide,bd2 (by omega) (by omega),by show 2≤1000; decide⟩
  · show [x,d]=Zh [1] [x,d]
    rw [Qs1 ht (by show 0<2; decide)]
  · have hz:Vo (Zn [x,d])=[1]:=by
      rw [Qe3 hd]
      unfold Vo
      rw [if_neg (show ¬Zg [d]<0 from by show ¬d<0; omega),Qbj hd]
    rw [hz]
    refine .step (by decide) (by decide) (b1 (by decide)) (m:=m) (r:=[]) hm rfl Sp (by decide) (by show 0<1; decide) (by show 1≤1000; decide) ?_
    exact .stop (by decide)
end
theorem Zaw {q:Rat} (h:Qs 1000000 q):Qnv q [[-q.num,(q.den:Int)],[1]]:=by
  refine ⟨[-q.num,(q.den:Int)],Qsa (den_pos q) ?_ (by rw [Z8]; exact h.1) h.2⟩
  rw [Int.neg_gcd]
  have:=q.reduced
  unfold Nat.Coprime at this
  simpa [Int.gcd] using this
end Orr

namespace Orr
open Go Go.Proofs
set_option maxRecDepth 10000
theorem Q67 {a b g:List Int} {n:Nat} (ta:Qj a) (tb:Qj b) (ha:Bd 9000000 a) (hb:Bd 9000000 b) (la:a.length≤1000) (lb:b.length≤1000) (hrun:GRun n (Xw a) (Xw b) g):Qd Tryz.prog 306 [.one (rp (zp a)),.one (rp (zp b))] [.one (rp (zp g))]:=by
  refine Z7 Tryz.func306 rfl ?_
  refine go tt [.c [] (Rx ta ha la),.c [] (Rx tb hb lb)] rfl trivial ?_
  refine sb [(0,.v (.one (rp (zp (Xw a))))),(1,.v (.one (rp (zp (Xw b)))))] [] rfl rfl ?_
  refine lp (S:=Nat×List Int×List Int) 0 (fun L1 s=>(0,.v (.one (rp (zp s.2.1))))::(1,.v (.one (rp (zp s.2.2))))::L1) (fun _=>[]) (fun s=>s.1) (fun s=>GRun s.1 s.2.1 s.2.2 g) (n,Xw a,Xw b) hrun rfl (fun _ _=>rfl) rfl fun ⟨k,x,y⟩ hs=>?_
  have hs:GRun k x y g:=hs
  have hyl:=Il y
  rcases hs.inv with ⟨hk,hy0,hxg⟩ | ⟨j,m2,r,hk,hy0,hy1,hyb,hrr,hrl,hrb,hrt,hgr⟩
  · rw [←hxg]
    exact en tt [.f (decide_eq_false (by dsimp only; omega))] rfl rfl trivial
  · subst hk
    refine go tt [.t (decide_eq_true (by dsimp only; omega)),.c [] (Qom (a0:=x) (b:=y) (res:=r) hy0 hy1 hyb hrr),.c [] (Rx (p:=r) hrt hrb hrl)] rfl trivial ?_
    exact rd (j,y,Xw r) (by dsimp only; omega) hgr rfl
theorem Q1v {x y:Int} (hx:Ql x≤9000000) (hy:Ql y≤9000000) (h0:y≠0) (hd:y∣x):Qd Tryz.prog 309 [.agg (fr (x:Rat)),.agg (fr (y:Rat))] [.agg (fr ((x / y:Int):Rat))]:=by
  have hy0:(y:Rat)≠0:=fun e=>h0 (by exact_mod_cast e)
  have h:=Qld (Us (s:=40000000) (z:=x) (by omega) (by omega)) (Us (s:=40000000) (z:=y) (by omega) (by omega)) hy0
  obtain ⟨k,rfl⟩:=hd
  rw [Int.mul_ediv_cancel_left _ h0]
  rwa [show (((y*k:Int):Rat)) / (y:Rat)=(k:Rat) by rw [Rat.intCast_mul]; grind] at h
theorem Qr4 {p:List Int} {c:Int} (hp:Bd 40000000 p) (hc:Ql c≤40000000) (hl:p.length≤1000000):Qd Tryz.prog 248 [.one (rp (zp p)),.agg (fr (c:Rat))] [.one (rp (zp (Qx p c)))]:=by
  have h:=Hp (Sa hp (by omega)) (Us hc (by omega)) (by rw [J6]; exact hl)
  rwa [Qd3] at h
theorem Q4o (k:Nat) (p:List Int):frow (zp (List.replicate k 0))++frow (zp p)=frow (zp (Gh k p)):=by simp [zp,Gh,frow]
theorem Qsr (l:List Int) (i:Nat) (z:Int):(frow (zp l)).set i [nd ((z:Rat)).num.natAbs,sg ((z:Rat)).num,nd (((z:Rat)).den:Int).natAbs,sg (((z:Rat)).den:Int)]=frow (zp (l.set i z)):=Qim l i z
theorem Q19 {p q:List Int} (hp:Bd 18000000 p) (hq:Bd 18000000 q) (hlp:p.length≤1000000) (hlq:q.length≤1000000):Xj Tryz.prog 208 [.one (rp (zp p)),.one (.orow 0 4 none)] [.row false 49 4 (frow (zp q))] [.one (rp (zp (Vp p q)))] [.gone]:=by
  have hn:=Qln ((Sa hq (by decide)).mono (by decide)) (by rw [J6]; exact hlq)
  have ha:=Qlk (p:=zp p) (q:=Qgk (zp q)) ((Sa hp (by decide)).mono (by decide)) ((Qza (Sa hq (by decide))).mono (by decide)) (by rw [J6]; exact hlp) (Nat.le_trans (Qj3 _) (by rw [J6]; exact hlq))
  have e:Qtf (zp p) (Qgk (zp q))=zp (Vp p q):=Qq2 p q
  rw [e] at ha
  refine Z7 Tryz.func208 rfl ?_
  exact ed tt [] [0] [.c [] hn,.c [] ha] rfl trivial
theorem Qr5 {a0 b qf rem:List Int} {n:Nat} (hb0:0<b.length) (hb1:b.length≤1000) (hl0:a0.length≤1000) (hbb:Bd 9000000 b) (hqb:Bd 9000000 qf) (hrun:DRun b n a0 (List.replicate (a0.length+1-b.length) 0) qf rem):Qd Tryz.prog 307 [.one (rp (zp a0)),.one (rp (zp b))] [.one (rp (zp (trim qf))),.one (rp (zp rem))]:=by
  have h0l:=Il a0
  have hbl:=Il b
  obtain ⟨N,hN⟩:∃ N,N=a0.length+1-b.length:=⟨_,rfl⟩
  rw [←hN] at hrun
  have cc:=Ss (p:=zp qf)
  rw [We] at cc
  refine Z7 Tryz.func307 rfl ?_
  refine go tt [.r 18 (eI (b:=(N:Int)) (by omega)),.i N,.i N,.r 21 (eI (b:=(N:Int)) (by simp))] rfl (by simp [Qa]; omega) ?_
  refine lp (S:=Nat) 1 (fun L1 i=>(22,.v (.one (.int .i64 (i:Int))))::L1) (fun i=>[.row false 49 4 (List.replicate i (fr 0)++List.replicate (N-i) zR)]) (fun i=>N-i) (fun i=>i≤N) 0 (Nat.zero_le _) rfl (fun _ _=>rfl) rfl fun i hi=>?_
  by_cases hlt:i<N
  · refine go tt [.t (decide_eq_true (by omega)),.c [] Qvc,.i i] rfl (by simp [Qa]; omega) ?_
    rw [Qfd hlt]
    exact rd (i+1) (by omega) hlt rfl
  have hiN:i=N:=by omega
  rw [hiN,Qby]
  clear hiN hlt hi
  refine go tt [.f (decide_eq_false (by omega))] rfl trivial ?_
  refine sb [(0,.v (.one (rp (zp a0)))),(1,.v (.one (rp (zp b)))),(6,.v (.one (.orow 0 4 none)))] [.row false 49 4 (frow (zp (List.replicate N 0)))] rfl rfl ?_
  refine lp (S:=Nat×List Int×List Int) 1 (fun L1 s=>(0,.v (.one (rp (zp s.2.1))))::L1) (fun s=>[.row false 49 4 (frow (zp s.2.2))]) (fun s=>s.1) (fun s=>DRun b s.1 s.2.1 s.2.2 qf rem∧s.2.2.length=N) (n,a0,List.replicate N 0) ⟨hrun,List.length_replicate⟩ rfl (fun _ _=>rfl) rfl fun ⟨k,a,q⟩ ⟨hr0,hr1⟩=>?_
  have hr0:DRun b k a q qf rem:=hr0
  have hr1:q.length=N:=hr1
  have hal:=Il a
  have hql:=Il q
  rcases hr0.inv with ⟨hk,hqf,har,hlt⟩ | ⟨j,hk,hba,hal2,hab,hpb,hpd,hkq,hrj⟩
  · subst hqf; subst har
    exact en tt [.f (decide_eq_false (by dsimp only; omega)),.c [] cc] rfl rfl trivial
  subst hk
  obtain ⟨K,hK⟩:∃ K,K=a.length-b.length:=⟨_,rfl⟩
  rw [←hK] at hrj hkq
  have hla:Ql (Zg a)≤9000000:=Qq hab _
  have hlb:Ql (Zg b)≤9000000:=Qq hbb _
  obtain ⟨c,hc⟩:∃ c,c=Zg a / Zg b:=⟨_,rfl⟩
  have cq:=Q1v hla hlb hpb hpd
  have hcs:Ql (Zg a / Zg b)≤9000000:=Nat.le_trans (Pe _ _) hla
  rw [←hc] at cq hcs hrj
  have hsl:=Qt b c
  have hqs:∀ x,(q.set K x).length=N:=fun x=>by rw [List.length_set]; exact hr1
  dsimp only
  refine go tt [.t (decide_eq_true (by omega)),.r 39 (eI (b:=(K:Int)) (by omega)),.r 43 (eI (b:=((a.length-1:Nat):Int)) (by omega)),.x (Je (p:=a) (i:=a.length-1) (by omega)),.r 49 (eI (b:=((b.length-1:Nat):Int)) (by omega)),.x (Je (p:=b) (i:=b.length-1) (by omega)),.c [] cq,.i K,.i K,.i K,.r 60 (eI (b:=(K:Int)) (by simp))] rfl (by simp [Qa,hql] <;> omega) ?_
  rw [Qsr]
  refine lp (S:=Nat) 3 (fun L1 i=>(61,.v (.one (.int .i64 (i:Int))))::L1) (fun i=>[.row false 49 4 (frow (zp (q.set K c))),.blk 49 (fr (c:Rat)),.row false 49 4 (List.replicate i (fr 0)++List.replicate (K-i) zR)]) (fun i=>K-i) (fun i=>i≤K) 0 (Nat.zero_le _) rfl (fun _ _=>rfl) rfl fun i hi=>?_
  by_cases hlt:i<K
  · refine go tt [.t (decide_eq_true (by omega)),.c [] Qvc,.i i] rfl (by simp [Qa]; omega) ?_
    rw [Qfd hlt]
    exact rd (i+1) (by omega) hlt rfl
  have hiK:i=K:=by omega
  rw [hiK,Qby]
  clear hiK hlt hi
  have hzl:=Il (List.replicate K 0)
  rw [List.length_replicate] at hzl
  have hpl:=Il (Qx b c)
  refine go tt [.f (decide_eq_false (by omega))] rfl trivial ?_
  refine sb [(10,.v (.one (.orow 2 4 none))),(9,.v (.one (.ow 1 0))),(0,.v (.one (rp (zp a)))),(1,.v (.one (rp (zp b)))),(6,.v (.one (.orow 0 4 none)))] [.row false 49 4 (frow (zp (q.set K c))),.blk 49 (fr (c:Rat)),.row false 49 4 (frow (zp (List.replicate K 0)))] rfl rfl ?_
  have p2:=Q19 (p:=a) (q:=Gh K (Qx b c)) (Qc hab (by decide)) (Qc (Qrr (Qz hbb hcs)) (by decide)) (by omega) (by rw [Qnc]; omega)
  rw [←Q4o] at p2
  refine go tt [.c [] (Qr4 (c:=c) (Qc hbb (by decide)) (by omega) (by omega)),.s (sz:=4) (Lu (zp (Qx b c))),.c [2] p2] rfl (by simp [Qa,hzl,hpl]; omega) ?_
  exact rd (j,Vp a (Gh K (Qx b c)),q.set K c) (by dsimp only; omega) ⟨hrj,hqs c⟩ rfl
end Orr
