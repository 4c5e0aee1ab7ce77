/- T24 T25 G1 G2 SortL KinL K1 K2 F6 F7 F8 F9 G3 G4 K3 K4 S1 S2 S3 R5 R6 RefGL -/
import Derived.Test.YtbnjginelkkonaaGreatPart07
import Derived.Test.YtbnjginelkkonaaGreatPart06
import Derived.Test.YtbnjginelkkonaaGreatPart05
set_option linter.all false

namespace Orq
open Orr Go
theorem Qu2:∀ {k:Nat} {a b:List Int} {l:List (List Int)},chF k a b=some l→∀ p∈l,p.length≠0
  | 0,_,_,_,h=>by cases h
  |
   k+1,a,b,l,h=>by
   simp only [chF] at h
   split at h
   · injection h with h; subst h; exact fun p hp=>by cases hp
   · rename_i h0
     obtain ⟨r,_,h⟩:=Option.bind_eq_some_iff.1 h
     obtain ⟨l',h1,h⟩:=Option.bind_eq_some_iff.1 h
     injection h with h; subst h
     intro p hp
     rcases List.mem_cons.1 hp with rfl | hp
     · exact h0
     · exact Qu2 h1 p hp
theorem Okp.pb {n s:Nat} {p:List Int} (h:Okp n s p) (hs:s≤16777216):Pb p:=⟨h.t,by have:=h.l; have:=h.z.1; omega,Qd h.b hs⟩
theorem Qq6 {p:List Int} {q:List Int} {l:List (List Int)} (hp:Pb p) (h:Hf p=some (q::l)) (hq:q.length≠0):∀ r∈q::l,Qj r∧r.length≠0:=by
  have h1:=(Orr.chain_ok hp h).2
  unfold Hf at h
  obtain ⟨a,_,h⟩:=Option.bind_eq_some_iff.1 h
  split at h
  · cases h
  · obtain ⟨d,_,h⟩:=Option.bind_eq_some_iff.1 h
    obtain ⟨l',h3,h⟩:=Option.bind_eq_some_iff.1 h
    injection h with h
    injection h with e1 e2
    subst e1; subst e2
    intro r hr
    refine ⟨(h1 r hr).t,?_⟩
    rcases List.mem_cons.1 hr with rfl | hr
    · exact hq
    · exact Qu2 h3 r hr
inductive RI (q:List Int) (L:List (List Rat)):Rat→List Tm→Rat→Prop
  | nil {lo hi:Rat} (h:lo≤hi) (hv:vv L lo=vv L hi):RI q L lo [] hi
  | cons {lo hi:Rat} {t:Tm} {l:List Tm} (h:lo≤t.lo) (hv:vv L lo=vv L t.lo) (ht:Vt (cz q) L t.lo t.hi) (hp:t.p=q) (hl:RI q L t.hi l hi):RI q L lo (t::l) hi
theorem RI.app {q:List Int} {L:List (List Rat)} {lo m hi:Rat} {l l':List Tm} (h:RI q L lo l m) (h':RI q L m l' hi):RI q L lo (l++l') hi:=by
  induction h with
  |
   nil h hv =>
   cases h' with
   | nil h2 hv2=>exact .nil (by grind) (by omega)
   | cons h2 hv2 ht hp hl=>exact .cons (by grind) (by omega) ht hp hl
  | cons h hv ht hp _ ih=>exact .cons h hv ht hp (ih h')
theorem Qu4 {D M k:Nat} {m:Rat} (h:Gr D M k m) (hM:0<M) (hs:Qm (D:Int)+Qm (M:Int)+k≤16777216):chq m=some m:=by
  have:=Qoh h hM hs
  unfold chq
  rw [if_pos ⟨this.1,this.2⟩]
theorem Ii {q:List Int} {c:List (List Int)} (hS:Ah (cz q) (c.map cz)) (tq:Qj q) (nq:q.length≤9) (hc1:q.length<2→c=[q]) {D M:Nat} (hM:0<M):∀ (k j:Nat) (lo hi:Rat),lo<hi→Gr D M j lo→Gr D M j hi→Qm (D:Int)+Qm (M:Int)+(j+k)≤16777216→(hi-lo)*((2^(Jf q q+1):Nat):Rat)≤((2^k:Nat):Rat) →
    ∃ l,Ft q c (k+1) lo hi ((vv (c.map cz) lo:Int)-(vv (c.map cz) hi:Int))=some l∧RI q (c.map cz) lo l hi∧∀ t∈l,∃ k',k'≤j+k∧Gr D M k' t.lo∧Gr D M k' t.hi:=by
  intro k
  induction k with
  |
   zero =>
   intro j lo hi hl g1 g2 hs hK
   have hle:=Fy hS hl
   have h2:vv (c.map cz) lo<vv (c.map cz) hi+2:=by
     rcases Nat.lt_or_ge (vv (c.map cz) lo) (vv (c.map cz) hi+2) with h | h
     · exact h
     · exfalso
       have lq:2≤q.length:=by
         rcases Nat.lt_or_ge q.length 2 with e | e
         · have hvv:∀ x,vv (c.map cz) x=vv (c.map cz) 0:=fun x=>by
             rcases hS with ⟨c0,hc0,hcc,hl'⟩ | ⟨g',l',k',hk,hg,hsc,hl'⟩
             · rw [hl']; simp only [vv,tc,hcc]
             · rw [hc1 e] at hl'; cases hl'
           rw [hvv lo,hvv hi] at h; omega
         · exact e
       have:=Q4f hS tq nq lq hl h
       rw [Nat.pow_zero] at hK
       have h7:((1:Nat):Rat)=1:=rfl
       rw [h7] at hK; grind
   simp only [Ft]
   by_cases e0:vv (c.map cz) lo=vv (c.map cz) hi
   · rw [if_pos (by omega)]
     exact ⟨[],rfl,.nil (Rat.le_of_lt hl) e0,fun t ht=>by cases ht⟩
   · rw [if_neg (by omega),if_pos (by omega)]
     refine ⟨[⟨q,lo,hi⟩],rfl,.cons Rat.le_refl rfl ⟨hS,hl,by show vv _ lo=vv _ hi+1; omega⟩ rfl (.nil Rat.le_refl rfl),fun t ht=>?_⟩
     rw [List.mem_singleton.1 ht]; exact ⟨j,by omega,g1,g2⟩
  |
   succ k ih =>
   intro j lo hi hl g1 g2 hs hK
   have hle:=Fy hS hl
   show ∃ l,(if (vv (c.map cz) lo:Int)-(vv (c.map cz) hi:Int)=0 then some [] else if (vv (c.map cz) lo:Int)-(vv (c.map cz) hi:Int)=1 then some [⟨q,lo,hi⟩] else (chq (mid lo hi)).bind fun m=>(Ft q c (k+1) lo m (X7 c lo m)).bind fun l=>(Ft q c (k+1) m hi ((vv (c.map cz) lo:Int)-(vv (c.map cz) hi:Int)-X7 c lo m)).bind fun r=>some (l++r))=some l∧_
   by_cases e0:vv (c.map cz) lo=vv (c.map cz) hi
   · rw [if_pos (by omega)]
     exact ⟨[],rfl,.nil (Rat.le_of_lt hl) e0,fun t ht=>by cases ht⟩
   by_cases e1:vv (c.map cz) lo=vv (c.map cz) hi+1
   · rw [if_neg (by omega),if_pos (by omega)]
     refine ⟨[⟨q,lo,hi⟩],rfl,.cons Rat.le_refl rfl ⟨hS,hl,e1⟩ rfl (.nil Rat.le_refl rfl),fun t ht=>?_⟩
     rw [List.mem_singleton.1 ht]; exact ⟨j,by omega,g1,g2⟩
   · rw [if_neg (by omega),if_neg (by omega)]
     obtain ⟨m,hm⟩:∃ m,m=(lo+hi) / 2:=⟨_,rfl⟩
     have h2:(lo+hi) / 2*2=lo+hi:=Zt (by decide)
     rw [←hm] at h2
     have gm:Gr D M (j+1) m:=by rw [hm]; exact Qwf g1 g2
     have l1:lo<m:=by grind
     have l2:m<hi:=by grind
     rw [Qlf,←hm,Qu4 gm hM (by omega)]
     show ∃ l,((Ft q c (k+1) lo m (X7 c lo m)).bind fun l=>(Ft q c (k+1) m hi ((vv (c.map cz) lo:Int)-(vv (c.map cz) hi:Int)-X7 c lo m)).bind fun r=>some (l++r))=some l∧_
     rw [Ra (Rat.le_of_lt l1),show (vv (c.map cz) lo:Int)-(vv (c.map cz) hi:Int)-((vv (c.map cz) lo:Int)-(vv (c.map cz) m:Int))=(vv (c.map cz) m:Int)-(vv (c.map cz) hi:Int) by omega]
     rw [Qix k] at hK
     have hp:∀ x y:Rat,(y-x)*2=hi-lo→(y-x)*((2^(Jf q q+1):Nat):Rat)≤((2^k:Nat):Rat):=fun x y h=>by
       have:(y-x)*((2^(Jf q q+1):Nat):Rat)*2=(hi-lo)*((2^(Jf q q+1):Nat):Rat):=by rw [←h]; grind
       grind
     obtain ⟨la,a1,a2,a3⟩:=ih (j+1) lo m l1 (Qcy g1) gm (by omega) (hp lo m (by grind))
     obtain ⟨lb,b1,b2,b3⟩:=ih (j+1) m hi l2 gm (Qcy g2) (by omega) (hp m hi (by grind))
     rw [a1]
     show ∃ l,((Ft q c (k+1) m hi ((vv (c.map cz) m:Int)-(vv (c.map cz) hi:Int))).bind fun r=>some (la++r))=some l∧_
     rw [b1]
     refine ⟨la++lb,rfl,a2.app b2,fun t ht=>?_⟩
     rcases List.mem_append.1 ht with ht | ht
     · obtain ⟨k',h1,h2,h3⟩:=a3 t ht; exact ⟨k',by omega,h2,h3⟩
     · obtain ⟨k',h1,h2,h3⟩:=b3 t ht; exact ⟨k',by omega,h2,h3⟩
theorem Q7e {D M k:Nat} {q:Rat} (h:Gr D M k q):Gr D M k (-q):=by
  obtain ⟨u,hu⟩:=h.u
  exact ⟨⟨-u,by rw [Rat.intCast_neg,←hu]; grind⟩,by rw [Uw]; exact h.b,h.d⟩
theorem Qh3 {m s:Nat} (h:m<2^s):Qm ((m+1:Nat):Int)≤s+1:=by
  rw [Ju,Int.natAbs_natCast,Nat.pow_succ]; omega
theorem Qrt {z:Int} {s:Nat} (h:Qm z≤s):Qm ((z.natAbs+1:Nat):Int)≤s+1:=Qh3 (Ju.1 h)
theorem Q35 {x:Rat} {m s g N:Nat} (hx:x≤2*((m+1:Nat):Rat)) (hm:m+1≤2^s) (hN:s+1+g≤N):x*((2^g:Nat):Rat)≤((2^N:Nat):Rat):=by
  have h3:=Rat.natCast_le_natCast.2 hm
  have e:=Qix s
  have h4:(0:Rat)≤((2^s:Nat):Rat):=Rat.natCast_nonneg
  have h1:x≤((2^(s+1):Nat):Rat):=by rw [e]; grind
  have h5:(0:Rat)≤((2^g:Nat):Rat):=Rat.natCast_nonneg
  refine Rat.le_trans (Rat.mul_le_mul_of_nonneg_right h1 h5) ?_
  have h6:2^(s+1)*2^g≤2^N:=by
    rw [←Nat.pow_add]; exact Nat.pow_le_pow_right (by decide) hN
  have:=Rat.natCast_le_natCast.2 h6
  rw [Rat.natCast_mul] at this
  exact this
theorem Q0j {s:Nat} {l:List Int} (h:Bd s l):most l<2^s:=by
  have key:∀ (l:List Int) (m:Nat),m<2^s→Bd s l→l.foldl (fun m z=>if m<z.natAbs then z.natAbs else m) m<2^s:=by
    intro l
    induction l with
    | nil=>exact fun m h _=>h
    |
     cons y l ih =>
     intro m hm hb
     simp only [List.foldl_cons]
     refine ih _ ?_ fun z hz=>hb z (List.mem_cons_of_mem _ hz)
     have:=hb y (List.mem_cons_self ..)
     rw [Ju] at this
     split <;> assumption
  exact key l 0 (Nat.pow_pos (by decide)) h
theorem Qyj {p:List Int} (h:Okp 9 900 p):∃ q c l,Y7 p=some q∧Hf p=some c∧Qa7 p=some l∧Ah (cz q) (c.map cz)∧RI q (c.map cz) (-Zv q) l (Zv q)∧(∀ t∈l,Va t)∧(∀ x y,x<y→Zv q≤x∨y≤-Zv q→vv (c.map cz) x=vv (c.map cz) y):=by
  obtain ⟨pp,hpl,hpb⟩:=h.pr
  obtain ⟨g,q',hq',sq⟩:=Mj h
  obtain ⟨q,l,q1,q2,hS,hl0⟩:=chain_ok h
  rw [hq'] at q1
  injection q1 with q1
  subst q1
  have e1:∀ t,Qh (Qo p) t=Qh q' t*Qh g t:=fun t=>by rw [sq.e]; grind
  obtain ⟨p1,p2⟩:=X3 pp.t pp.n e1
  have hll:=Y5 sq.pq.t sq.pg.t pp.t e1 p1 p2
  have hl9:=h.l
  have bq:Bd 969 q':=So hpb (by omega) pp.t sq.pq.t sq.pg.t pp.n e1
  have hall:=Qq6 (h.pb (by omega)) q2 sq.pq.n
  have hld:Qr q'≠0:=by have:=sq.pq.l; omega
  have hb1:=Dy hld
  -- the bound's size
  obtain ⟨D,hD⟩:∃ D,D=(Qr q').natAbs:=⟨_,rfl⟩
  obtain ⟨m,hm⟩:∃ m,m=most (q'.take (q'.length-1)):=⟨_,rfl⟩
  have hm2:m<2^969:=by rw [hm]; exact Q0j (s:=969) fun z hz=>bq z (List.mem_of_mem_take hz)
  have hD0:0<D:=by omega
  have hDs:Qm (D:Int)≤969:=by
    have:=Vk bq
    rw [Ju] at this ⊢
    rw [Int.natAbs_natCast,hD]; exact this
  have hbe:=I2 hld
  rw [←hD,←hm] at hbe
  have hDq:=nat_pos hD0
  have hbm:Zv q'≤((m+1:Nat):Rat):=by
    have hD1:(1:Rat)≤(D:Rat):=by
      have:((1:Nat):Rat)≤(D:Rat):=Rat.natCast_le_natCast.2 hD0
      exact this
    have hm0:(0:Rat)≤(m:Rat):=Rat.natCast_nonneg
    have h3:=Kj (a:=(m:Rat)) (c:=1) hm0 Rat.le_refl (by decide) hD1
    rcases Qy (Zv q') ((m+1:Nat):Rat) with h' | h'
    · exact h'
    · exfalso
      have:=Rat.mul_lt_mul_of_pos_right h' hDq
      push_cast at this; grind
  have gb:Gr D (m+1) 0 (Zv q'):=by
    refine ⟨⟨(D+m:Nat),?_⟩,?_,hD0⟩
    · rw [Nat.pow_zero,Nat.mul_one,hbe]
      rw [show ((((D+m:Nat):Int)):Rat)=((D+m:Nat):Rat) from rfl]; push_cast; rfl
    · have:Qn (Zv q')=Zv q':=by unfold Qn; rw [if_neg (by grind)]
      rw [this]; exact hbm
  have hMs:Qm ((m+1:Nat):Int)≤970:=Qh3 (s:=969) hm2
  have hK:(Zv q' - -Zv q')*((2^(Jf q' q'+1):Nat):Rat)≤((2^99999:Nat):Rat):=by
    have hps:=Hz bq
    have hg:Jf q' q'≤1964*31:=by
      unfold Jf
      exact Nat.mul_le_mul (by omega) (by omega)
    exact Q35 (s:=969) (g:=Jf q' q'+1) (N:=99999) (by grind) hm2 (by omega)
  have hN:Qm (D:Int)+Qm ((m+1:Nat):Int)+(0+99999)≤16777216:=by omega
  obtain ⟨ls,r1,r2,r3⟩:=Ii hS sq.pq.t (by omega) (fun h=>by rw [hl0 h]) (Nat.succ_pos m) 99999 0 (-Zv q') (Zv q') (by grind) (Q7e gb) gb hN hK
  have hchq:chq (Zv q')=some (Zv q'):=Qu4 gb (Nat.succ_pos m) (by omega)
  refine ⟨q',q'::l,ls,hq',q2,?_,hS,r2,fun t ht=>?_,fun x y hxy hb=>Qmr hS sq.pq.t sq.pq.n hxy hb (by grind)⟩
  · unfold Qa7
    rw [q2,hq']
    show (chq (Zv q')).bind _=_
    rw [hchq]
    show Ft q' (q'::l) 100000 (-Zv q') (Zv q') (Pj (q'::l))=_
    rw [Qsc hS hall]
    exact r1
  · obtain ⟨k',k1,k2,k3⟩:=r3 t ht
    have hmem:∀ {lo hi:Rat} {ls:List Tm},RI q' ((q'::l).map cz) lo ls hi→t∈ls→Vt (cz q') ((q'::l).map cz) t.lo t.hi∧t.p=q':=fun h=>by
      induction h with
      | nil=>intro ht; cases ht
      |
       cons h hv ht' hp hl ih =>
       intro ht
       rcases List.mem_cons.1 ht with rfl | ht
       · exact ⟨ht',hp⟩
       · exact ih ht
    obtain ⟨v1,v2⟩:=hmem r2 ht
    have lq2:2≤q'.length:=by
      rcases Nat.lt_or_ge q'.length 2 with e | e
      · exfalso
        have hvv:∀ x,vv ((q'::l).map cz) x=0:=fun x=>by
          rw [hl0 e,sq.pq.one e]
          have hv1:∀ x:Rat,ev (cz [1]) x=1:=fun x=>by rw [Qg,Vr]
          simp only [List.map_cons,List.map_nil,vv,tc,hv1]
          have:Qp 1=1:=by decide
          rw [this]; decide
        have:=v1.v
        rw [hvv,hvv] at this; omega
      · exact e
    refine ⟨.inr ⟨_,by rw [v2]; exact v1⟩,by rw [v2]; exact sq.pq.t,by rw [v2]; omega,by rw [v2]; exact lq2,by rw [v2]; exact Qd bq (by omega),D,m+1,k',k2,k3,Nat.succ_pos m,by omega⟩
theorem Ur {q:List Int} {L:List (List Rat)} (hS:Ah (cz q) L) {c:Rat→Int} (hc:Cut c) {lo:Rat} (hH:∀ z,c z=-1→z≤lo→vv L z=vv L lo) {y0:Rat} (hy:c y0=-1) (hv:∀ z,lo<z→z≤y0→vv L z=vv L lo):∃ s,s≠0∧∀ z,c z=-1→z≤y0→Qp (ev (cz q) z)=s:=by
  have hall:∀ z,c z=-1→z≤y0→vv L z=vv L lo:=fun z h1 h2=>by
    rcases Qy z lo with e | e
    · exact hH z h1 e
    · exact hv z e h2
  have hne:∀ z,c z=-1→z≤y0→Qp (ev (cz q) z)≠0:=fun z h1 h2=>by
    obtain ⟨w,w1,w2⟩:=hc.dn z h1
    have:=Qgj hS w1 (by rw [hall w w2 (by grind),hall z h1 h2])
    rw [this.s]; exact this.n
  refine ⟨Qp (ev (cz q) y0),hne y0 hy Rat.le_refl,fun z h1 h2=>?_⟩
  rcases Classical.em (z=y0) with e | e
  · rw [e]
  · have:=Qgj hS (x:=z) (y:=y0) (by grind) (by rw [hall z h1 h2,hall y0 hy Rat.le_refl])
    rw [this.s,Fl (hne z h1 h2)]
structure Fst (o:List Int) (a t:Tm):Prop where
  lt:Uj a t
  s:∃ s,s≠0∧(∀ z,Qu a z=-1→Qu t z=1→Qp (ev (cz o) z)=s)∧RS (cz o) (Qu t) (-s)
def Non (o:List Int) (a:Tm):Prop:=∃ s,s≠0∧∀ z,Qu a z=-1→Qp (ev (cz o) z)=s
theorem Qr1 {q:List Int} {L:List (List Rat)} (hS:Ah (cz q) L) {a:Tm} (ha:Va a) {lo hi:Rat} {l:List Tm} (hR:RI q L lo l hi):(∀ t∈l,Va t)→(∀ z,hi<z→vv L z=vv L hi)→(∀ z,Qu a z=-1→z≤lo→vv L z=vv L lo)→∃ r,Mz a l=some r∧match r with
    | none=>Non q a
    | some t=>t∈l∧Fst q a t:=by
  have ca:=ha.cut
  induction hR with
  |
   @nil lo hi h hv =>
   intro _ hhi hH
   refine ⟨none,rfl,?_⟩
   obtain ⟨y1,hy1⟩:=ca.hi
   have hall:∀ z,lo<z→vv L z=vv L lo:=fun z hz=>by
     rcases Qy z hi with e | e
     · have h1:=Fy hS hz
       have h2:vv L hi≤vv L z:=by
         rcases Classical.em (z=hi) with e' | e'
         · rw [e']; exact Nat.le_refl _
         · exact Fy hS (by grind)
       omega
     · rw [hhi z e,hv]
   obtain ⟨s,s0,hs⟩:=Ur hS ca hH hy1 fun z h1 _=>hall z h1
   refine ⟨s,s0,fun z hz=>?_⟩
   rcases Qy z y1 with e | e
   · exact hs z hz e
   · obtain ⟨s',s0',hs'⟩:=Ur hS ca hH hz fun z h1 _=>hall z h1
     rw [hs' z hz Rat.le_refl,←hs' y1 hy1 (Rat.le_of_lt e),hs y1 hy1 Rat.le_refl]
  |
   @cons lo hi t l h hv ht hp hl ih =>
   intro hV hhi hH
   have hvt:=hV t (List.mem_cons_self ..)
   have ct:=hvt.cut
   have ht':=ht
   rw [←hp] at ht'
   have ect:∀ z,Qu t z=cq (cz t.p) t.lo t.hi z:=Kd ht.l
   obtain ⟨c,c1,c2⟩:=Bq hvt ha
   show ∃ r,((D6 t a).bind fun c=>if 0<c then some (some t) else Mz a l)=some r∧_
   rw [c1]
   show ∃ r,(if 0<c then some (some t) else Mz a l)=some r∧_
   have hlo1:Qu t t.lo=1:=by rw [ect]; exact Fc Rat.le_refl
   have hlow:∀ z,lo<z→Qu t z=1→vv L z=vv L lo:=fun z h1 h2=>by
     rcases Qy z t.lo with e | e
     · have a1:=Fy hS h1
       have a2:vv L t.lo≤vv L z:=by
         rcases Classical.em (z=t.lo) with e' | e'
         · rw [e']; exact Nat.le_refl _
         · exact Fy hS (by grind)
       omega
     · rw [ect] at h2
       have hz:z≤t.hi:=by
         rcases Qy z t.hi with e' | e'
         · exact e'
         · rw [Bt ht.l e'] at h2; omega
       rw [ht'.eq_lo e hz h2,hv]
   by_cases hc:0<c
   · rw [if_pos hc]
     refine ⟨some t,rfl,List.mem_cons_self ..,?_⟩
     have hlt:Uj a t:=by
       rcases c2 with ⟨e,_⟩ | ⟨e,_⟩ | ⟨_,h⟩
       · omega
       · omega
       · exact h
     refine ⟨hlt,?_⟩
     obtain ⟨m,m1,m2⟩:=hlt
     obtain ⟨s,s0,hs⟩:=Ur hS ca hH m1 fun z h1 h2=>hlow z h1 (by
       rcases Classical.em (z=m) with e | e
       · rw [e]; exact m2
       · exact ct.mono' (q:=z) (r:=m) (by grind) (by omega))
     have hall:∀ z,Qu a z=-1→Qu t z=1→Qp (ev (cz q) z)=s:=fun z h1 h2=>by
       rcases Qy z m with e | e
       · exact hs z h1 e
       · obtain ⟨s',s0',hs'⟩:=Ur hS ca hH h1 fun w w1 w2=>hlow w w1 (by
           rcases Classical.em (w=z) with e | e
           · rw [e]; exact h2
           · exact ct.mono' (q:=w) (r:=z) (by grind) (by omega))
         rw [hs' z h1 Rat.le_refl,←hs' m m1 (Rat.le_of_lt e),hs m m1 Rat.le_refl]
     refine ⟨s,s0,hall,?_⟩
     -- Q7i behind t
     obtain ⟨w,w1,w2,w3⟩:=Oj ct m2 hlo1
     have hwa:Qu a w=-1:=ca.mono m w w2 (by omega)
     have hsw:=hall w hwa w1
     have hwh:w<t.hi:=by
       rw [ect] at w1
       rcases Qy t.hi w with e | e
       · have:=ht'.hi1
         rcases Classical.em (t.hi=w) with e' | e'
         · rw [←e'] at w1; exact absurd w1 this
         · rw [Bt ht.l (by grind)] at w1; omega
       · exact e
     have hww:vv L w=vv L t.lo:=ht'.eq_lo w3 (Rat.le_of_lt hwh) (by rw [←ect]; exact w1)
     have hvv:=ht.v
     have hone:=Qgi hS hwh (by omega)
     have hlw:J7 (cz q) w=s:=by rw [Fl (by rw [hsw]; exact s0),hsw]
     rw [hlw] at hone
     have hd:∀ z,w<z→z≤t.hi→Qu t z=-1→Qp (ev (cz q) z)=-s:=fun z z1 z2 z3=>by
       rw [ect] at z3
       have e1:=ht'.eq_hi (by grind) z2 (by omega)
       have e2:=Qgi hS z1 (by omega)
       rw [hlw] at e2
       have hz0:Qp (ev (cz q) z)≠0:=by
         rw [Gs (by grind) z2,hp] at z3
         intro h0
         rw [if_pos h0] at z3; omega
       rw [Fl hz0] at e2; exact e2.2
     rcases ct.val t.hi with e | e | e
     · rw [ect] at e; exact absurd e ht'.hi1
     · obtain ⟨d,dp,hd'⟩:=Q7i (p:=cz q) (x:=t.hi) (by rw [hone.2]; omega)
       refine ⟨t.hi+d,ct.mono t.hi _ (by grind) (by omega),fun z h1 h2=>?_⟩
       have hz:t.hi<z:=by
         rcases Qy z t.hi with e' | e'
         · rcases Classical.em (z=t.hi) with e'' | e''
           · rw [e''] at h1; omega
           · have:=ct.mono z t.hi (by grind) (by omega); omega
         · exact e'
       rw [hd' z hz (by grind),hone.2]
     · exact ⟨t.hi,e,fun z h1 h2=>hd z (ct.lt w1 h1) h2 h1⟩
   · rw [if_neg hc]
     have hle:¬Uj a t:=fun h=>by
       rcases c2 with ⟨e,h'⟩ | ⟨e,h'⟩ | ⟨e,_⟩
       · exact S5 ct ca h' h
       · obtain ⟨z,z1,z2⟩:=h
         have:=h' z; omega
       · omega
     obtain ⟨r,r1,r2⟩:=ih (fun x hx=>hV x (List.mem_cons_of_mem _ hx)) hhi fun z z1 z2=>by
       -- z lies behind a,so behind t
       have hz:Qu t z≠1:=fun h=>hle ⟨z,z1,h⟩
       have hzl:t.lo<z:=by
         rcases Qy z t.lo with e | e
         · refine absurd ?_ hz
           rw [ect]; exact Fc e
         · exact e
       exact ht'.eq_hi hzl z2 (by rw [←ect]; exact hz)
     refine ⟨r,r1,?_⟩
     cases r with
     | none=>exact r2
     | some x=>exact ⟨List.mem_cons_of_mem _ r2.1,r2.2⟩
end Orq

namespace Orq
open Orr Go
theorem Q5q {c:Rat→Int} (hc:Cut c):∀ (n:Nat) (f:List Rat),HD f n→∃ s,s≠0∧RS f c s
  |
   n,f,h=>by
   rcases Pv hc f with hv | ⟨s,hs,hn⟩
   · cases n with
     |
      zero =>
      exfalso
      obtain ⟨q,hq,_⟩:=Qih hc (hv (Qn (f.getD 0 0)) (Kq h.1))
      cases f with
      | nil=>exact h.1 (by simp)
      |
       cons a l =>
       have:=W9 (p:=l) fun k=>by have:=h.2 (k+1) (by omega); rwa [List.getD_cons_succ] at this
       simp only [ev,this,List.getD_cons_zero] at hq; grind
     |
      succ n =>
      have hd:HD (Vy f) n:=by
        have key:∀ (f:List Rat) (k:Nat),(Vy f).getD k 0=((k+1:Nat):Rat)*f.getD (k+1) 0:=by
          intro f
          induction f with
          | nil=>intro k; simp only [Vy,List.getD_nil]; grind
          |
           cons a f ih =>
           intro k
           simp only [Vy]
           rw [Xn,List.getD_cons_succ]
           cases k with
           | zero=>rw [List.getD_cons_zero]; push_cast; grind
           | succ k=>rw [List.getD_cons_succ,ih]; push_cast; grind
        refine ⟨fun h0=>?_,fun k hk=>by rw [key,h.2 (k+1) (by omega)]; grind⟩
        rw [key] at h0
        rcases Rat.mul_eq_zero.1 h0 with h1 | h1
        · have:=nat_pos (show 0<n+1 by omega); grind
        · exact h.1 h1
      obtain ⟨s,hs,h1⟩:=Q5q hc n (Vy f) hd
      exact ⟨s,hs,Qf0 hc hv h1 hs⟩
   · exact ⟨s,hs,Qdn hc hn⟩
theorem Qyn {c:Rat→Int} (hc:Cut c) {f p q:List Rat} {s s':Int} (hf:∀ t,ev f t=ev p t*ev q t) (h:RS p c s) (h':RS q c s'):RS f c (s*s'):=by
  obtain ⟨y,h1,h2⟩:=h
  obtain ⟨y',h3,h4⟩:=h'
  refine ⟨if y≤y' then y else y',by split <;> assumption,fun z z1 z2=>?_⟩
  rw [hf,Jp,h2 z z1 (by clear h2 h4; grind),h4 z z1 (by clear h2 h4; grind)]
theorem Qyo {c:Rat→Int} (hc:Cut c) {f o S:List Rat} {k:Rat} (hk:k≠0) (hf:∀ t,ev f t=k*(ev o t*(ev S t*ev S t))) (hnz:¬∀ t,ev f t=0) {s:Int} (h:RS o c s):RS f c (Qp k*s):=by
  obtain ⟨n,_,hn⟩:∃ n,n<S.length∧HD S n:=by
    rcases Qae S with h1 | h1
    · exact absurd (fun t=>by rw [hf,h1]; grind) hnz
    · exact h1
  obtain ⟨s',hs',h'⟩:=Q5q hc n S hn
  have h1:=Qyn hc (f:=Zn S S) (fun t=>Qk t _ _) h' h'
  have h2:=Qyn hc (f:=Zn o (Zn S S)) (fun t=>Qk t _ _) h h1
  have hsq:s'*s'=1:=by
    obtain ⟨y,y1,y2⟩:=h'
    have:=y2 y y1 Rat.le_refl
    rcases Zf (ev S y) with ⟨e,_⟩ | ⟨e,_⟩ | ⟨e,_⟩
    · rw [←this,e]; rfl
    · omega
    · rw [←this,e]; rfl
  rw [hsq,Int.mul_one] at h2
  obtain ⟨y,y1,y2⟩:=h2
  exact ⟨y,y1,fun z z1 z2=>by
    have:=y2 z z1 z2
    rw [Qk,Qk] at this
    rw [hf,Jp,this]⟩
structure Cp (p:List Int):Prop where
  t:Qj p
  l:p.length≤9
  b:Bd 800 p
theorem Cp.dp {p:List Int} (h:Cp p):Dp p:=⟨h.t,h.l,Qd h.b (by omega)⟩
theorem Cp.ok {p:List Int} (h:Cp p) (h0:p.length≠0):Okp 9 900 p:=h.dp.ok h0
def Leq (a:Tm) (c:Rat→Int):Prop:=∀ q,c q=-1→Qu a q=-1
def Uo (p:List Int) (a:Tm):Option Tm→Prop
  | none=>p=[]∨∃ s,s≠0∧∀ c,Cut c→Leq a c→RS (cz p) c s
  | some t=>p≠[]∧Va t∧Uj a t∧∃ s,s≠0∧(∀ c,Cut c→Leq a c→(∃ m,c m=-1∧Qu t m=1)→RS (cz p) c s)∧RS (cz p) (Qu t) (-s)
theorem RI.len {q:List Int} {L:List (List Rat)} {lo hi:Rat} {l:List Tm} (h:RI q L lo l hi):l.length+vv L hi≤vv L lo:=by
  induction h with
  | nil h hv=>simp; omega
  | cons h hv ht hp hl ih=>have:=ht.v; simp only [List.length_cons]; omega
theorem Qzn (x:Rat):∀ (L:List (List Rat)) (s:Int),tc x s L≤L.length
  | [],_=>Nat.le_refl _
  |
   f::l,s=>by
   have h1:=Qzn x l
   simp only [tc,List.length_cons]
   repeat' split
   all_goals (first | (have:=h1 s; omega) | (have:=h1 (Qp (ev f x)); omega))
theorem Q8u (L:List (List Rat)) (x:Rat):vv L x≤L.length:=Qzn x L 0
theorem Pu {p:List Int} (h:Cp p):∃ l,Nw p=some l∧l.length≤67∧(∀ t∈l,Va t)∧∀ a,Va a→∃ r,Mz a l=some r∧Uo p a r∧∀ t,r=some t→t∈l:=by
  unfold Nw
  by_cases h0:p.length=0
  · have e:p=[]:=List.eq_nil_of_length_eq_zero h0
    subst e
    exact ⟨[],rfl,by decide,(fun t ht=>by cases ht),fun a _=>⟨none,rfl,.inl rfl,fun t ht=>by cases ht⟩⟩
  · obtain ⟨qp,o,q1,o1,hpt⟩:=Qxf (n:=9) (s:=800) (p:=p) ⟨⟨by decide,by decide⟩,h.t,h0,h.l,h.b⟩
    obtain ⟨g,sq⟩:=hpt.sq
    obtain ⟨S,hS⟩:=hpt.os
    obtain ⟨p1,p2,p3,p4,p5,p6,p7⟩:=Kn h.t h0
    have hpl:=h.l
    obtain ⟨hh,th,eh⟩:=hpt.oh
    have bo:Bd 869 o:=So (p5 800 h.b) (by omega) p1 hpt.ot th (by omega) eh
    obtain ⟨lo1,lo2⟩:=X3 p1 (by omega) eh
    have hlen:=Y5 hpt.ot th p1 eh lo1 lo2
    have oko:Okp 9 900 o:=⟨Qpb,hpt.ot,by omega,by omega,Qd bo (by omega)⟩
    obtain ⟨q,c,l,r1,r2,r3,hSt,hRI,hVa,hout⟩:=Qyj oko
    obtain ⟨g',q',s1,s2⟩:=Mj oko
    rw [r1] at s1
    injection s1 with s1
    subst s1
    obtain ⟨_,_,_,_,_,o6,o7⟩:=Kn hpt.ot (by omega)
    -- o has no multiple Qa7
    have hg1:g'=[1]:=by
      refine s2.pg.one ?_
      obtain ⟨E,hE⟩:=hpt.oq
      have hE:∀ t,Qh qp t=Qh o t*ev E t:=fun t=>by have:=hE t; rwa [Qg,Qg] at this
      obtain ⟨z,hz⟩:=s2.d
      have hd1:∀ t,Qh o t=Qh g' t*(Z1 o*Qh q t):=fun t=>by rw [o7,s2.e]; grind
      have hdo:∀ t,dv (cz o) t=Qh g' t*(Z1 o*ev z t):=fun t=>by
        have:=Qvl (p:=cz o) (q:=W3 (Z1 o) (cz (Qo o))) (fun t=>by rw [Qg,Q7,Qg,o7]) t
        rw [this,Lc,hz]; grind
      obtain ⟨k,hk,hkk⟩:=sq.num (d:=cz g') ⟨Zn (W3 (Z1 o) (cz q)) E,fun t=>by rw [Qg,Qg,hE,hd1,Qk,Q7,Qg]; grind⟩ ⟨Jn (Zn (W3 (Z1 o) z) E) (Zn (W3 (Z1 o) (cz q)) (Vy E)),fun t=>by
        have:=Rq (f:=cz qp) (w:=cz o) (u:=E) (fun t=>by rw [Qg,Qg,hE]) t
        rw [X8,this,hdo,Qg,Qg,hd1,Zj,Qk,Qk,Q7,Q7,X8,Qg]; grind⟩
      rcases Nat.lt_or_ge g'.length 2 with e | e
      · exact e
      · exfalso
        have h1:=(Ey s2.pg.t (by omega)).1
        have h2:=Wx (p:=cz g') (q:=[k]) (fun t=>by rw [hkk]; simp only [ev]; grind) (g'.length-1)
        rw [h2,List.getD_eq_getElem?_getD,List.getElem?_eq_none (by simp; omega)] at h1
        exact h1 rfl
    have hpq:∀ t,ev (cz p) t=((Z1 p:Rat)*(Z1 o:Rat))*(ev (cz q) t*(ev S t*ev S t)):=fun t=>by
      rw [Qg,Qg,p7,hS,o7,s2.e,hg1,Vr]; grind
    have hk0:(Z1 p:Rat)*(Z1 o:Rat)≠0:=fun h=>(Rat.mul_eq_zero.1 h).elim (Su p6) (Su o6)
    have hpz:¬∀ t,ev (cz p) t=0:=fun h'=>Et h.t (by omega) fun t=>by rw [←Qg]; exact h' t
    obtain ⟨k,hk⟩:∃ k,k=Qp ((Z1 p:Rat)*(Z1 o:Rat)):=⟨_,rfl⟩
    have hkn:k≠0:=fun h=>hk0 (Zb.1 (by rw [←hk]; exact h))
    have ho:o.length≠0:=by omega
    rw [o1]
    show ∃ l,(if o.length=0 then some [] else Qa7 o)=some l∧l.length≤67∧_
    rw [if_neg ho]
    have hb1:=Dy (Uu s2.pq.t s2.pq.n)
    have hll:=hRI.len
    have hlv:=Q8u (c.map cz) (-Zv q)
    have hcl:=(Orr.chain_ok (p:=o) ⟨hpt.ot,by omega,Qd bo (by omega)⟩ r2).1
    rw [List.length_map] at hlv
    refine ⟨l,r3,by omega,hVa,fun a ha=>?_⟩
    obtain ⟨r,n1,n2⟩:=Qr1 hSt ha hRI hVa (fun z hz=>(hout _ _ hz (.inl Rat.le_refl)).symm) fun z _ hz=>by
      rcases Classical.em (z=-Zv q) with e | e
      · rw [e]
      · exact hout z _ (by grind) (.inr Rat.le_refl)
    refine ⟨r,n1,?_,fun t ht=>by subst ht; exact n2.1⟩
    cases r with
    |
     none =>
     obtain ⟨s,hs,hz⟩:=n2
     refine .inr ⟨k*s,Int.mul_ne_zero hkn hs,fun c hc hac=>?_⟩
     obtain ⟨y,hy⟩:=hc.hi
     have h1:RS (cz q) c s:=⟨y,hy,fun z z1 _=>hz z (hac z z1)⟩
     rw [hk]; exact Qyo hc hk0 hpq hpz h1
    |
     some t =>
     obtain ⟨hm,hlt,s,hs,hz,hrs⟩:=n2
     refine ⟨fun e=>h0 (by rw [e]; rfl),hVa t hm,hlt,k*s,Int.mul_ne_zero hkn hs,fun c hc hac ⟨m,m1,m2⟩=>?_,?_⟩
     · have h1:RS (cz q) c s:=⟨m,m1,fun z z1 z2=>hz z (hac z z1) (by
         rcases Classical.em (z=m) with e | e
         · rw [e]; exact m2
         · exact (hVa t hm).cut.mono' (q:=z) (r:=m) (by grind) (by omega))⟩
       rw [hk]; exact Qyo hc hk0 hpq hpz h1
     · have:=Qyo (hVa t hm).cut hk0 hpq hpz hrs
       rw [←hk] at this
       rw [show -(k*s)=k*-s by rw [Int.mul_neg]]; exact this
theorem Qxa {p:List Int} (h:Cp p) {a:Tm} (ha:Va a):∃ r,E7 p a=some r∧Uo p a r:=by
  obtain ⟨l,l1,_,_,l3⟩:=Pu h
  obtain ⟨r,r1,r2,_⟩:=l3 a ha
  refine ⟨r,?_,r2⟩
  unfold E7
  rw [l1]; exact r1
theorem Ls:∀ (l:List Tm) (b:Tm),(∀ t∈b::l,Va t)→∃ m,Rw b l=some m∧m∈b::l∧∀ t∈b::l,¬Uj t m
  |
   [],b,h=>⟨b,rfl,List.mem_cons_self ..,fun t ht h'=>by
   rw [List.mem_singleton.1 ht] at h'
   have hb:=(h b (List.mem_cons_self ..)).cut
   exact S5 hb hb h' h'⟩
  |
   a::l,b,h=>by
   have ha:=h a (by simp)
   have hb:=h b (by simp)
   obtain ⟨c,c1,c2⟩:=Bq ha hb
   obtain ⟨m,m1,m2,m3⟩:=Ls l (if c<0 then a else b) fun t ht=>by
     rcases List.mem_cons.1 ht with rfl | ht
     · split <;> assumption
     · exact h t (by simp [ht])
   refine ⟨m,by simp only [Rw]; rw [c1]; exact m1,?_,fun t ht=>?_⟩
   · rcases List.mem_cons.1 m2 with e | e
     · rw [e]; split <;> simp
     · simp [e]
   · have hm:Va m:=by
       rcases List.mem_cons.1 m2 with e | e
       · rw [e]; split <;> assumption
       · exact h m (by simp [e])
     have hfst:=m3 _ (List.mem_cons_self ..)
     -- what is not less stays so
     have tr:∀ x y:Tm,Va x→Va y→¬Uj x y→¬Uj y m→¬Uj x m:=fun x y hx hy h1 h2 h3=>by
       rcases tri hy.cut hm.cut with h4 | h4 | h4
       · exact h2 h4
       · obtain ⟨q,q1,q2⟩:=h3
         exact h1 ⟨q,q1,by rw [h4]; exact q2⟩
       · obtain ⟨q,q1,q2⟩:=h3
         obtain ⟨r,r1,r2⟩:=h4
         have:=hm.cut.lt q2 r1
         exact h1 ⟨q,q1,hy.cut.mono' this (by omega)⟩
     rcases List.mem_cons.1 ht with rfl | ht
     · by_cases hc:c<0
       · rw [if_pos hc] at hfst
         refine tr _ a hb ha ?_ hfst
         rcases c2 with ⟨_,h'⟩ | ⟨e,_⟩ | ⟨e,_⟩
         · exact fun h''=>S5 ha.cut hb.cut h' h''
         · omega
         · omega
       · rw [if_neg hc] at hfst; exact hfst
     · rcases List.mem_cons.1 ht with rfl | ht
       · by_cases hc:c<0
         · rw [if_pos hc] at hfst; exact hfst
         · rw [if_neg hc] at hfst
           refine tr _ b ha hb ?_ hfst
           rcases c2 with ⟨e,_⟩ | ⟨_,h'⟩ | ⟨_,h'⟩
           · omega
           · rintro ⟨q,q1,q2⟩
             have:=h' q; omega
           · exact fun h''=>S5 ha.cut hb.cut h'' h'
       · exact m3 t (by simp [ht])
end Orq

namespace Orr
open Go Go.Proofs Orq
set_option maxRecDepth 10000
theorem Dp.pb {p:List Int} (h:Dp p):Pb p:=⟨h.t,by have:=h.l; omega,Qd h.b (by have:=h.l; omega)⟩
theorem Q9l {p:List Int} {a:Tm} (hp:Dp p) (ha:Va a):Qc Tryz.prog 181 [pr p,.agg (ta a)] [.one (.int .i64 (Wb a p))]:=Q0n (Dp.pb hp) ha.tb (Qyz hp ha).1
theorem Q9d {p:List Int} {a:Tm} (hp:Dp p) (ha:Va a):Qc Tryz.prog 180 [pr p,.one (.sh (ta a))] [.one (.int .i64 (Wb a p))]:=w tt Tryz.func180 rfl [.c [] (Q9l hp ha)] rfl rfl trivial
theorem Q1f {p:List Int} {fid:Nat} {l1:List LV} {sgn:List Int→Int} (hp:Dp p) (h:∀ p,Dp p→Qc Tryz.prog fid [pr p,.one (.sh l1)] [.one (.int .i64 (sgn p))]):Qc Tryz.prog 179 [pr p,.one (.fn fid [] [.sh l1])] [.one (.int .i64 (J3 sgn p.length p))]:=by
  have hpb:=Dp.pb hp
  refine Zy Tryz.func179 rfl ?_
  refine go tt [.c [] (Xa hpb.t hpb.ln hpb.bd)] rfl trivial ?_
  refine lp (S:=List Int) 0 (fun L1 s=>(0,.v (pr s))::L1) (fun _=>[]) (fun s=>s.length) (fun s=>Dp s∧J3 sgn s.length s=J3 sgn p.length p) p ⟨hp,rfl⟩ rfl (fun _ _=>rfl) rfl fun r ⟨j1,j4⟩=>?_
  rw [←j4]
  have jb:=Dp.pb j1
  by_cases h0:r.length=0
  · have e:=Ex sgn h0
    rw [e]
    exact en tt [.f (by simp; exact List.eq_nil_of_length_eq_zero h0)] rfl rfl trivial
  · have hs:=h r j1
    by_cases hz:sgn r=0
    · have hlp:=Ys r
      refine go tt [.t (by simp; omega),.c [] hs,.f (by simpa using hz),.c [] (Hd jb.ln jb.bd)] rfl trivial ?_
      exact rd (Zm r) (by omega) ⟨j1.der,by rw [←Ew sgn (by omega) hz]⟩ rfl
    · rw [Ev sgn (by omega) hz]
      exact en tt [.t (by simp; omega),.c [] hs,.t (by simpa using hz)] rfl rfl trivial
abbrev gmA (a:Tm) (p:List Int):Int:=Ut (Wb a) p
theorem Q41 {p:List Int} {a:Tm} (hp:Dp p) (ha:Va a):Qc Tryz.prog 129 [pr p,.agg (ta a)] [.one (.int .i64 (gmA a p))] :=
  w tt Tryz.func129 rfl [.c [] (Q1f (sgn:=Wb a) hp fun _ h=>Q9d h ha)] rfl rfl trivial
theorem Qui {t:Tm} {a b:Pt} {ps:List (List Int)} (hps:∀ p∈ps,Dp p) (ht:Va t) (hl:ps.length<1000):Qc Tryz.prog 245 [.agg (ta t),.agg (Jz a),.agg (Jz b),.one (.row (Jw ps))] [.one (.bool (Ta (Wb t) a b ps))]:=by
  refine Zy Tryz.func245 rfl ?_
  have hpl:(Jw ps).length=ps.length:=by simp [Jw]
  refine go tt [] rfl trivial ?_
  refine lp (S:=Nat) 3 (fun L1 i=>(13,.v (.one (.int .i64 (i:Int))))::L1) (fun _=>[.blk 67 (ta t),.blk 35 (Jz a),.blk 35 (Jz b)]) (fun i=>ps.length-i) (fun i=>i≤ps.length∧Ta (Wb t) a b (ps.drop i)=Ta (Wb t) a b ps) 0 ⟨Nat.zero_le _,rfl⟩ rfl (fun _ _=>rfl) rfl fun i ⟨hi,he⟩=>?_
  rw [←he]
  by_cases hlt:i<ps.length
  · obtain ⟨p,hp⟩:∃ p,ps[i]? = some p:=⟨_,List.getElem?_eq_getElem hlt⟩
    have hd:ps.drop i=p::ps.drop (i+1):=by
      rw [List.drop_eq_getElem_cons hlt]
      rw [List.getElem?_eq_getElem hlt] at hp; injection hp with hp; rw [hp]
    have hpb:=hps p (List.mem_of_getElem? hp)
    rw [hd] at he ⊢
    by_cases h0:0<p.length
    · exact en tt [.t (by simp [hpl]; omega),.x (Xo hp),.t (by simp; omega),.c [] (Q41 hpb ht)] rfl (by simp only [Ta]; rw [if_pos h0]) trivial
    · refine go tt [.t (by simp [hpl]; omega),.x (Xo hp),.f (by simp; exact List.eq_nil_of_length_eq_zero (by omega))] rfl (by simp [Qa]; omega) ?_
      exact rd (i+1) (by omega) ⟨hlt,by simp only [Ta]; rw [if_neg h0]⟩ rfl
  · have hd:ps.drop i=[]:=List.drop_eq_nil_of_le (by omega)
    rw [hd]
    exact en tt [.f (by simp [hpl]; omega)] rfl rfl trivial
structure Sc (k:Crv):Prop where
  n:Nml k
  c:Cs 90 3 k
theorem Sc.cb {k:Crv} (h:Sc k):Cb k:=h.c.mono (by omega) (by omega)
theorem Sa {a b:Crv} (ha:Sc a) (hb:Sc b):Cp (Xp a b):=by
  refine ⟨Za _ _,?_,Qd (Pz (Zo hb.c.x ha.c.d) (Zo ha.c.x hb.c.d)) (by omega)⟩
  have:=Hn (Qw b.x a.d) (Qw a.x b.d)
  have:=Q8 b.x a.d; have:=Q8 a.x b.d; have:=ha.c.lx; have:=hb.c.lx
  unfold Xp; omega
theorem T0 {a b:Crv} (ha:Sc a) (hb:Sc b):Cp (Jb a b):=by
  refine ⟨Za _ _,?_,Qd (Pz (Zo hb.c.y ha.c.d) (Zo ha.c.y hb.c.d)) (by omega)⟩
  have:=Hn (Qw b.y a.d) (Qw a.y b.d)
  have:=Q8 b.y a.d; have:=Q8 a.y b.d; have:=ha.c.ly; have:=hb.c.ly
  unfold Jb; omega
theorem Qs7 {a b:Pt} {t:Tm} (ha:Sc a.c) (hb:Sc b.c) (ht:Va t):Qc Tryz.prog 212 [.agg (Jz a),.agg (Jz b),.agg (ta t)] [.one (.bool (Vs (Wb t) a b))] :=
  w tt Tryz.func212 rfl [.c [] (Qnb ha.n hb.n ha.cb hb.cb),.c [] (Qm5 ha.n hb.n ha.cb hb.cb),.c [] (Qui (t:=t) (a:=a) (b:=b) (ps:=[Xp a.c b.c,Jb a.c b.c]) (fun p hp=>by
    simp at hp
    rcases hp with rfl | rfl
    · exact (Sa ha hb).dp
    · exact (T0 ha hb).dp) ht (show 2<1000 by decide))] rfl rfl trivial
theorem Q4g {q:Rat} (hq:Qs 900 q):Va (tq q):=by
  have hd:=q.den_nz
  refine ⟨.inl ⟨rfl,?_⟩,Qp8 q,by show 2≤9; omega,by show 2≤2; omega,Q9b (hq.mono (by omega)),q.den,q.num.natAbs+1,0,?_,?_,by omega,?_⟩
  · have e:(q.num:Rat)=q*(q.den:Rat):=by
      have:(q.num:Rat) / (((q.den:Int)):Rat)=q:=by rw [Xf,Rat.num_divInt_den]
      have h2:(q.num:Rat) / (q.den:Rat)*(q.den:Rat)=q.num:=Rat.div_mul_cancel (by have:=Orq.nat_pos q.den_pos; grind)
      rw [show (q.num:Rat) / (q.den:Rat)=q from this] at h2; exact h2.symm
    show Qh [-q.num,(q.den:Int)] q=0
    simp only [Qh]
    rw [Rat.intCast_neg,e,show (((q.den:Int)):Rat)=(q.den:Rat) from rfl]; grind
  all_goals first | (have h1:Qm (q.den:Int)≤900:=hq.2; have h2:Qm ((q.num.natAbs+1:Nat):Int)≤901:=Qrt hq.1; omega) | skip
  all_goals
    refine ⟨⟨q.num,?_⟩,?_,q.den_pos⟩
    · rw [Nat.pow_zero,Nat.mul_one]
      have:(q.num:Rat) / (((q.den:Int)):Rat)=q:=by rw [Xf,Rat.num_divInt_den]
      have h2:(q.num:Rat) / (q.den:Rat)*(q.den:Rat)=q.num:=Rat.div_mul_cancel (by have:=Orq.nat_pos q.den_pos; grind)
      rw [show (q.num:Rat) / (q.den:Rat)=q from this] at h2; exact h2
    · have h1:Qn q≤Qn (q.num:Rat):=by
        have e:(q.num:Rat)=q*(q.den:Rat):=by
          have:(q.num:Rat) / (((q.den:Int)):Rat)=q:=by rw [Xf,Rat.num_divInt_den]
          have h2:(q.num:Rat) / (q.den:Rat)*(q.den:Rat)=q.num:=Rat.div_mul_cancel (by have:=Orq.nat_pos q.den_pos; grind)
          rw [show (q.num:Rat) / (q.den:Rat)=q from this] at h2; exact h2.symm
        rw [e,Gm]
        have hd1:(1:Rat)≤(q.den:Rat):=by
          have:((1:Nat):Rat)≤(q.den:Rat):=Rat.natCast_le_natCast.2 q.den_pos
          exact this
        have e2:Qn (q.den:Rat)=(q.den:Rat):=by unfold Qn; rw [if_neg (by grind)]
        rw [e2]
        have:=Kj (a:=Qn q) (c:=1) (Z9 q) Rat.le_refl (by decide) hd1
        grind
      rw [Jr] at h1
      refine Rat.le_trans h1 (Rat.natCast_le_natCast.2 (by omega))
end Orr

namespace Orr
open Go Go.Proofs Orq
set_option maxRecDepth 10000
theorem Qcc {p q:List Int} (hp:Cp p) (hq:Cp q):Cp (Sj p q):=by unfold Sj; split <;> assumption
theorem Q0w {a b:Pt} {t:Tm} (ha:Sc a.c) (hb:Sc b.c) (ht:Va t):Qc Tryz.prog 132 [.one (.int .i64 1),.agg (ta t),.one (.row [Jz a,Jz b])] [.agg (Qbv (Ki (Wb t) a b)),.one (.int .i64 0)]:=by
  have h1:=Sa ha hb
  have h2:=T0 ha hb
  refine Zy Tryz.func132 rfl ?_
  refine go tt [.c [] Qqy,.f rfl] rfl trivial ?_
  refine lp (S:=Nat) 3 (fun L1 i=>(22,.v (.one (.int .i64 (i:Int))))::L1) (fun i=>[.blk 67 (ta t),.blk 161 zCt,.blk 161 [.int .i64 1,.int .i64 (if 1≤i then a.id else 0),.int .i64 (if 2≤i then b.id else 0),.int .i64 0,.int .i64 0,.nils,.int .i64 0]]) (fun i=>2-i) (fun i=>i≤2) 0 (Nat.zero_le _) rfl (fun _ _=>rfl) rfl fun i hi=>?_
  rcases (show i=0∨i=1∨i=2 by omega) with rfl | rfl | rfl
  · refine go tt [.t rfl,.x (i:=0) (xs:=Jz a) rfl,.i 0] rfl (by simp [Qa]) ?_
    exact rd 1 (by omega) (by omega) rfl
  · refine go tt [.t rfl,.x (i:=1) (xs:=Jz b) rfl,.i 1] rfl (by simp [Qa]) ?_
    exact rd 2 (by omega) (by omega) rfl
  · exact en tt [.f rfl,.t rfl,.x (i:=0) (xs:=Jz a) rfl,.x (i:=1) (xs:=Jz b) rfl,.c [] (Qnb ha.n hb.n ha.cb hb.cb),.x (i:=0) (xs:=Jz a) rfl,.x (i:=1) (xs:=Jz b) rfl,.c [] (Qm5 ha.n hb.n ha.cb hb.cb),.c [] Qt9,.c [] (Q41 (Qcc h1 h2).dp ht)] rfl rfl trivial
end Orr

namespace Orr
variable {α:Type}
def J8 (lt:α→α→Bool) (out:List α) (x:α):Nat→Nat
  | 0=>0
  |
   k+1=>match out[k]? with
   | some y=>if lt x y=true then J8 lt out x k else k+1
   | none=>k+1
theorem Qfp (lt:α→α→Bool) (out:List α) (x:α):∀ k,J8 lt out x k≤k
  | 0=>Nat.le_refl _
  |
   k+1=>by
   simp only [J8]
   split
   · split
     · exact Nat.le_succ_of_le (Qfp lt out x k)
     · exact Nat.le_refl _
   · exact Nat.le_refl _
theorem Cu {lt:α→α→Bool} {out:List α} {x y:α} {k:Nat} (hx:out[k]? = some y) (h:lt x y=true):J8 lt out x (k+1)=J8 lt out x k:=by
  simp only [J8,hx,h,if_true]
theorem Pe {lt:α→α→Bool} {out:List α} {x y:α} {k:Nat} (hx:out[k]? = some y) (h:lt x y=false):J8 lt out x (k+1)=k+1:=by
  simp [J8,hx,h]
def K0 (lt:α→α→Bool) (out:List α) (x:α):List α:=out.take (J8 lt out x out.length)++x::out.drop (J8 lt out x out.length)
theorem Qwl (lt:α→α→Bool) (out:List α) (x:α):(K0 lt out x).length=out.length+1:=by
  have:=Qfp lt out x out.length
  simp [K0]; omega
theorem Qag {lt:α→α→Bool} {out:List α} {x y:α}:y∈K0 lt out x↔y=x∨y∈out:=by
  have h:y∈out↔y∈out.take (J8 lt out x out.length)∨y∈out.drop (J8 lt out x out.length):=by
    rw [←List.mem_append,List.take_append_drop]
  simp only [K0,List.mem_append,List.mem_cons,h]
  constructor
  · rintro (h | h | h)
    · exact .inr (.inl h)
    · exact .inl h
    · exact .inr (.inr h)
  · rintro (h | h | h)
    · exact .inr (.inl h)
    · exact .inl h
    · exact .inr (.inr h)
def Xd (lt:α→α→Bool) (l:List α):List α:=l.foldl (K0 lt) []
theorem Qmj (lt:α→α→Bool) (l:List α) (x:α):Xd lt (l++[x])=K0 lt (Xd lt l) x:=by simp [Xd,List.foldl_append]
theorem Tf {lt:α→α→Bool} {l:List α} {i:Nat} {x:α} (h:l[i]? = some x):Xd lt (l.take (i+1))=K0 lt (Xd lt (l.take i)) x:=by
  rw [List.take_succ,h]; exact Qmj _ _ _
theorem O7 (lt:α→α→Bool):∀ (l acc:List α),(l.foldl (K0 lt) acc).length=acc.length+l.length
  | [],acc=>by simp
  | c::l,acc=>by simp only [List.foldl_cons]; rw [O7 lt l (K0 lt acc c),Qwl]; simp; omega
theorem Yf (lt:α→α→Bool) (l:List α):(Xd lt l).length=l.length:=by unfold Xd; rw [O7]; simp
theorem Ng (lt:α→α→Bool):∀ (l acc:List α) {y:α},y∈l.foldl (K0 lt) acc↔y∈l∨y∈acc
  | [],acc,y=>by simp
  |
   c::l,acc,y=>by
   simp only [List.foldl_cons]
   rw [Ng lt l,Qag,List.mem_cons]
   constructor
   · rintro (h | h | h)
     · exact .inl (.inr h)
     · exact .inl (.inl h)
     · exact .inr h
   · rintro ((h | h) | h)
     · exact .inr (.inl h)
     · exact .inl h
     · exact .inr (.inr h)
theorem U8 {lt:α→α→Bool} {l:List α} {y:α}:y∈Xd lt l↔y∈l:=by
  unfold Xd; rw [Ng]; simp
end Orr

namespace Orr
open Go Orq
structure Wt where
  c:Ct
  known:Bool
  fails:Option Tm
def f0:Option Tm→LV | none=>.row [] | some t=>pl t.p
def f1:Option Tm→LV | none=>.bool false | some t=>sg t.lo.num
def f2:Option Tm→LV | none=>.row [] | some t=>mg t.lo.num
def f3:Option Tm→LV | none=>.bool false | some t=>sg (t.lo.den:Int)
def f4:Option Tm→LV | none=>.row [] | some t=>mg (t.lo.den:Int)
def f5:Option Tm→LV | none=>.bool false | some t=>sg t.hi.num
def f6:Option Tm→LV | none=>.row [] | some t=>mg t.hi.num
def f7:Option Tm→LV | none=>.bool false | some t=>sg (t.hi.den:Int)
def f8:Option Tm→LV | none=>.row [] | some t=>mg (t.hi.den:Int)
abbrev fl (o:Option Tm):List LV:=[f0 o,f1 o,f2 o,f3 o,f4 o,f5 o,f6 o,f7 o,f8 o]
abbrev wl (w:Wt):List LV:=[.int .i64 w.c.kind,.int .i64 w.c.i0,.int .i64 w.c.i1,.int .i64 w.c.i2,.int .i64 w.c.i3,pl w.c.p,.int .i64 w.c.want,.bool w.known,.bool w.fails.isSome,f0 w.fails,f1 w.fails,f2 w.fails,f3 w.fails,f4 w.fails,f5 w.fails,f6 w.fails,f7 w.fails,f8 w.fails]
def Nz (l:List Wt):List (List LV):=l.map fun w=>wl w
theorem Yx {l:List Wt} {i:Nat} {w:Wt} (h:l[i]? = some w):(Nz l)[i]? = some (wl w):=Z4 h
theorem Ui (l:List Wt):(Nz l).length=l.length:=by simp [Nz]
structure Cr where
  now:Tm
  l:List Wt
  ev:Int
abbrev Yo (c:Cr) (r0 r1:List (List LV)):List LV:=.bool true::pl c.now.p::sg c.now.lo.num::mg c.now.lo.num::sg (c.now.lo.den:Int)::mg (c.now.lo.den:Int)::sg c.now.hi.num::mg c.now.hi.num::sg (c.now.hi.den:Int)::mg (c.now.hi.den:Int)::.row (Nz c.l)::.int .i64 c.ev::[.row r0,.row r1]
structure WtOk (w:Wt):Prop where
  p:Cp w.c.p
  f:∀ t,w.fails=some t→Va t
structure CrOk (c:Cr):Prop where
  n:Va c.now
  l:∀ w∈c.l,WtOk w
  k:c.l.length≤1000
def Qyw (a b:Ct):Bool:=decide ([a.kind,a.i0,a.i1,a.i2,a.i3]=[b.kind,b.i0,b.i1,b.i2,b.i3])
def fresh (x:Ct):Wt:=⟨x,false,none⟩
def Fj:List Wt→Ct→Tm→Option Wt
  | [],x,_=>some (fresh x)
  |
   w::l,x,at_=>if Qyw w.c x=true∧w.known=true∧w.c.p=x.p then
     match w.fails with
     | none=>some ⟨x,true,none⟩
     | some t=>(D6 t at_).bind fun c=>if 0<c then some ⟨x,true,some t⟩ else Fj l x at_
   else Fj l x at_
def Gk (old:List Wt) (at_:Tm):List Ct→Option (List Wt)
  | []=>some []
  | x::l=>(Fj old x at_).bind fun w=>(Gk old at_ l).bind fun r=>some (w::r)
end Orr

namespace Orr
open Go Go.Proofs Orq
set_option maxRecDepth 10000
theorem Qd8 {T:Nat} {c:Cr} {r0 r1:List (List LV)} (hc:Va c.now):Z5 Tryz.prog 134 [.one (.ow 0 0)] [.blk T (Yo c r0 r1)] [.agg (ta c.now)] [.blk T (Yo c r0 r1)]:=by
  have cl:=Tu (b:=c.now) (l:=[]) hc.tb (fun t ht=>by cases ht) (by decide) rfl
  refine Zy Tryz.func134 rfl ?_
  exact ed tt [] [0] [.f rfl,.c [] cl] rfl trivial
theorem I5 {T:Nat} {c:Cr} {r0 r1:List (List LV)} (hc:CrOk c):Z5 Tryz.prog 37 [.one (.ow 0 0)] [.blk T (Yo c r0 r1)] [.one (.row (Z2 (Q6 (c.l.map (·.c)))))] [.blk T (Yo c r0 r1)]:=by
  have hk:=hc.k
  have hw:=Ui c.l
  refine Zy Tryz.func37 rfl ?_
  refine go tt [.o 3 161 7] rfl trivial ?_
  refine lp (S:=Nat) 2 (fun L1 i=>(11,.v (.one (.int .i64 (i:Int))))::(3,.v (.one (.orow 1 7 none)))::L1) (fun i=>[.blk T (Yo c r0 r1),.row false 161 7 (Z2 ((c.l.map (·.c)).take i))]) (fun i=>c.l.length-i) (fun i=>i≤c.l.length) 0 (Nat.zero_le _) rfl (fun _ _=>rfl) rfl fun i hi=>?_
  by_cases hlt:i<c.l.length
  · obtain ⟨x,hx⟩:∃ x,c.l[i]? = some x:=⟨_,List.getElem?_eq_getElem hlt⟩
    have hm:∀ y∈[Qbv x.c],y.length=7:=fun y hy=>by rw [List.mem_singleton.1 hy]; rfl
    have hg:(c.l.map (·.c)).take (i+1)=(c.l.map (·.c)).take i++[x.c]:=by
      rw [List.take_succ,List.getElem?_map,hx]; rfl
    have hl:decide ((i:Int)<((Nz c.l).length:Int))=true:=by simp [hw]; omega
    obtain ⟨xc,xk,xf⟩:=x
    cases xf <;> (refine go tt [.t hl,.x (Yx hx),.s (sz:=7) hm] rfl (by simp [Qa,Fe]; omega) ?_; exact rd (i+1) (by omega) hlt (by rw [hg]; simp [Z2]; rfl))
  · obtain rfl:i=c.l.length:=by omega
    have e:(c.l.map (·.c)).take c.l.length=c.l.map (·.c):=List.take_of_length_le (by simp)
    rw [e]
    have cs:=Qkg (l:=c.l.map (·.c)) (fun x hx=>by
      obtain ⟨w,hw,rfl⟩:=List.mem_map.1 hx
      exact Dp.pb (hc.l w hw).p.dp) (by simp; omega)
    exact ed tt [] [0] [.f (by simp [hw]),.c [] cs] rfl trivial
theorem Q6c {T:Nat} {c:Cr} {r0 r1:List (List LV)} {x:Ct} {at_:Tm} {w:Wt} (hc:CrOk c) (hx:Cp x.p) (ha:Va at_) (h:Fj c.l x at_=some w):Z5 Tryz.prog 173 [.one (.ow 0 0),.agg (Qbv x),.agg (ta at_)] [.blk T (Yo c r0 r1)] [.agg (wl w)] [.blk T (Yo c r0 r1)]:=by
  have hk:=hc.k
  have hw:=Ui c.l
  refine Zy Tryz.func173 rfl ?_
  refine go tt [] rfl trivial ?_
  refine lp (S:=Nat) 4 (fun L1 i=>(14,.v (.one (.int .i64 (i:Int))))::L1) (fun _=>[.blk T (Yo c r0 r1),.blk 161 (Qbv x),.blk 67 (ta at_),.blk 164 [.int .i64 0,.int .i64 0,.int .i64 0,.int .i64 0,.int .i64 0,.nils,.int .i64 0,.bool false,.bool false,.nils,.bool false,.nils,.bool false,.nils,.bool false,.nils,.bool false,.nils]]) (fun i=>c.l.length-i) (fun i=>i≤c.l.length∧Fj (c.l.drop i) x at_=some w) 0 ⟨Nat.zero_le _,h⟩ rfl (fun _ _=>rfl) rfl fun i ⟨hi,hf⟩=>?_
  by_cases hlt:i<c.l.length
  · obtain ⟨v,hv⟩:∃ v,c.l[i]? = some v:=⟨_,List.getElem?_eq_getElem hlt⟩
    have hdr:c.l.drop i=v::c.l.drop (i+1):=by
      rw [List.drop_eq_getElem_cons hlt]; congr 1
      have:=List.getElem?_eq_getElem hlt; rw [hv] at this; injection this with this; exact this.symm
    have hvo:=hc.l v (List.mem_of_getElem? hv)
    rw [hdr] at hf
    simp only [Fj] at hf
    have hl:decide ((i:Int)<((Nz c.l).length:Int))=true:=by simp [hw]; omega
    by_cases A:Qyw v.c x=true
    · have A':(!decide ([v.c.kind,v.c.i0,v.c.i1,v.c.i2,v.c.i3]=[x.kind,x.i0,x.i1,x.i2,x.i3]))=false:=by
        unfold Qyw at A; rw [A]; rfl
      by_cases B:v.known=true
      · have B':(!v.known)=false:=by rw [B]; rfl
        have cs:=Q00 (p:=v.c.p) (q:=x.p) (Dp.pb hvo.p.dp).ln (Dp.pb hx.dp).ln (Dp.pb hvo.p.dp).bd (Dp.pb hx.dp).bd
        rw [hvo.p.t,hx.t] at cs
        by_cases C:v.c.p=x.p
        · have C':(!decide (v.c.p=x.p))=false:=by simp [C]
          rw [if_pos ⟨A,B,C⟩] at hf
          obtain ⟨vc,vk,vf⟩:=v
          cases vf with
          |
           none =>
           injection hf with hf; subst hf
           exact ed tt [] [0] [.t hl,.x (Yx hv),.g 24 false A',.g 29 false B',.c [] cs,.f C',.g 41 true rfl,.t rfl] rfl trivial
          |
           some t =>
           obtain ⟨r,r1',hf⟩:=Option.bind_eq_some_iff.1 hf
           have cc:=I3 (hvo.f t rfl).tb ha.tb r1'
           by_cases D:0<r
           · rw [if_pos D] at hf
             injection hf with hf; subst hf
             exact ed tt [] [0] [.t hl,.x (Yx hv),.g 24 false A',.g 29 false B',.c [] cs,.f C',.g 41 false rfl,.c [] cc,.t (by simpa using D)] rfl trivial
           · rw [if_neg D] at hf
             refine go tt [.t hl,.x (Yx hv),.g 24 false A',.g 29 false B',.c [] cs,.f C',.g 41 false rfl,.c [] cc,.f (by simpa using D)] rfl (by simp [Qa]; omega) ?_
             exact rd (i+1) (by omega) ⟨hlt,hf⟩ rfl
        · rw [if_neg fun h=>C h.2.2] at hf
          refine go tt [.t hl,.x (Yx hv),.g 24 false A',.g 29 false B',.c [] cs,.t (by simp [C])] rfl (by simp [Qa]; omega) ?_
          exact rd (i+1) (by omega) ⟨hlt,hf⟩ rfl
      · rw [if_neg fun h=>B h.2.1] at hf
        refine go tt [.t hl,.x (Yx hv),.g 24 false A',.g 29 true (by simpa using B),.t rfl] rfl (by simp [Qa]; omega) ?_
        exact rd (i+1) (by omega) ⟨hlt,hf⟩ rfl
    · rw [if_neg fun h=>A h.1] at hf
      refine go tt [.t hl,.x (Yx hv),.g 24 true (by rw [show decide ([v.c.kind,v.c.i0,v.c.i1,v.c.i2,v.c.i3]=[x.kind,x.i0,x.i1,x.i2,x.i3])=false from Bool.eq_false_iff.2 A]; rfl),.g 29 true rfl,.t rfl] rfl (by simp [Qa]; omega) ?_
      exact rd (i+1) (by omega) ⟨hlt,hf⟩ rfl
  · obtain rfl:i=c.l.length:=by omega
    rw [List.drop_length] at hf
    simp only [Fj] at hf
    injection hf with hf; subst hf
    exact ed tt [] [0] [.f (by simp [hw])] rfl trivial
end Orr

namespace Orr
open Go Go.Proofs Orq
set_option maxRecDepth 10000
theorem Ce {old:List Wt} {at_:Tm}:∀ {l:List Ct} {ws:List Wt},Gk old at_ l=some ws→ws.length=l.length∧∀ (i:Nat) (x:Ct),l[i]? = some x→∃ w,Fj old x at_=some w∧ws[i]? = some w
  | [],ws,h=>by injection h with h; subst h; exact ⟨rfl,fun i x hx=>by simp at hx⟩
  |
   y::l,ws,h=>by
   simp only [Gk] at h
   obtain ⟨w,hw,h⟩:=Option.bind_eq_some_iff.1 h
   obtain ⟨r,hr,h⟩:=Option.bind_eq_some_iff.1 h
   injection h with h; subst h
   obtain ⟨a,b⟩:=Ce hr
   refine ⟨by simp [a],fun i x hx=>?_⟩
   cases i with
   | zero=>injection hx with hx; subst hx; exact ⟨w,hw,rfl⟩
   | succ i=>exact b i x (by simpa using hx)
theorem Ep {l:List Wt} {i:Nat} {w:Wt} (h:l[i]? = some w):Nz (l.take (i+1))=Nz (l.take i)++[wl w]:=by
  rw [List.take_succ,h]; simp [Nz]
theorem Qm7 {T:Nat} {c:Cr} {r0 r1:List (List LV)} {at_:Tm} {l:List Ct} {ws:List Wt} (hc:CrOk c) (ha:Va at_) (hl:∀ x∈l,Cp x.p) (hn:l.length≤1000) (h:Gk c.l at_ (Q6 l)=some ws):Z5 Tryz.prog 124 [.one (.ow 0 0),.agg (ta at_),.one (.bool true),.one (.row (Z2 l))] [.blk T (Yo c r0 r1)] [] [.blk T (Yo ⟨at_,ws,c.ev⟩ r0 r1)]:=by
  have cs:=Qkg (l:=l) (fun x hx=>Dp.pb (hl x hx).dp) (by omega)
  have cl:=Tu (b:=at_) (l:=[]) ha.tb (fun t ht=>by cases ht) (by decide) rfl
  obtain ⟨h1,h2⟩:=Ce h
  have hs:(Q6 l).length=l.length:=Wp l
  refine Zy Tryz.func124 rfl ?_
  refine go tt [.o 8 164 18,.c [] cs] rfl trivial ?_
  refine lp (S:=Nat) 3 (fun L1 i=>(15,.v (.one (.int .i64 (i:Int))))::(8,.v (.one (.orow 2 18 none)))::L1) (fun i=>[.blk T (Yo c r0 r1),.blk 67 (ta at_),.row false 164 18 (Nz (ws.take i))]) (fun i=>ws.length-i) (fun i=>i≤ws.length) 0 (Nat.zero_le _) rfl (fun _ _=>rfl) rfl fun i hi=>?_
  by_cases hlt:i<ws.length
  · obtain ⟨x,hx⟩:∃ x,(Q6 l)[i]? = some x:=⟨_,List.getElem?_eq_getElem (by omega)⟩
    obtain ⟨w,hw,hw'⟩:=h2 i x hx
    have hm:∀ y∈[wl w],y.length=18:=fun y hy=>by rw [List.mem_singleton.1 hy]; rfl
    have hlt':decide ((i:Int)<((Z2 (Q6 l)).length:Int))=true:=by simp [Z2]; omega
    have ck:=Q6c (T:=T) (r0:=r0) (r1:=r1) hc (hl x (U7 (List.mem_of_getElem? hx))) ha hw
    have hg:=Ep hw'
    obtain ⟨wc,wk,wf⟩:=w
    cases wf <;> (refine go tt [.t hlt',.x (D8 hx),.t rfl,.c [0] ck,.s (sz:=18) hm] rfl (by simp [Qa,Ui]; omega) ?_; exact rd (i+1) (by omega) hlt (by rw [hg]; rfl))
  · obtain rfl:i=ws.length:=by omega
    rw [List.take_length]
    have hge:decide ((ws.length:Int)<((Z2 (Q6 l)).length:Int))=false:=by simp [Z2]; omega
    exact ed tt [] [0] [.f hge,.p 2,.c [] cl] rfl trivial
abbrev crz (r0 r1:LV):List LV:=[.bool false,.nils,.bool false,.nils,.bool false,.nils,.bool false,.nils,.bool false,.nils,.nils,.int .i64 0,r0,r1]
theorem Q0t {T:Nat} {r0 r1:List (List LV)} {at_:Tm} {l:List Ct} (ha:Va at_) (hl:∀ x∈l,Cp x.p) (hn:l.length≤1000):Z5 Tryz.prog 124 [.one (.ow 0 0),.agg (ta at_),.one (.bool false),.one (.row (Z2 l))] [.blk T (crz (.row r0) (.row r1))] [] [.blk T (Yo ⟨at_,(Q6 l).map fresh,0⟩ r0 r1)]:=by
  have cs:=Qkg (l:=l) (fun x hx=>Dp.pb (hl x hx).dp) (by omega)
  have cl:=Tu (b:=at_) (l:=[]) ha.tb (fun t ht=>by cases ht) (by decide) rfl
  have hs:(Q6 l).length=l.length:=Wp l
  refine Zy Tryz.func124 rfl ?_
  refine go tt [.o 8 164 18,.c [] cs] rfl trivial ?_
  refine lp (S:=Nat) 3 (fun L1 i=>(15,.v (.one (.int .i64 (i:Int))))::(8,.v (.one (.orow 2 18 none)))::L1) (fun i=>[.blk T (crz (.row r0) (.row r1)),.blk 67 (ta at_),.row false 164 18 (Nz (((Q6 l).map fresh).take i))]) (fun i=>l.length-i) (fun i=>i≤l.length) 0 (Nat.zero_le _) rfl (fun _ _=>rfl) rfl fun i hi=>?_
  by_cases hlt:i<l.length
  · obtain ⟨x,hx⟩:∃ x,(Q6 l)[i]? = some x:=⟨_,List.getElem?_eq_getElem (by omega)⟩
    have hm:∀ y∈[wl (fresh x)],y.length=18:=fun y hy=>by rw [List.mem_singleton.1 hy]; rfl
    have hlt':decide ((i:Int)<((Z2 (Q6 l)).length:Int))=true:=by simp [Z2]; omega
    have hg:=Ep (l:=(Q6 l).map fresh) (i:=i) (w:=fresh x) (by rw [List.getElem?_map,hx]; rfl)
    refine go tt [.t hlt',.x (D8 hx),.z 20,.f rfl,.s (sz:=18) hm] rfl (by simp [Qa,Ui]; omega) ?_
    exact rd (i+1) (by omega) hlt (by rw [hg]; rfl)
  · obtain rfl:i=l.length:=by omega
    rw [List.take_of_length_le (by simp; omega)]
    have hge:decide ((l.length:Int)<((Z2 (Q6 l)).length:Int))=false:=by simp [Z2]; omega
    exact ed tt [] [0] [.f hge,.p 2,.c [] cl] rfl trivial
theorem Qqq {T:Nat} {r0 r1:List (List LV)} {at_:Tm} {l:List Ct} (ha:Va at_) (hl:∀ x∈l,Cp x.p) (hn:l.length≤1000):Z5 Tryz.prog 79 [.one (.ow 0 0),.agg (ta at_),.one (.row (Z2 l))] [.blk T (crz (.row r0) (.row r1))] [] [.blk T (Yo ⟨at_,(Q6 l).map fresh,0⟩ r0 r1)]:=by
  have cl:=Q0t (T:=T) (r0:=r0) (r1:=r1) ha hl hn
  refine Zy Tryz.func79 rfl ?_
  exact ed tt [] [0] [.g 12 false rfl,.c [0] cl] rfl trivial
theorem eB {a b:Bool} (h:a=b):TV.one (LV.bool a)=.one (.bool b):=h ▸ rfl
theorem Qqr {T:Nat} {c:Cr} {r0 r1:List (List LV)} {at_:Tm} {l:List Ct} {ws:List Wt} {k:Int} (hc:CrOk c) (ha:Va at_) (hk:D6 at_ c.now=some k) (h0:0≤k) (hl:∀ x∈l,Cp x.p) (hn:l.length≤1000) (h:Gk c.l at_ (Q6 l)=some ws):Z5 Tryz.prog 79 [.one (.ow 0 0),.agg (ta at_),.one (.row (Z2 l))] [.blk T (Yo c r0 r1)] [] [.blk T (Yo ⟨at_,ws,c.ev⟩ r0 r1)]:=by
  have cl:=Qm7 (T:=T) (r0:=r0) (r1:=r1) hc ha hl hn h
  have cc:=I3 ha.tb hc.n.tb hk
  refine Zy Tryz.func79 rfl ?_
  exact ed tt [] [0] [.g 12 true rfl,.c [] cc,.r 20 (eB (show decide (0≤k)=true by simpa using h0)),.c [0] cl] rfl trivial
end Orr

namespace Orr
open Go Go.Proofs Orq
set_option maxRecDepth 10000
theorem A8:∀ {k:Nat} {g:List Int} {l:List (List Int)},Pb g→Lr k g=some l→l.length≤k∧∀ p∈l,Pb p
  | 0,_,_,_,h=>by cases h
  |
   k+1,g,l,hg,h=>by
   simp only [Lr] at h
   split at h
   · injection h with h; subst h; exact ⟨by simp,fun p hp=>by cases hp⟩
   · obtain ⟨d,hd,h⟩:=Option.bind_eq_some_iff.1 h
     obtain ⟨rfl,hdp⟩:=Qaw hd
     obtain ⟨x,hx,h⟩:=Option.bind_eq_some_iff.1 h
     obtain ⟨q,hq,h⟩:=Option.bind_eq_some_iff.1 h
     obtain ⟨r,hr,h⟩:=Option.bind_eq_some_iff.1 h
     injection h with h; subst h
     obtain ⟨i1,i2⟩:=A8 (Ea hg hdp hx) hr
     refine ⟨by simp; exact i1,fun p hp=>?_⟩
     rcases List.mem_cons.1 hp with rfl | hp
     · exact Qll hq
     · exact i2 p hp
theorem Que {a:List Int} {l:List (List Int)} (ha:Pb a) (h:Lr 66 (Qo a)=some l):Qc Tryz.prog 334 [pr a] [.one (.row (Jw l))]:=by
  have hp:=Xv ha
  refine Zy Tryz.func334 rfl ?_
  refine go tt [.o 3 26 1,.c [] (Gb ha)] rfl trivial ?_
  refine lp (S:=Nat×List (List Int)×List Int) 1 (fun L1 s=>(4,.v (pr s.2.2))::(3,.v (.one (.orow 0 1 none)))::L1) (fun s=>[.row false 26 1 (Jw s.2.1)]) (fun s=>s.1) (fun s=>Pb s.2.2∧s.2.1.length+s.1≤66∧∃ m,Lr s.1 s.2.2=some m∧s.2.1++m=l) (66,[],Qo a) ⟨hp,Nat.le_refl _,l,h,rfl⟩ rfl (fun _ _=>rfl) rfl fun ⟨k,out,g⟩ ⟨j1,j2,m,j3,j4⟩=>?_
  dsimp only at j1 j2 j3 j4 ⊢
  cases k with
  | zero=>cases j3
  |
   succ k =>
   simp only [Lr] at j3
   split at j3
   · rename_i h0
     injection j3 with j3; subst j3
     rw [List.append_nil] at j4
     subst j4
     exact en tt [.c [] (Vb _),.f (by simp; omega)] rfl rfl trivial
   · rename_i h0
     obtain ⟨d,hd,j3⟩:=Option.bind_eq_some_iff.1 j3
     obtain ⟨rfl,hdp⟩:=Qaw hd
     obtain ⟨x,hx,j3⟩:=Option.bind_eq_some_iff.1 j3
     obtain ⟨q,hq,j3⟩:=Option.bind_eq_some_iff.1 j3
     obtain ⟨r,hr,j3⟩:=Option.bind_eq_some_iff.1 j3
     injection j3 with j3; subst j3
     have hxp:=Ea j1 hdp hx
     refine go tt [.c [] (Vb _),.t (by simp; omega),.c [] (Hd j1.ln j1.bd),.c [] (Qnr j1 hdp hx),.c [] (Quq j1 hxp hq),.s (sz:=1) (l:=[[pl q]]) (fun c hc=>by rw [List.mem_singleton.1 hc]; rfl)] rfl (by simp [Qa,U4]; omega) ?_
     exact rd (k,out++[q],x) (by dsimp only; omega) ⟨hxp,by simp; omega,r,hr,by rw [←j4]; simp⟩ (by rw [Qaz]; rfl)
theorem O1:∀ {l r:List (List Int)},Qbq l=some r→r.length=l.length∧∀ i w,l[i]? = some w→match l[i+1]? with
    | some v=>∃ f,Pf w v=some f∧r[i]? = some f
    | none=>r[i]? = some w
  | [],r,h=>by injection h with h; subst h; exact ⟨rfl,fun i w hw=>by simp at hw⟩
  |
   [w],r,h=>by
   injection h with h; subst h
   refine ⟨rfl,fun i x hx=>?_⟩
   cases i with
   | zero=>simpa using hx
   | succ i=>simp at hx
  |
   w::v::l,r,h=>by
   simp only [Qbq] at h
   obtain ⟨f,hf,h⟩:=Option.bind_eq_some_iff.1 h
   obtain ⟨s,hs,h⟩:=Option.bind_eq_some_iff.1 h
   injection h with h; subst h
   obtain ⟨i1,i2⟩:=O1 hs
   refine ⟨by simp [i1],fun i x hx=>?_⟩
   cases i with
   |
    zero =>
    injection hx with hx; subst hx
    exact ⟨f,hf,rfl⟩
   |
    succ i =>
    have:=i2 i x (by simpa using hx)
    simpa using this
theorem Qev:∀ {l r:List (List Int)},(∀ p∈l,Pb p)→Qbq l=some r→∀ p∈r,Pb p
  | [],r,_,h=>by injection h with h; subst h; exact fun p hp=>by cases hp
  | [w],r,hl,h=>by injection h with h; subst h; exact hl
  |
   w::v::l,r,hl,h=>by
   simp only [Qbq] at h
   obtain ⟨f,hf,h⟩:=Option.bind_eq_some_iff.1 h
   obtain ⟨s,hs,h⟩:=Option.bind_eq_some_iff.1 h
   injection h with h; subst h
   intro p hp
   rcases List.mem_cons.1 hp with rfl | hp
   · exact Qll hf
   · exact Qev (fun p hp=>hl p (List.mem_cons_of_mem _ hp)) hs p hp
theorem Qqp {a:List Int} {l r:List (List Int)} (ha:Pb a) (h:Lr 66 (Qo a)=some l) (hr:Qbq l=some r):Qc Tryz.prog 322 [pr a] [.one (.row (Jw r))]:=by
  obtain ⟨i1,i2⟩:=A8 (Xv ha) h
  obtain ⟨j1,j2⟩:=O1 hr
  have hw:=U4 l
  refine Zy Tryz.func322 rfl ?_
  refine go tt [.c [] (Que ha h),.i (Jw l).length,.i (Jw l).length] rfl (by simp [Qa,hw]; omega) ?_
  rw [hw,Fg fun i=>[pl (r.getD i [])]]
  refine lp (S:=Nat) 1 (fun L1 k=>(14,.v (.one (.int .i64 (k:Int))))::L1) (fun k=>[.row false 26 1 (fil (fun i=>[pl (r.getD i [])]) [.nils] l.length k)]) (fun k=>l.length-k) (fun k=>k≤l.length) 0 (Nat.zero_le _) rfl (fun _ _=>rfl) rfl fun k hk=>?_
  by_cases hlt:k<l.length
  · obtain ⟨w,hx⟩:∃ w,l[k]? = some w:=⟨_,List.getElem?_eq_getElem hlt⟩
    have e:=Rt (fun i=>[pl (r.getD i [])]) [.nils] hlt
    have hg:=j2 k w hx
    by_cases h2:k+1<l.length
    · obtain ⟨v,hv⟩:∃ v,l[k+1]? = some v:=⟨_,List.getElem?_eq_getElem h2⟩
      rw [hv] at hg
      obtain ⟨f,f1,f2⟩:=hg
      have e2:r.getD k []=f:=by rw [List.getD_eq_getElem?_getD,f2]; rfl
      rw [e2] at e
      refine go tt [.t (by simp [hw]; omega),.x (Xo hx),.i k,.t (by simp [hw]; omega),.x (i:=k+1) (Xo hv),.c [] (Quq (i2 w (List.mem_of_getElem? hx)) (i2 v (List.mem_of_getElem? hv)) f1),.i k] rfl (by simp [Qa,Gj,hw]; omega) ?_
      rw [List.set_set,e]
      exact rd (k+1) (by omega) hlt rfl
    · have hv:l[k+1]? = none:=List.getElem?_eq_none (by omega)
      rw [hv] at hg
      have e2:r.getD k []=w:=by rw [List.getD_eq_getElem?_getD,hg]; rfl
      rw [e2] at e
      refine go tt [.t (by simp [hw]; omega),.x (Xo hx),.i k,.f (by simp [hw]; omega)] rfl (by simp [Qa,Gj,hw]; omega) ?_
      rw [e]
      exact rd (k+1) (by omega) hlt rfl
  · obtain rfl:k=l.length:=by omega
    have e:fil (fun i=>[pl (r.getD i [])]) [.nils] l.length l.length=Jw r:=by
      rw [Rr,←j1]
      refine List.ext_getElem? fun i=>?_
      simp only [Jw,List.getElem?_map]
      by_cases hi:i<r.length
      · rw [List.getElem?_range hi]; simp [List.getD_eq_getElem?_getD,List.getElem?_eq_getElem hi]
      · rw [List.getElem?_eq_none (by simpa using hi),List.getElem?_eq_none (by simpa using hi)]; rfl
    rw [e]
    exact en tt [.f (by simp [hw])] rfl rfl trivial
theorem Qls {p:List Int} (tp:Qj p):Qo (Qo p)=Qo p:=by
  by_cases h:p.length=0
  · have e:Qo p=[]:=by unfold Qo; rw [if_pos h]
    rw [e]; rfl
  · obtain ⟨h1,h2,h3,h4,_⟩:=Kn tp h
    have hc:J0 (Qo p)=1:=by
      have h5:J0 (Qo p)∣1:=h3 _ fun k=>by
        by_cases hk:k<(Qo p).length
        · rw [List.getD_eq_getElem?_getD,List.getElem?_eq_getElem hk]; exact U3 _ (List.getElem_mem hk)
        · rw [List.getD_eq_getElem?_getD,List.getElem?_eq_none (by omega)]; exact Int.dvd_zero _
      have h6:0≤J0 (Qo p):=by unfold J0; omega
      exact Int.eq_one_of_dvd_one h6 h5
    have hf:∀ q:List Int,0<Qr q→Z1 q=J0 q:=fun q hq=>by unfold Z1; rw [if_neg (by omega)]
    have hf:=(hf _ h4).trans hc
    have e0:∀ q:List Int,q.length≠0→Qo q=K9 q (Z1 q):=fun q hq=>by unfold Qo; rw [if_neg hq]
    have e:=e0 (Qo p) (by omega)
    rw [hf] at e
    rw [e]
    unfold K9
    have e2:(Qo p).map (· / (1:Int))=Qo p:=by
      conv=>rhs; rw [←List.map_id (Qo p)]
      exact List.map_congr_left fun z _=>by simp
    rw [e2]
    exact h1
theorem Qp5 (i:Nat):(i:Int).tmod 2=((i % 2:Nat):Int):=rfl
theorem Q6h {a:List Int} (ha:Pb a) (h:(Qo a).length=0):Qc Tryz.prog 304 [pr a] [pr []] :=
  w tt Tryz.func304 rfl [.c [] (Gb ha),.t (by simp [List.eq_nil_of_length_eq_zero h])] rfl rfl trivial
theorem Mb:∀ {l:List (List Int)} {i:Nat} {p o:List Int},Pb p→(∀ f∈l,Pb f)→Cn i p l=some o→Pb o
  | [],i,p,o,hp,_,h=>by simp only [Cn] at h; injection h with h; subst h; exact hp
  |
   f::l,i,p,o,hp,hl,h=>by
   simp only [Cn] at h
   split at h
   · obtain ⟨q,hq,h⟩:=Option.bind_eq_some_iff.1 h
     obtain ⟨rfl,hq'⟩:=Rk (Zz _ _) hq
     exact Mb hq' (fun f hf=>hl f (List.mem_cons_of_mem _ hf)) h
   · exact Mb hp (fun f hf=>hl f (List.mem_cons_of_mem _ hf)) h
theorem Qxl:Pb [1]:=⟨rfl,by decide,fun z hz=>by rw [List.mem_singleton.1 hz]; decide⟩
theorem Q9i {a o:List Int} (ha:Pb a) (h:Qlp a=some o):Qc Tryz.prog 304 [pr a] [pr o]:=by
  unfold Qlp at h
  split at h
  · rename_i h0
    injection h with h; subst h
    exact Q6h ha h0
  rename_i h0
  obtain ⟨l,hl,h⟩:=Option.bind_eq_some_iff.1 h
  obtain ⟨fs,hf,h⟩:=Option.bind_eq_some_iff.1 h
  have hpa:=Xv ha
  have hl':Lr 66 (Qo (Qo a))=some l:=by rw [Qls ha.t]; exact hl
  obtain ⟨i1,i2⟩:=A8 (Xv ha) hl
  have i3:=Qev i2 hf
  obtain ⟨j1,_⟩:=O1 hf
  have hw:=U4 fs
  have co:=Qto (p:=[1]) (by decide) (fun z hz=>by rw [List.mem_singleton.1 hz]; decide)
  rw [show trim [1]=[1] from rfl] at co
  refine Zy Tryz.func304 rfl ?_
  refine go tt [.c [] (Gb ha),.f (by simpa using h0),.c [] co,.c [] (Qqp hpa hl' hf)] rfl (by simp [Qa]) ?_
  refine lp (S:=Nat×List Int) 0 (fun L1 s=>(16,.v (.one (.int .i64 (s.1:Int))))::(3,.v (pr s.2))::L1) (fun _=>[]) (fun s=>fs.length-s.1) (fun s=>s.1≤fs.length∧Pb s.2∧Cn s.1 s.2 (fs.drop s.1)=some o) (0,[1]) ⟨Nat.zero_le _,Qxl,h⟩ rfl (fun _ _=>rfl) rfl fun ⟨i,p⟩ ⟨k1,k2,k3⟩=>?_
  dsimp only at k1 k2 k3 ⊢
  by_cases hlt:i<fs.length
  · obtain ⟨f,hx⟩:∃ w,fs[i]? = some w:=⟨_,List.getElem?_eq_getElem hlt⟩
    have hdr:fs.drop i=f::fs.drop (i+1):=by
      rw [List.drop_eq_getElem_cons hlt]; congr 1
      have:=List.getElem?_eq_getElem hlt; rw [hx] at this; injection this with this; exact this.symm
    rw [hdr] at k3
    simp only [Cn] at k3
    have pf:=i3 f (List.mem_of_getElem? hx)
    by_cases h2:i % 2=0
    · rw [if_pos h2] at k3
      obtain ⟨q,hq,k3⟩:=Option.bind_eq_some_iff.1 k3
      obtain ⟨rfl,hq'⟩:=Rk (Zz _ _) hq
      refine go tt [.t (by simp [hw]; omega),.x (Xo hx),.t (by rw [Qp5,h2]; rfl),.c [] (Qkb k2.t pf.t (Nat.lt_of_le_of_lt k2.l (by decide)) (Nat.lt_of_le_of_lt pf.l (by decide)) k2.b pf.b (by decide))] rfl (by simp [Qa]; omega) ?_
      exact rd (i+1,Zp p f) (by dsimp only; omega) ⟨hlt,hq',k3⟩ rfl
    · rw [if_neg h2] at k3
      refine go tt [.t (by simp [hw]; omega),.x (Xo hx),.f (by rw [Qp5,show i % 2=1 by omega]; rfl)] rfl (by simp [Qa]; omega) ?_
      exact rd (i+1,p) (by dsimp only; omega) ⟨hlt,k2,k3⟩ rfl
  · obtain rfl:i=fs.length:=by omega
    rw [List.drop_length] at k3
    simp only [Cn] at k3
    injection k3 with k3; subst k3
    exact en tt [.f (by simp [hw])] rfl rfl trivial
end Orr

namespace Orr
open Go Go.Proofs Orq
set_option maxRecDepth 10000
theorem Rv (z:Int):Qm (z.natAbs:Int)=Qm z:=by unfold Qm; simp
theorem Qt4 {x y:LV} {z:Int} (hi:Xc x y z) (hs:Qm z≤4294967295):Qc Tryz.prog 330 [.agg [x,y]] [.agg (Ze (z.natAbs:Int))]:=by
  obtain ⟨b,l,rfl,rfl,hl,rfl⟩:=hi
  have e:(Qi false (val l))=((Qi b (val l)).natAbs:Int):=by rw [Xu]; rfl
  rw [←e]
  exact w tt Tryz.func330 rfl [.c [] (Na hl (Nat.le_trans (Yd hs) (by decide))),.c [] (Yh _ _)] rfl rfl trivial
theorem Q1n {n d:Int} (h0:d≠0) (hn:Qm n≤4294967295) (hd:Qm d≤4294967295):Qc Tryz.prog 331 [.agg (Ze n),.agg (Ze d)] [.agg (rl (Rat.divInt n d)),.one (.int .i64 0)] :=
  w tt Tryz.func331 rfl [.c [] (Y0 (Qe d) hd),.c [] Uk,.f (by simpa using h0),.c [] (Y0 (Qe n) hn),.c [] (Tw h0 hn hd)] rfl rfl trivial
theorem Qrw (l:List Int) (z:Int):most (l++[z])=if most l<z.natAbs then z.natAbs else most l:=by unfold most; rw [List.foldl_append]; rfl
theorem Qo5 {s:Nat}:∀ {l:List Int},Bd s l→Qm (most l:Int)≤s:=fun {l}=>by
  suffices h:∀ (l:List Int) (m:Nat),Bd s l→Qm (m:Int)≤s→Qm ((l.foldl (fun m z=>if m<z.natAbs then z.natAbs else m) m:Nat):Int)≤s from fun hb=>h l 0 hb (by simp [Qm,sz])
  intro l
  induction l with
  | nil=>exact fun m _ h=>h
  |
   cons z l ih =>
   intro m hb hm
   refine ih _ (fun y hy=>hb y (List.mem_cons_of_mem _ hy)) ?_
   show Qm ((if m<z.natAbs then z.natAbs else m:Nat):Int)≤s
   split
   · rw [Rv]; exact hb z (List.mem_cons_self ..)
   · exact hm
def ozi:Option Nat→List LV
  | none=>[.bool false,.nils]
  | some m=>Ze (m:Int)
def ozr:Option Nat→List LV
  | none=>[.bool false,.row []]
  | some m=>Ze (m:Int)
theorem Q0p {p:List Int} (hp:Pb p) (h0:p.length≠0):Qc Tryz.prog 319 [pr p] [.agg (rl (Zv p)),.one (.int .i64 0)]:=by
  have hl:=hp.l
  have hll:(p.take (p.length-1)).length=p.length-1:=by simp
  have hbt:Bd 16777216 (p.take (p.length-1)):=fun z hz=>hp.b z (List.mem_of_mem_take hz)
  refine Zy Tryz.func319 rfl ?_
  refine go tt [.c [] (Xa hp.t hp.ln hp.bd),.f (by simpa using h0),.r 18 (eI (b:=((p.length-1:Nat):Int)) (by simp; omega)),.i (p.length-1)] rfl (by simp [Qa]; omega) ?_
  rw [←List.map_take]
  refine lp (S:=Nat×Option Nat) 2 (fun L1 s=>(21,.v (.one (.int .i64 (s.1:Int))))::L1) (fun s=>[.blk 41 [.bool false,.nils,.bool false,.nils],.blk 29 (ozi s.2)]) (fun s=>p.length-1-s.1) (fun s=>s.1≤p.length-1∧most ((p.take (p.length-1)).take s.1)=s.2.getD 0) (0,none) ⟨Nat.zero_le _,rfl⟩ rfl (fun _ _=>rfl) rfl fun ⟨i,o⟩ ⟨j1,j2⟩=>?_
  dsimp only at j1 j2 ⊢
  by_cases hlt:i<p.length-1
  · obtain ⟨z,hz⟩:∃ w,(p.take (p.length-1))[i]? = some w:=⟨_,List.getElem?_eq_getElem (by omega)⟩
    have bz:Qm z≤16777216:=hbt z (List.mem_of_getElem? hz)
    have hst:most ((p.take (p.length-1)).take (i+1))=if o.getD 0<z.natAbs then z.natAbs else o.getD 0:=by
      rw [List.take_succ,hz]; show most (_++[z])=_; rw [Qrw,j2]
    have ca:=Qt4 (Qe z) (Nat.le_trans bz (by decide))
    have hl1:decide ((i:Int)<(((p.take (p.length-1)).map Ze).length:Int))=true:=by simp; omega
    have bm:Qm ((o.getD 0:Nat):Int)≤16777216:=by rw [←j2]; exact Qo5 fun y hy=>hbt y (List.mem_of_mem_take hy)
    have hcm:Ka (z.natAbs:Int) ((o.getD 0:Nat):Int)>0↔o.getD 0<z.natAbs:=by unfold Ka; split <;> (try split) <;> omega
    have cc:Qc Tryz.prog 199 [.agg (Ze (z.natAbs:Int)),.agg (ozr o)] [.one (.int .i64 (Ka (z.natAbs:Int) ((o.getD 0:Nat):Int)))]:=by
      cases o with
      | none=>exact I9 (Qe _) Yq (by rw [Rv]; omega) (by decide)
      | some m=>exact I9 (Qe _) (Qe _) (by rw [Rv]; omega) (Nat.le_trans bm (by decide))
    by_cases hc:o.getD 0<z.natAbs
    · rw [if_pos hc] at hst
      have hd:decide (Ka (z.natAbs:Int) ((o.getD 0:Nat):Int)>0)=true:=by simpa using hcm.2 hc
      cases o <;> (refine go tt [.t hl1,.x (Z4 (f:=Ze) hz),.c [] ca,.c [] cc,.t hd] rfl (by simp [Qa]; omega) ?_; exact rd (i+1,some z.natAbs) (by dsimp only; omega) ⟨hlt,hst⟩ rfl)
    · rw [if_neg hc] at hst
      have hd:decide (Ka (z.natAbs:Int) ((o.getD 0:Nat):Int)>0)=false:=by
        have:=mt hcm.1 hc; simpa using this
      cases o with
      | none=>refine go tt [.t hl1,.x (Z4 (f:=Ze) hz),.c [] ca,.c [] cc,.f hd] rfl (by simp [Qa]; omega) ?_; exact rd (i+1,none) (by dsimp only; omega) ⟨hlt,hst⟩ rfl
      | some m=>refine go tt [.t hl1,.x (Z4 (f:=Ze) hz),.c [] ca,.c [] cc,.f hd] rfl (by simp [Qa]; omega) ?_; exact rd (i+1,some m) (by dsimp only; omega) ⟨hlt,hst⟩ rfl
  · obtain rfl:i=p.length-1:=by omega
    rw [List.take_of_length_le (by omega)] at j2
    have bl:Qm (Qr p)≤16777216:=hp.b _ (Qap h0)
    have ln:((Qr p).natAbs:Int)≠0:=by have:=Uu hp.t h0; omega
    have cl:=Wq hp.t hp.ln hp.bd
    have ca:=Qt4 (Qe (Qr p)) (Nat.le_trans bl (by decide))
    have bm:Qm ((o.getD 0:Nat):Int)≤16777216:=by rw [←j2]; exact Qo5 hbt
    have cd:Qc Tryz.prog 111 [.agg (Ze ((Qr p).natAbs:Int)),.agg (ozr o)] [.agg (Ze (((Qr p).natAbs:Int)+(most (p.take (p.length-1)):Int)))]:=by
      rw [j2]
      cases o with
      | none=>exact Nb (Qe _) Yq (by rw [Rv]; omega) (by decide)
      | some m=>exact Nb (Qe _) (Qe _) (by rw [Rv]; omega) (Nat.le_trans bm (by decide))
    have cm:=Q1n (n:=((Qr p).natAbs:Int)+(most (p.take (p.length-1)):Int)) ln (Nat.le_trans (P7 _ _) (by rw [Rv,j2]; omega)) (by rw [Rv]; omega)
    have hf:decide (((p.length-1:Nat):Int)<(((p.take (p.length-1)).map Ze).length:Int))=false:=by simp
    cases o <;> exact en tt [.f hf,.c [] cl,.c [] ca,.c [] cd,.c [] cm] rfl rfl trivial
end Orr

namespace Orr
open Go Go.Proofs Orq
set_option maxRecDepth 10000
theorem Q4y {z:Int}:Qc Tryz.prog 350 [.agg (Ze z)] [.one (.int .i64 (Int.sign z))]:=by
  by_cases h0:z=0
  · subst h0
    exact w tt Tryz.func350 rfl [.t (by simp [Qf,Zr])] rfl rfl trivial
  · have hl:(Qx z.natAbs).length≠0:=fun h=>h0 (Qrv.1 h)
    have hl':decide (((lm (Qx z.natAbs)).length:Int)=0)=false:=by simpa [Qf] using hl
    by_cases h1:z<0
    · rw [Int.sign_eq_neg_one_of_neg h1]
      exact w tt Tryz.func350 rfl [.f hl',.t (by simpa using h1)] rfl rfl trivial
    · rw [Int.sign_eq_one_of_pos (by omega)]
      exact w tt Tryz.func350 rfl [.f hl',.f (by simpa using h1)] rfl rfl trivial
theorem Qta {p:List Int} (hp:Pb p):Qc Tryz.prog 342 [pr p] [.one (.int .i64 (To p)),.one (.int .i64 (By p))]:=by
  have hb:-1≤(Qr p).sign∧(Qr p).sign≤1:=by rcases Fw (Qr p) with h | h | h <;> omega
  by_cases h:p.length % 2=0
  · have e:To p=-(Qr p).sign:=by unfold To; rw [if_pos h]
    rw [e]
    exact w tt Tryz.func342 rfl [.c [] (Xa hp.t hp.ln hp.bd),.c [] (Wq hp.t hp.ln hp.bd),.c [] Q4y,.t (by rw [Qp5]; simp [h])] rfl rfl (by simp [Qa,Qr] at hb ⊢; omega)
  · have e:To p=(Qr p).sign:=by unfold To; rw [if_neg h]
    rw [e]
    exact w tt Tryz.func342 rfl [.c [] (Xa hp.t hp.ln hp.bd),.c [] (Wq hp.t hp.ln hp.bd),.c [] Q4y,.f (by rw [Qp5]; simp; omega)] rfl rfl (by simp [Qa])
theorem Qug {p:List Int} (hp:Pb p):Qc Tryz.prog 341 [pr p] [.one (.int .i64 (To p))]:=w tt Tryz.func341 rfl [.c [] (Qta hp)] rfl rfl trivial
theorem Q1i {p:List Int} (hp:Pb p):Qc Tryz.prog 343 [pr p] [.one (.int .i64 (By p))]:=w tt Tryz.func343 rfl [.c [] (Qta hp)] rfl rfl trivial
theorem Q6r {q:Rat} (hq:Qs 4294967295 q):Qc Tryz.prog 156 [.agg (rl q)] [.agg (rl (-q))]:=by
  exact w tt Tryz.func156 rfl [.c [] (Oe hq),.c [] (Es (Qe _) hq.1)] rfl rfl trivial
theorem Qg4 {l:List (List Int)} {fid:Nat} {sg:List Int→Int} (hl:l.length≤1000) (hs:∀ p,-1≤sg p∧sg p≤1) (h:∀ p∈l,Qc Tryz.prog fid [pr p] [.one (.int .i64 (sg p))]):Qc Tryz.prog 300 [.one (.sh [.row (Jw l)]),.one (.fn fid [] [])] [.one (.int .i64 (V8 sg l:Nat))]:=by
  have hpl:=U4 l
  refine Zy Tryz.func300 rfl ?_
  refine go tt [] rfl trivial ?_
  refine lp (S:=Nat) 0 (fun L1 i=>(15,.v (.one (.int .i64 (i:Int))))::(5,.v (.one (.int .i64 ((Mw sg l i).1:Int))))::(6,.v (.one (.int .i64 (Mw sg l i).2)))::L1) (fun _=>[]) (fun i=>l.length-i) (fun i=>i≤l.length) 0 (Nat.zero_le _) rfl (fun _ _=>rfl) rfl fun i hi=>?_
  by_cases hlt:i<l.length
  · obtain ⟨p,hp⟩:∃ p,l[i]? = some p:=⟨_,List.getElem?_eq_getElem hlt⟩
    have hst:Mw sg l (i+1)=Ya sg (Mw sg l i) p:=Ul _ _ _ hp
    obtain ⟨b1,b2,b3⟩:=Qgb hs l i
    have b4:=hs p
    by_cases h0:sg p=0
    · refine go tt [.t (by simp [hpl]; omega),.x (Xo hp),.c [] (h p (List.mem_of_getElem? hp)),.t (by simpa using h0)] rfl (by simp [Qa]; omega) ?_
      exact rd (i+1) (by omega) hlt (by rw [hst,show Ya sg (Mw sg l i) p=Mw sg l i from by unfold Ya; rw [if_pos h0]]; rfl)
    · by_cases h1:(Mw sg l i).2=-(sg p)
      · refine go tt [.t (by simp [hpl]; omega),.x (Xo hp),.c [] (h p (List.mem_of_getElem? hp)),.f (by simpa using h0),.t (by simpa using h1)] rfl (by simp [Qa]; omega) ?_
        exact rd (i+1) (by omega) hlt (by rw [hst,show Ya sg (Mw sg l i) p=((Mw sg l i).1+1,sg p) from by unfold Ya; rw [if_neg h0,if_pos h1]]; rfl)
      · refine go tt [.t (by simp [hpl]; omega),.x (Xo hp),.c [] (h p (List.mem_of_getElem? hp)),.f (by simpa using h0),.f (by simpa using h1)] rfl (by simp [Qa]; omega) ?_
        exact rd (i+1) (by omega) hlt (by rw [hst,show Ya sg (Mw sg l i) p=((Mw sg l i).1,sg p) from by unfold Ya; rw [if_neg h0,if_neg h1]]; rfl)
  · obtain rfl:i=l.length:=by omega
    refine en tt [.f (by simp [hpl])] rfl ?_ trivial
    unfold Mw V8; rw [List.take_length]
theorem Ld (p:List Int):(-1≤To p∧To p≤1)∧-1≤By p∧By p≤1:=by
  have hb:-1≤(Qr p).sign∧(Qr p).sign≤1:=by rcases Fw (Qr p) with h | h | h <;> omega
  unfold To By
  split <;> omega
theorem Q0q {l:List (List Int)} (hl:l.length≤1000) (hp:∀ p∈l,Pb p):Qc Tryz.prog 321 [.one (.sh [.row (Jw l)])] [.one (.int .i64 (Pj l))]:=by
  have c1:Qc Tryz.prog 332 [.one (.sh [.row (Jw l)])] [.one (.int .i64 (V8 To l:Nat))] :=
    w tt Tryz.func332 rfl [.c [] (Qg4 hl (fun p=>(Ld p).1) fun p h=>Qug (hp p h))] rfl rfl trivial
  have c2:Qc Tryz.prog 333 [.one (.sh [.row (Jw l)])] [.one (.int .i64 (V8 By l:Nat))] :=
    w tt Tryz.func333 rfl [.c [] (Qg4 hl (fun p=>(Ld p).2) fun p h=>Q1i (hp p h))] rfl rfl trivial
  have b1:V8 To l≤l.length:=Uh (fun p=>(Ld p).1) l
  have b2:V8 By l≤l.length:=Uh (fun p=>(Ld p).2) l
  exact w tt Tryz.func321 rfl [.c [] c1,.c [] c2] rfl rfl (by simp [Qa]; omega)
theorem Qj3 {l:List (List Int)} {lo hi:Rat} (hl:l.length≤1000):-1000≤X7 l lo hi∧X7 l lo hi≤1000:=by
  have b1:Kw l lo≤l.length:=Uh (fun p=>Hy p lo) l
  have b2:Kw l hi≤l.length:=Uh (fun p=>Hy p hi) l
  unfold X7; split <;> omega
end Orr

namespace Orr
open Go Go.Proofs Orq
set_option maxRecDepth 10000
abbrev tal (l:List Tm):List (List LV):=l.map fun t=>ta t
theorem Ii {p:List Int} {c:List (List Int)} (hp:Pb p):∀ {k:Nat} {lo hi:Rat} {n:Int} {r:List Tm},Qb lo→Qb hi→Ft p c k lo hi n=some r→∀ t∈r,Tb t
  | 0,_,_,_,_,_,_,h=>by cases h
  |
   k+1,lo,hi,n,r,hl,hh,h=>by
   simp only [Ft] at h
   split at h
   · injection h with h; subst h; exact fun t ht=>by cases ht
   · split at h
     · injection h with h; subst h
       intro t ht; rw [List.mem_singleton.1 ht]; exact ⟨hp,hl,hh⟩
     · obtain ⟨m,hm,h⟩:=Option.bind_eq_some_iff.1 h
       obtain ⟨rfl,qm⟩:=Og hm
       obtain ⟨x,hx,h⟩:=Option.bind_eq_some_iff.1 h
       obtain ⟨y,hy,h⟩:=Option.bind_eq_some_iff.1 h
       injection h with h; subst h
       intro t ht
       rcases List.mem_append.1 ht with ht | ht
       · exact Ii hp hl qm hx t ht
       · exact Ii hp qm hh hy t ht
theorem Q8l (l:List Tm):∀ c∈tal l,c.length=9:=fun c hc=>by obtain ⟨t,_,rfl⟩:=List.mem_map.1 hc; rfl
theorem Qko {p:List Int} {c:List (List Int)} (hp:Pb p) (hcl:c.length≤1000) (hc:∀ q∈c,Pb q):∀ {k:Nat} {lo hi:Rat} {n:Int} {r:List Tm},Qb lo→Qb hi→k≤100000→-(1000*(100001-k:Nat))≤n∧n≤1000*(100001-k:Nat)→Ft p c k lo hi n=some r→r.length≤1000000→Z5 Tryz.prog 320 [pr p,.one (.sh [.row (Jw c)]),.agg (rl lo),.agg (rl hi),.one (.int .i64 n)] [] [.one (.orow 0 9 none)] [.row false 67 9 (tal r)]
  | 0,_,_,_,_,_,_,_,_,h,_=>by cases h
  |
   k+1,lo,hi,n,r,hl,hh,hk,hn,h,hr=>by
   simp only [Ft] at h
   split at h
   · rename_i h0
     injection h with h; subst h
     refine Zy Tryz.func320 rfl ?_
     exact ed tt [] [2] [.t (by simpa using h0),.o 10 67 9] rfl trivial
   · rename_i h0
     split at h
     · rename_i h1
       injection h with h; subst h
       refine Zy Tryz.func320 rfl ?_
       exact ed tt [] [2] [.f (by simpa using h0),.t (by simpa using h1),.c [] (Xa hp.t hp.ln hp.bd),.c [] (Gd hl.s32),.c [] (Gd hh.s32),.lo] rfl trivial
     · rename_i h1
       obtain ⟨m,hm,h⟩:=Option.bind_eq_some_iff.1 h
       obtain ⟨rfl,qm⟩:=Og hm
       obtain ⟨x,hx,h⟩:=Option.bind_eq_some_iff.1 h
       obtain ⟨y,hy,h⟩:=Option.bind_eq_some_iff.1 h
       injection h with h; subst h
       have hb:=Qj3 (l:=c) (lo:=lo) (hi:=mid lo hi) hcl
       rw [List.length_append] at hr
       have c1:=Qko hp hcl hc hl qm (by omega) (by omega) hx (by omega)
       have c2:=Qko hp hcl hc qm hh (by omega) (by omega) hy (by omega)
       rw [show tal (x++y)=tal x++tal y from List.map_append]
       refine Zy Tryz.func320 rfl ?_
       exact ed tt [] [3] [.f (by simpa using h0),.f (by simpa using h1),.c [] (Q4w hl hh),.c [] (Qb2 hcl hc hl qm),.c [3] c1,.c [4] c2,.s (Q8l y)] rfl (by simp [Qa]; omega)
theorem Q02 {p:List Int} {r:List Tm} (hp:Pb p) (h:Qa7 p=some r) (hr:r.length≤1000000):Qc Tryz.prog 303 [pr p] [.one (tas r),.one (.int .i64 0)]:=by
  unfold Qa7 at h
  obtain ⟨c,h1,h⟩:=Option.bind_eq_some_iff.1 h
  obtain ⟨q,h2,h⟩:=Option.bind_eq_some_iff.1 h
  obtain ⟨b,h3,h⟩:=Option.bind_eq_some_iff.1 h
  obtain ⟨rfl,hb⟩:=Og h3
  obtain ⟨k1,k2⟩:=chain_ok hp h1
  have hq:=L9 hp h2
  have q0:q.length≠0:=by
    unfold Hf at h1
    obtain ⟨a,a1,h1⟩:=Option.bind_eq_some_iff.1 h1
    rw [h2] at a1; injection a1 with a1; subst a1
    split at h1
    · cases h1
    · assumption
  have qn:Qb (-Zv q):=⟨by rw [Rat.neg_num,Z7]; exact hb.1,by rw [Rat.neg_den]; exact hb.2⟩
  have bb1:V8 To c≤c.length:=Uh (fun p=>(Ld p).1) c
  have bb2:V8 By c≤c.length:=Uh (fun p=>(Ld p).2) c
  have hn:-(1000*(100001-100000:Nat):Int)≤Pj c∧Pj c≤1000*(100001-100000:Nat):=by unfold Pj; omega
  have cr:=Qko hq (by omega) k2 qn hb (Nat.le_refl _) hn h hr
  refine Zy Tryz.func303 rfl ?_
  exact ed tt [1] [] [.c [] (Qty hp h1),.f rfl,.c [] (I7 hp h2),.c [] (Q0p hq q0),.c [] (Q6r hb.s32),.c [] (Q0q (by omega) k2),.c [1] cr] rfl trivial
end Orr

namespace Orr
open Go Go.Proofs Orq
set_option maxRecDepth 10000
def Ql (l:List Pt):List (List LV):=l.map Jz
theorem Kr {l:List Pt} {i:Nat} {c:Pt} (h:l[i]? = some c):(Ql l)[i]? = some (Jz c):=Z4 h
theorem Vh (l:List Pt):(Ql l).length=l.length:=by simp [Ql]
theorem Q3r (l:List Pt):∀ c∈Ql l,c.length=5:=fun c hc=>by
  obtain ⟨x,_,rfl⟩:=List.mem_map.1 hc; rfl
abbrev zPt:List LV:=[.nils,.nils,.bool false,.nils,.int .i64 0]
theorem Qok {lt:Pt→Pt→Bool} {O:List Pt} {z:List LV} {c:Pt} {k m:Nat} {l2:List (List LV)} (hk:k≤O.length) (hp:J8 lt O c O.length=k) (hm:m=O.length-k) (h2:l2.take m=((Ql O++[z]).drop k).take m) :
    ((Ql O++[z]).take (k+1)++(l2.take m++(Ql O++[z]).drop (k+1+m))).set k (Jz c)=Ql (K0 lt O c):=by
  rw [h2,←List.append_assoc,Qh1 (Ql O) z (Jz c) (by rw [Vh]; omega) (by rw [Vh]; omega)]
  simp [K0,hp,Ql,List.map_take,List.map_drop]
def H5 (t:Tm) (l:List Pt):List Pt:=Xd (Vs (Wb t)) l
theorem Q4x {l:List Pt} {t:Tm} (hl:∀ p∈l,Sc p.c) (hn:l.length≤1000000) (ht:Va t):Qc Tryz.prog 154 [.agg (ta t),.one (pts l)] [.one (pts (H5 t l))]:=by
  have hcl:=Vh l
  show Qc Tryz.prog 154 [.agg (ta t),.one (.row (Ql l))] [.one (.row (Ql (H5 t l)))]
  obtain ⟨lt,hlt0⟩:∃ lt,lt=Vs (Wb t):=⟨_,rfl⟩
  unfold H5
  rw [←hlt0]
  refine Zy Tryz.func154 rfl ?_
  refine go tt [.o 5 35 5] rfl trivial ?_
  refine lp (S:=Nat) 2 (fun L1 i=>(11,.v (.one (.int .i64 (i:Int))))::(5,.v (.one (.orow 1 5 none)))::L1) (fun i=>[.blk 67 (ta t),.row false 35 5 (Ql (Xd lt (l.take i)))]) (fun i=>l.length-i) (fun i=>i≤l.length) 0 (Nat.zero_le _) rfl (fun _ _=>rfl) rfl fun i hi=>?_
  by_cases hlt:i<l.length
  · obtain ⟨c,hc⟩:∃ c,l[i]? = some c:=⟨_,List.getElem?_eq_getElem hlt⟩
    have hst:Xd lt (l.take (i+1))=K0 lt (Xd lt (l.take i)) c:=Tf hc
    have hcp:=hl c (List.mem_of_getElem? hc)
    obtain ⟨O,hO⟩:∃ O,O=Xd lt (l.take i):=⟨_,rfl⟩
    have hOl:O.length=i:=by rw [hO,Yf,List.length_take]; omega
    have hOm:∀ x∈O,Sc x.c:=fun x hx=>by rw [hO,U8] at hx; exact hl x (List.mem_of_mem_take hx)
    rw [←hO] at hst ⊢
    refine go tt [.t (by simp [hcl]; omega),.x (Kr hc)] rfl trivial ?_
    refine lp (S:=Nat) 3 (fun L1 k=>(8,.v (.one (.int .i64 (k:Int))))::L1) (fun k=>[.blk 67 (ta t),.row false 35 5 (Ql O),.blk 35 (Jz c)]) id (fun k=>k≤O.length∧J8 lt O c k=J8 lt O c O.length) (Ql O).length ⟨by rw [Vh]; exact Nat.le_refl _,by rw [Vh]⟩ rfl (fun _ _=>rfl) rfl fun k ⟨hk,hp⟩=>?_
    have hz:∀ y∈[zPt],y.length=5:=fun y hy=>by rw [List.mem_singleton.1 hy]; rfl
    have h77:∀ y∈Ql O++[zPt],y.length=5:=fun y hy=>by
      rcases List.mem_append.1 hy with hy | hy
      · exact Q3r O y hy
      · exact hz y hy
    cases k with
    |
     zero =>
     have hp:J8 lt O c O.length=0:=by rw [←hp]; rfl
     refine go tt [.g 19 false (by simp),.f rfl,.s (sz:=5) hz,.r 37 (eI (b:=((0+1:Nat):Int)) (by simp)),.i (0+1),.i (0),.s (sz:=5) (fun y hy=>h77 y (List.mem_of_mem_take hy)),.i (O.length),.i (0)] rfl (by simp [Qa,Vh]; omega) ?_
     exact rd (i+1) (by omega) hlt (by rw [hst,←Qok (z:=zPt) (l2:=(Ql O++[zPt]).take ((Ql O++[zPt]).length-0)) (k:=0) (m:=O.length) (by omega) hp (by omega) (by congr 1; exact List.take_of_length_le (by simp))]; rfl)
    |
     succ k =>
     obtain ⟨x,hx⟩:∃ x,O[k]? = some x:=⟨_,List.getElem?_eq_getElem (by omega)⟩
     have cb:=Qs7 hcp (hOm x (List.mem_of_getElem? hx)) ht
     rw [←hlt0] at cb
     by_cases hlc:lt c x=true
     · refine go tt [.g 19 true (by simp),.r 23 (eI (b:=(k:Int)) (by simp)),.i k,.x (Kr hx),.c [] cb,.t hlc,.r 30 (eI (b:=(k:Int)) (by simp))] rfl (by simp [Qa,Vh]; omega) ?_
       exact rd k (by simp) ⟨by omega,by rw [←hp,Cu hx hlc]⟩ rfl
     · have hlc:lt c x=false:=by simpa using hlc
       have hp:J8 lt O c O.length=k+1:=by rw [←hp,Pe hx hlc]
       refine go tt [.g 19 true (by simp),.r 23 (eI (b:=(k:Int)) (by simp)),.i k,.x (Kr hx),.c [] cb,.f hlc,.s (sz:=5) hz,.r 37 (eI (b:=((k+1+1:Nat):Int)) (by simp)),.i (k+1+1),.i (k+1),.s (sz:=5) (fun y hy=>h77 y (List.mem_of_mem_drop (List.mem_of_mem_take hy))),.i (O.length-(k+1)),.i (k+1)] rfl (by simp [Qa,Vh]; omega) ?_
       exact rd (i+1) (by omega) hlt (by rw [hst,←Qok (z:=zPt) (l2:=((Ql O++[zPt]).drop (k+1)).take ((Ql O++[zPt]).length-(k+1))) (k:=k+1) (m:=O.length-(k+1)) (by omega) hp (by omega) (by congr 1; exact List.take_of_length_le (by simp))]; rfl)
  · obtain rfl:i=l.length:=by omega
    rw [List.take_length]
    exact en tt [.f (by simp [hcl])] rfl rfl trivial
def Jo (sg:List Int→Int):List Pt→List Ct
  | a::b::l=>Ki sg a b::Jo sg (b::l)
  | _=>[]
theorem U5 (sg:List Int→Int):∀ l:List Pt,(Jo sg l).length=l.length-1
  | []=>rfl
  | [_]=>rfl
  | a::b::l=>by simp only [Jo,List.length_cons,U5 sg (b::l)]; omega
theorem Ef (sg:List Int→Int):∀ {l:List Pt} {i:Nat} {a b:Pt},l[i]? = some a→l[i+1]? = some b→(Jo sg l).take (i+1)=(Jo sg l).take i++[Ki sg a b]
  | [],i,a,b,h,_=>by simp at h
  | [x],i,a,b,_,h=>by cases i <;> simp at h
  | x::y::l,0,a,b,h1,h2=>by simp at h1 h2; subst h1; subst h2; simp [Jo]
  |
   x::y::l,i+1,a,b,h1,h2=>by
   have ih:=Ef sg (l:=y::l) (i:=i) (a:=a) (b:=b) (by simpa using h1) (by simpa using h2)
   simp only [Jo,List.take_succ_cons] at ih ⊢
   rw [ih]; rfl
theorem I6 {l:List Pt} {t:Tm} (hl:∀ p∈l,Sc p.c) (hn:l.length≤1000000) (ht:Va t):Qc Tryz.prog 155 [.agg (ta t),.one (pts l)] [.one (.row (Z2 (Jo (Wb t) l)))]:=by
  have hcl:=Vh l
  show Qc Tryz.prog 155 [.agg (ta t),.one (.row (Ql l))] [.one (.row (Z2 (Jo (Wb t) l)))]
  refine Zy Tryz.func155 rfl ?_
  refine go tt [.o 5 161 7] rfl trivial ?_
  refine lp (S:=Nat) 2 (fun L1 i=>(6,.v (.one (.int .i64 ((i+1:Nat):Int))))::(5,.v (.one (.orow 1 7 none)))::L1) (fun i=>[.blk 67 (ta t),.row false 161 7 (Z2 ((Jo (Wb t) l).take i))]) (fun i=>l.length-i) (fun i=>i≤l.length-1) 0 (Nat.zero_le _) rfl (fun _ _=>rfl) rfl fun i hi=>?_
  by_cases hlt:i+1<l.length
  · obtain ⟨a,ha⟩:∃ a,l[i]? = some a:=⟨_,List.getElem?_eq_getElem (by omega)⟩
    obtain ⟨b,hb⟩:∃ b,l[i+1]? = some b:=⟨_,List.getElem?_eq_getElem hlt⟩
    have hg:=Ef (Wb t) ha hb
    have hm:∀ y∈[Qbv (Ki (Wb t) a b)],y.length=7:=fun y hy=>by rw [List.mem_singleton.1 hy]; rfl
    refine go tt [.t (by simp [hcl]; omega),.r 19 (eI (b:=(i:Int)) (by simp)),.x (Kr ha),.x (Kr hb),.c [] (Q0w (hl a (List.mem_of_getElem? ha)) (hl b (List.mem_of_getElem? hb)) ht),.s (sz:=7) hm,.r 14 (eI (b:=((i+1+1:Nat):Int)) (by simp))] rfl (by simp [Qa,Vh,Fe,U5]; omega) ?_
    exact rd (i+1) (by omega) (by omega) (by rw [hg]; simp [Z2]; rfl)
  · have e:(Jo (Wb t) l).take i=Jo (Wb t) l:=List.take_of_length_le (by rw [U5]; omega)
    rw [e]
    exact en tt [.f (by simp [hcl]; omega)] rfl rfl trivial
end Orr

namespace Orr
open Go Go.Proofs Orq
set_option maxRecDepth 10000
theorem Q04:Qc Tryz.prog 230 [pr []] [.one .nilp,.one (.int .i64 2)]:=by
  have h:Y7 []=some []:=rfl
  exact w tt Tryz.func230 rfl [.c [] (I7 L8 h),.t rfl] rfl rfl trivial
theorem Qtu:Qc Tryz.prog 303 [pr []] [.one (.row []),.one (.int .i64 2)] :=
  w tt Tryz.func303 rfl [.c [] Q04,.t rfl] rfl rfl trivial
theorem Q7u {a o:List Int} (ha:Pb a) (h:Qlp a=some o):Pb o:=by
  unfold Qlp at h
  split at h
  · injection h with h; subst h; exact L8
  · obtain ⟨l,hl,h⟩:=Option.bind_eq_some_iff.1 h
    obtain ⟨fs,hf,h⟩:=Option.bind_eq_some_iff.1 h
    exact Mb Qxl (Qev (A8 (Xv ha) hl).2 hf) h
theorem Qtc {p:List Int} {l:List Tm} (hp:Pb p) (h:Nw p=some l) (hl:l.length≤1000000):Qc Tryz.prog 276 [pr p] [.one (tas l)]:=by
  unfold Nw at h
  obtain ⟨q,hq,h⟩:=Option.bind_eq_some_iff.1 h
  have qp:=Q7u hp hq
  have co:=Q9i hp hq
  split at h
  · rename_i h0
    injection h with h; subst h
    obtain rfl:=List.eq_nil_of_length_eq_zero h0
    exact w tt Tryz.func276 rfl [.c [] co,.c [] Qtu,.t rfl] rfl rfl trivial
  · exact w tt Tryz.func276 rfl [.c [] co,.c [] (Q02 qp h hl),.f rfl] rfl rfl trivial
def ota:Option Tm→List LV
  | none=>zTr
  | some t=>ta t
theorem Q0s {p:List Int} {a:Tm} {l:List Tm} {r:Option Tm} (hp:Pb p) (ha:Tb a) (h:Nw p=some l) (hl:l.length≤1000000) (ht:∀ t∈l,Tb t) (hr:Mz a l=some r):Qc Tryz.prog 241 [pr p,.agg (ta a)] [.agg (ota r),.one (.bool r.isSome)]:=by
  have hll:(l.map fun t=>ta t).length=l.length:=by simp
  refine Zy Tryz.func241 rfl ?_
  refine go tt [.c [] (Qtc hp h hl)] rfl trivial ?_
  refine lp (S:=Nat) 2 (fun L1 i=>(11,.v (.one (.int .i64 (i:Int))))::L1) (fun _=>[.blk 67 (ta a),.blk 67 zTm]) (fun i=>l.length-i) (fun i=>i≤l.length∧Mz a (l.drop i)=some r) 0 ⟨Nat.zero_le _,hr⟩ rfl (fun _ _=>rfl) rfl fun i ⟨hi,hf⟩=>?_
  by_cases hlt:i<l.length
  · obtain ⟨t,hx⟩:∃ t,l[i]? = some t:=⟨_,List.getElem?_eq_getElem hlt⟩
    have hdr:l.drop i=t::l.drop (i+1):=by
      rw [List.drop_eq_getElem_cons hlt]; congr 1
      have:=List.getElem?_eq_getElem hlt; rw [hx] at this; injection this with this; exact this.symm
    rw [hdr] at hf
    simp only [Mz] at hf
    obtain ⟨c,c1,hf⟩:=Option.bind_eq_some_iff.1 hf
    have cc:=I3 (ht t (List.mem_of_getElem? hx)) ha c1
    by_cases hc:0<c
    · rw [if_pos hc] at hf
      injection hf with hf; subst hf
      exact en tt [.t (by simp; omega),.x (Iu hx),.c [] cc,.t (by simpa using hc)] rfl rfl trivial
    · rw [if_neg hc] at hf
      refine go tt [.t (by simp; omega),.x (Iu hx),.c [] cc,.f (by simpa using hc)] rfl (by simp [Qa]; omega) ?_
      exact rd (i+1) (by omega) ⟨hlt,hf⟩ rfl
  · obtain rfl:i=l.length:=by omega
    rw [List.drop_length] at hf
    simp only [Mz] at hf
    injection hf with hf; subst hf
    exact en tt [.f (by simp)] rfl rfl trivial
end Orr

namespace Orr
open Go Go.Proofs Orq
set_option maxRecDepth 10000
def S4 (now:Tm):List Wt→Option (List Wt)
  | []=>some []
  | w::l=>(if w.known=true then some w else (E7 w.c.p now).bind fun r=>some ⟨w.c,true,r⟩).bind fun w'=>(S4 now l).bind fun r=>some (w'::r)
theorem Lx {now:Tm}:∀ {l ws:List Wt},S4 now l=some ws→ws.length=l.length∧∀ (i:Nat) (w:Wt),l[i]? = some w→∃ v,ws[i]? = some v∧(w.known=true∧v=w∨w.known=false∧∃ r,E7 w.c.p now=some r∧v=⟨w.c,true,r⟩)
  | [],ws,h=>by injection h with h; subst h; exact ⟨rfl,fun i x hx=>by simp at hx⟩
  |
   y::l,ws,h=>by
   simp only [S4] at h
   obtain ⟨v,hv,h⟩:=Option.bind_eq_some_iff.1 h
   obtain ⟨r,hr,h⟩:=Option.bind_eq_some_iff.1 h
   injection h with h; subst h
   obtain ⟨a,b⟩:=Lx hr
   refine ⟨by simp [a],fun i x hx=>?_⟩
   cases i with
   |
    zero =>
    injection hx with hx; subst hx
    refine ⟨v,rfl,?_⟩
    split at hv
    · rename_i hk; injection hv with hv; exact .inl ⟨hk,hv.symm⟩
    · rename_i hk
      obtain ⟨q,hq,hv⟩:=Option.bind_eq_some_iff.1 hv
      injection hv with hv
      exact .inr ⟨by simpa using hk,q,hq,hv.symm⟩
   | succ i=>exact b i x (by simpa using hx)
theorem Qtb {p:List Int} {a:Tm} {r:Option Tm} (hp:Cp p) (ha:Va a) (h:E7 p a=some r):Qc Tryz.prog 241 [pr p,.agg (ta a)] [.agg (ota r),.one (.bool r.isSome)]:=by
  obtain ⟨l,l1,l2,l3,_⟩:=Pu hp
  unfold E7 at h
  rw [l1] at h
  exact Q0s (Dp.pb hp.dp) ha.tb l1 (by omega) (fun t ht=>(l3 t ht).tb) h
theorem Q0u {T:Nat} {c:Cr} {r0 r1:List (List LV)} {ws:List Wt} (hc:CrOk c) (h:S4 c.now c.l=some ws):Z5 Tryz.prog 195 [.one (.ow 0 0)] [.blk T (Yo c r0 r1)] [] [.blk T (Yo { c with l:=ws } r0 r1)]:=by
  have hk:=hc.k
  have hw:=Ui c.l
  obtain ⟨h1,h2⟩:=Lx h
  refine Zy Tryz.func195 rfl ?_
  refine go tt [.o 2 164 18,.c [0] (Qd8 hc.n)] rfl trivial ?_
  refine lp (S:=Nat) 3 (fun L1 i=>(13,.v (.one (.int .i64 (i:Int))))::(2,.v (.one (.orow 1 18 none)))::L1) (fun i=>[.blk T (Yo c r0 r1),.row false 164 18 (Nz (ws.take i)),.blk 67 (ta c.now)]) (fun i=>c.l.length-i) (fun i=>i≤c.l.length) 0 (Nat.zero_le _) rfl (fun _ _=>rfl) rfl fun i hi=>?_
  by_cases hlt:i<c.l.length
  · obtain ⟨w,hx⟩:∃ w,c.l[i]? = some w:=⟨_,List.getElem?_eq_getElem hlt⟩
    obtain ⟨v,hv,h3⟩:=h2 i w hx
    have hm:∀ y∈[wl v],y.length=18:=fun y hy=>by rw [List.mem_singleton.1 hy]; rfl
    have hg:=Ep hv
    have hl:decide ((i:Int)<((Nz c.l).length:Int))=true:=by simp [hw]; omega
    rcases h3 with ⟨k1,rfl⟩ | ⟨k1,r,k2,rfl⟩
    · obtain ⟨vc,vk,vf⟩:=v
      cases vf <;> (refine go tt [.t hl,.x (Yx hx),.f (by rw [show vk=true from k1]; rfl),.s (sz:=18) hm] rfl (by simp [Qa,Ui]; omega) ?_; exact rd (i+1) (by omega) hlt (by rw [hg]; rfl))
    · have cg:=Qtb (hc.l w (List.mem_of_getElem? hx)).p hc.n k2
      obtain ⟨wc,wk,wf⟩:=w
      cases r <;> cases wf <;> (refine go tt [.t hl,.x (Yx hx),.t (by rw [show wk=false from k1]; rfl),.c [] cg,.s (sz:=18) hm] rfl (by simp [Qa,Ui]; omega) ?_; exact rd (i+1) (by omega) hlt (by rw [hg]; rfl))
  · obtain rfl:i=c.l.length:=by omega
    rw [←h1,List.take_length]
    exact ed tt [1] [0] [.f (by simp [hw,h1])] rfl trivial
def Qij (ws:List Wt):Option (Option Tm):=match ws.filterMap (·.fails) with
  | []=>some none
  | b::l=>(Rw b l).map some
theorem Ia {c:Cr} {ws:List Wt} (hc:CrOk c) (h:S4 c.now c.l=some ws):CrOk { c with l:=ws }:=by
  obtain ⟨h1,h2⟩:=Lx h
  refine ⟨hc.n,fun v hv=>?_,by show ws.length≤1000; rw [h1]; exact hc.k⟩
  obtain ⟨i,hi⟩:=List.getElem?_of_mem hv
  have hil:i<c.l.length:=by rw [←h1]; exact (List.getElem?_eq_some_iff.1 hi).1
  obtain ⟨v',h3,h4⟩:=h2 i _ (List.getElem?_eq_getElem hil)
  rw [hi] at h3; injection h3 with h3; subst h3
  have hw:=hc.l _ (List.getElem_mem hil)
  rcases h4 with ⟨_,rfl⟩ | ⟨_,r,k2,rfl⟩
  · exact hw
  · obtain ⟨r',r1,r2⟩:=Qxa hw.p hc.n
    rw [k2] at r1; injection r1 with r1; subst r1
    refine ⟨hw.p,fun t ht=>?_⟩
    have ht:r=some t:=ht
    subst ht
    exact r2.2.1
theorem Q0v {T:Nat} {c:Cr} {r0 r1:List (List LV)} {ws:List Wt} {r:Option Tm} (hc:CrOk c) (h:S4 c.now c.l=some ws) (hr:Qij ws=some r):Z5 Tryz.prog 135 [.one (.ow 0 0)] [.blk T (Yo c r0 r1)] [.agg (ota r),.one (.bool r.isSome)] [.blk T (Yo { c with l:=ws } r0 r1)]:=by
  have hcl:=Q0u (T:=T) (r0:=r0) (r1:=r1) hc h
  have hc':=Ia hc h
  have hk:=hc'.k
  have hw:=Ui ws
  have hvb:∀ t∈ws.filterMap (·.fails),Tb t:=fun t ht=>by
    obtain ⟨w,w1,w2⟩:=List.mem_filterMap.1 ht
    exact ((hc'.l w w1).f t w2).tb
  refine Zy Tryz.func135 rfl ?_
  refine go tt [.c [0] hcl,.o 4 67 9] rfl trivial ?_
  refine lp (S:=Nat) 3 (fun L1 i=>(14,.v (.one (.int .i64 (i:Int))))::(4,.v (.one (.orow 2 9 none)))::L1) (fun i=>[.blk T (Yo { c with l:=ws } r0 r1),.blk 67 zTm,.row false 67 9 (tal ((ws.take i).filterMap (·.fails)))]) (fun i=>ws.length-i) (fun i=>i≤ws.length) 0 (Nat.zero_le _) rfl (fun _ _=>rfl) rfl fun i hi=>?_
  by_cases hlt:i<ws.length
  · obtain ⟨w,hx⟩:∃ w,ws[i]? = some w:=⟨_,List.getElem?_eq_getElem hlt⟩
    have hl:decide ((i:Int)<((Nz ws).length:Int))=true:=by simp [hw]; omega
    have hfl:((ws.take i).filterMap (·.fails)).length≤i:=Nat.le_trans (List.length_filterMap_le _ _) (by rw [List.length_take]; omega)
    have hg:(ws.take (i+1)).filterMap (·.fails)=(ws.take i).filterMap (·.fails)++(match w.fails with | none=>[] | some t=>[t]):=by
      rw [List.take_succ,hx,List.filterMap_append]
      show _++List.filterMap (·.fails) [w]=_
      cases hwf:w.fails <;> simp [hwf]
    obtain ⟨wc,wk,wf⟩:=w
    have hk:ws.length≤1000:=hk
    cases wf with
    |
     none =>
     refine go tt [.t hl,.x (Yx hx),.f rfl] rfl (by simp [Qa]; omega) ?_
     exact rd (i+1) (by omega) hlt (by rw [hg]; simp; rfl)
    |
     some t =>
     refine go tt [.t hl,.x (Yx hx),.t rfl,.s (l:=[ta t]) (sz:=9) (fun c hc=>by rw [List.mem_singleton.1 hc]; rfl)] rfl (by simp [Qa]; omega) ?_
     exact rd (i+1) (by omega) hlt (by rw [hg]; simp [tal]; rfl)
  · obtain rfl:i=ws.length:=by omega
    rw [List.take_length]
    have hf:decide ((ws.length:Int)<((Nz ws).length:Int))=false:=by simp [hw]
    have hln:(ws.filterMap (·.fails)).length≤1000:=Nat.le_trans (List.length_filterMap_le _ _) hk
    unfold Qij at hr
    cases hfm:ws.filterMap (·.fails) with
    |
     nil =>
     rw [hfm] at hr
     injection hr with hr; subst hr
     exact ed tt [] [0] [.f hf,.p 2,.c [] Qte] rfl trivial
    |
     cons b l =>
     rw [hfm] at hr hvb hln
     obtain ⟨m,m1,rfl⟩:=Option.map_eq_some_iff.1 hr
     have cl:=Tu (hvb b (List.mem_cons_self ..)) (fun t ht=>hvb t (List.mem_cons_of_mem _ ht)) (by simp at hln; omega) m1
     exact ed tt [] [0] [.f hf,.p 2,.c [] cl] rfl trivial
end Orr

namespace Orr
open Go Go.Proofs Orq
set_option maxRecDepth 10000
theorem Qan {at_:Tm} {x:Ct}:∀ {l:List Wt} {w:Wt},Fj l x at_=some w→w=fresh x∨∃ v∈l,v.known=true∧v.c.p=x.p∧w=⟨x,true,v.fails⟩∧∀ t,v.fails=some t→∃ c,D6 t at_=some c∧0<c
  | [],w,h=>by simp only [Fj] at h; injection h with h; exact .inl h.symm
  |
   v::l,w,h=>by
   simp only [Fj] at h
   have tl:Fj l x at_=some w→w=fresh x∨∃ v'∈v::l,v'.known=true∧v'.c.p=x.p∧w=⟨x,true,v'.fails⟩∧∀ t,v'.fails=some t→∃ c,D6 t at_=some c∧0<c:=fun h=>by
     rcases Qan h with h | ⟨v',h1,h2⟩
     · exact .inl h
     · exact .inr ⟨v',List.mem_cons_of_mem _ h1,h2⟩
   split at h
   · rename_i hk
     cases hf:v.fails with
     |
      none =>
      rw [hf] at h
      injection h with h
      exact .inr ⟨v,List.mem_cons_self ..,hk.2.1,hk.2.2,by rw [hf]; exact h.symm,fun t ht=>by rw [hf] at ht; cases ht⟩
     |
      some t =>
      rw [hf] at h
      obtain ⟨c,c1,h⟩:=Option.bind_eq_some_iff.1 h
      split at h
      · rename_i h0
        injection h with h
        exact .inr ⟨v,List.mem_cons_self ..,hk.2.1,hk.2.2,by rw [hf]; exact h.symm,fun u hu=>by rw [hf] at hu; injection hu with hu; subst hu; exact ⟨c,c1,h0⟩⟩
      · exact tl h
   · exact tl h
theorem lay_ok {c:Cr} {at_:Tm} {l:List Ct} {ws:List Wt} (ev:Int) (hc:CrOk c) (ha:Va at_) (hl:∀ x∈l,Cp x.p) (hn:l.length≤1000) (h:Gk c.l at_ (Q6 l)=some ws):CrOk ⟨at_,ws,ev⟩:=by
  obtain ⟨h1,h2⟩:=Ce h
  refine ⟨ha,fun w hw=>?_,by show ws.length≤1000; rw [h1,Wp]; exact hn⟩
  obtain ⟨i,hi⟩:=List.getElem?_of_mem hw
  have hil:i<(Q6 l).length:=by rw [←h1]; exact (List.getElem?_eq_some_iff.1 hi).1
  obtain ⟨v,h3,h4⟩:=h2 i _ (List.getElem?_eq_getElem hil)
  rw [hi] at h4; injection h4 with h4; subst h4
  have hx:=hl _ (U7 (List.getElem_mem hil))
  rcases Qan h3 with e | ⟨v,v1,_,v3,e,_⟩
  · rw [e]; exact ⟨hx,fun t ht=>by cases ht⟩
  · rw [e]; exact ⟨hx,fun t ht=>(hc.l v v1).f t ht⟩
def goF {β:Type} (Bc:Tm→List Ct) (Br:Tm→β) (t:Rat):Nat→Cr→β→Int→Option (Cr×β×Int)
  | 0,_,_,_=>none
  |
   k+1,c,r,n=>(S4 c.now c.l).bind fun ws=>(Qij ws).bind fun o=>match o with
   | none=>some (⟨tq t,ws,c.ev⟩,r,n)
   | some a=>if 0<Qu a t then some (⟨tq t,ws,c.ev⟩,r,n) else (Gk ws a (Q6 (Bc a))).bind fun w2=>goF Bc Br t k ⟨a,w2,c.ev+1⟩ (Br a) (n+1)
theorem Qxe {ws:List Wt} {a:Tm} (h:Qij ws=some (some a)) (hv:∀ t∈ws.filterMap (·.fails),Va t):a∈ws.filterMap (·.fails)∧∀ t∈ws.filterMap (·.fails),¬Uj t a:=by
  unfold Qij at h
  cases hf:ws.filterMap (·.fails) with
  | nil=>rw [hf] at h; injection h with h; cases h
  |
   cons b l =>
   rw [hf] at h hv
   obtain ⟨m,m1,m2⟩:=Option.map_eq_some_iff.1 h
   injection m2 with m2; subst m2
   obtain ⟨m',n1,n2,n3⟩:=Ls l b hv
   rw [m1] at n1; injection n1 with n1; subst n1
   exact ⟨n2,n3⟩
theorem Q7t {c:Cr} {ws:List Wt} {a:Tm} (hc:CrOk c) (h:S4 c.now c.l=some ws) (hr:Qij ws=some (some a)):Va a:=by
  have hc':=Ia hc h
  have hv:∀ t∈ws.filterMap (·.fails),Va t:=fun t ht=>by
    obtain ⟨w,w1,w2⟩:=List.mem_filterMap.1 ht
    exact (hc'.l w w1).f t w2
  exact hv a (Qxe hr hv).1
structure BuildOk (Bc:Tm→List Ct):Prop where
  p:∀ a,Va a→∀ x∈Bc a,Cp x.p
  n:∀ a,Va a→(Bc a).length≤1000
theorem Q9f {T:Nat} {t:Rat} {Bc:Tm→List Ct} {Br:Tm→List (List LV)} {r0:List (List LV)} (ht:Qs 900 t) (hB:BuildOk Bc)
    (hb:∀ a c r1,Va a→CrOk c→Z5 Tryz.prog 94 [.one (.ow 0 0),.agg (ta a)] [.blk T (Yo c r0 r1)] [.one (.row (Z2 (Bc a)))] [.blk T (Yo c r0 (Br a))])
    {K:Nat} {c c':Cr} {r1 r1':List (List LV)} {n:Int} (hc:CrOk c) (hev:0≤c.ev∧c.ev+K≤1000000000000000000) (h:Qu c.now t≤0) (hg:goF Bc Br t K c r1 0=some (c',r1',n)) :
    Z5 Tryz.prog 81 [.one (.ow 0 0),.agg (rl t),.one (.ofn 94 [.ow 0 0] [])] [.blk T (Yo c r0 r1)] [.one (.int .i64 n),.one (.int .i64 0)] [.blk T (Yo c' r0 r1')]:=by
  have qt:Qb t:=ht.mono (by decide)
  have c1:=Dz hc.n.tb qt
  refine Zy Tryz.func81 rfl ?_
  refine go tt [.c [0] (Qd8 hc.n),.c [] c1,.f (by simpa using h)] rfl trivial ?_
  refine lp (S:=Nat×Cr×List (List LV)×Int) 2 (fun L1 s=>(8,.v (.one (.int .i64 s.2.2.2)))::L1) (fun s=>[.blk T (Yo s.2.1 r0 s.2.2.1),.blk 41 (rl t)]) (fun s=>s.1) (fun s=>CrOk s.2.1∧(0≤s.2.1.ev∧s.2.1.ev+s.1≤1000000000000000000)∧(0≤s.2.2.2∧s.2.2.2+s.1≤1000000000000000000)∧goF Bc Br t s.1 s.2.1 s.2.2.1 s.2.2.2=some (c',r1',n)) (K,c,r1,0) ⟨hc,hev,⟨Int.le_refl 0,by dsimp only; omega⟩,hg⟩ rfl (fun _ _=>rfl) rfl fun ⟨k,x,r,m⟩ ⟨j1,j2,j3,j4⟩=>?_
  dsimp only at j1 j2 j3 j4 ⊢
  cases k with
  | zero=>cases j4
  |
   succ k =>
   simp only [goF] at j4
   obtain ⟨ws,w1,j4⟩:=Option.bind_eq_some_iff.1 j4
   obtain ⟨o,o1,j4⟩:=Option.bind_eq_some_iff.1 j4
   have cn:=Q0v (T:=T) (r0:=r0) (r1:=r) j1 w1 o1
   have ca:=Q40 (Qe t.num) (Qe (t.den:Int)) (Nat.le_trans ht.1 (by decide)) (Nat.le_trans ht.2 (by decide)) (by rw [Tc]; exact ht.mono (by decide))
   rw [Tc] at ca
   cases o with
   |
    none =>
    injection j4 with j4; injection j4 with e1 j4; injection j4 with e2 e3
    subst e1; subst e2; subst e3
    exact ed tt [] [0] [.c [0] cn,.g 25 true rfl,.t rfl,.c [] ca] rfl trivial
   |
    some a =>
    have ha:=Q7t j1 w1 o1
    dsimp only at j4
    have cc:=Dz ha.tb qt
    by_cases h0:0<Qu a t
    · rw [if_pos h0] at j4
      injection j4 with j4; injection j4 with e1 j4; injection j4 with e2 e3
      subst e1; subst e2; subst e3
      exact ed tt [] [0] [.c [0] cn,.g 25 false rfl,.c [] cc,.t (by simpa using h0),.c [] ca] rfl trivial
    · rw [if_neg h0] at j4
      obtain ⟨w2,l1,j4⟩:=Option.bind_eq_some_iff.1 j4
      have j1':=Ia j1 w1
      have cl:=Tu (b:=a) (l:=[]) ha.tb (fun t ht=>by cases ht) (by decide) rfl
      have cb:=hb a { x with l:=ws } r ha j1'
      have cy:=Qm7 (T:=T) (r0:=r0) (r1:=Br a) j1' ha (hB.p a ha) (hB.n a ha) l1
      have hf:decide (0<Qu a t)=false:=by simpa using h0
      refine go tt [.c [0] cn,.g 25 false rfl,.c [] cc,.f hf,.c [] cl,.c [0] cb,.c [0] cy] rfl (by simp [Qa]; omega) ?_
      exact rd (k,⟨a,w2,x.ev+1⟩,Br a,m+1) (by dsimp only; omega) ⟨lay_ok _ j1' ha (hB.p a ha) (hB.n a ha) l1,by dsimp only; omega,by dsimp only; omega,j4⟩ rfl
theorem Qqs {T:Nat} {t:Rat} {c:Cr} {r0 r1:List (List LV)} (ht:Qb t) (hc:Va c.now) (h:0<Qu c.now t) :
    Z5 Tryz.prog 81 [.one (.ow 0 0),.agg (rl t),.one (.ofn 94 [.ow 0 0] [])] [.blk T (Yo c r0 r1)] [.one (.int .i64 0),.one (.int .i64 8)] [.blk T (Yo c r0 r1)]:=by
  refine Zy Tryz.func81 rfl ?_
  exact ed tt [] [0] [.c [0] (Qd8 hc),.c [] (Dz hc.tb ht),.t (by simpa using h)] rfl trivial
theorem Qb3 {T:Nat} {c:Cr} {r0 r1:List (List LV)}:Z5 Tryz.prog 34 [.one (.ow 0 0)] [.blk T (Yo c r0 r1)] [.one (.int .i64 c.ev)] [.blk T (Yo c r0 r1)]:=by
  refine Zy Tryz.func34 rfl ?_
  exact ed tt [] [0] [] rfl trivial
end Orr

namespace Orr
open Go Go.Proofs Orq
set_option maxRecDepth 10000
theorem Qu8 {a b:Pt} (ha:Sc a.c) (hb:Sc b.c):Cp (Wl a b):=Qcc (Sa ha hb) (T0 ha hb)
def Ix (l:List Pt) (a:Tm):List Ct:=Jo (Wb a) (H5 a l)
abbrev Ai (l:List Pt) (a:Tm):List (List LV):=Ql (H5 a l)
theorem Qi7 {sg:List Int→Int}:∀ {l:List Pt},(∀ p∈l,Sc p.c)→∀ x∈Jo sg l,Cp x.p
  | [],_,x,hx=>by cases hx
  | [_],_,x,hx=>by cases hx
  |
   a::b::l,h,x,hx=>by
   simp only [Jo] at hx
   rcases List.mem_cons.1 hx with rfl | hx
   · exact Qu8 (h a (by simp)) (h b (by simp))
   · exact Qi7 (fun p hp=>h p (List.mem_cons_of_mem _ hp)) x hx
theorem Jx {t:Tm} {l:List Pt} {p:Pt}:p∈H5 t l↔p∈l:=by
  unfold H5 Xd; rw [Ng]; simp
theorem Ue (t:Tm) (l:List Pt):(H5 t l).length=l.length:=Yf _ _
theorem Dw {l:List Pt} (hl:∀ p∈l,Sc p.c) (hn:l.length≤1000):BuildOk (Ix l) :=
  ⟨fun a _ x hx=>Qi7 (fun p hp=>hl p (Jx.1 hp)) x hx,fun a _=>by unfold Ix; rw [U5,Ue]; omega⟩
theorem Qb4 {l:List Pt} {a:Tm} {c:Cr} {r1:List (List LV)} (hl:∀ p∈l,Sc p.c) (hn:l.length≤1000) (ha:Va a):Z5 Tryz.prog 94 [.one (.ow 0 0),.agg (ta a)] [.blk 96 (Yo c (Ql l) r1)] [.one (.row (Z2 (Ix l a)))] [.blk 96 (Yo c (Ql l) (Ai l a))]:=by
  have cr:=Q4x hl (by omega) ha
  have cc:=I6 (l:=H5 a l) (t:=a) (fun p hp=>hl p (Jx.1 hp)) (by rw [Ue]; omega) ha
  refine Zy Tryz.func94 rfl ?_
  exact ed tt [] [0] [.c [] Qtg,.c [] cr,.c [] cc] rfl trivial
theorem Qqu {l:List Pt} {a:Tm} (hl:∀ p∈l,Sc p.c) (hn:l.length≤1000) (ha:Va a):Z5 Tryz.prog 94 [.one (.ow 0 0),.agg (ta a)] [.blk 96 (crz (.row (Ql l)) .nils)] [.one (.row (Z2 (Ix l a)))] [.blk 96 (crz (.row (Ql l)) (.row (Ai l a)))]:=by
  have cr:=Q4x hl (by omega) ha
  have cc:=I6 (l:=H5 a l) (t:=a) (fun p hp=>hl p (Jx.1 hp)) (by rw [Ue]; omega) ha
  refine Zy Tryz.func94 rfl ?_
  exact ed tt [] [0] [.c [] Qtg,.c [] cr,.c [] cc] rfl trivial
def Qqm (l:List Pt) (a:Tm):Cr:=⟨a,(Q6 (Ix l a)).map fresh,0⟩
theorem Qnd {zs:List (List LV)} {qs l:List Pt} {x y x' y':LV} {n d:Int} (hz:IsPts 4294967294 1073741824 zs qs) (hq:qs.length≤6) (hnl:Jv [] qs=(l,0)) (hl:∀ p∈l,Sc p.c) (hn:l.length≤1000) (h1:Xc x y n) (h2:Xc x' y' d) (bn:Qm n≤4294967295) (bd:Qm d≤4294967295) (ht:Qs 900 (Zl n d)) :
    Z5 Tryz.prog 41 [.agg [x,y,x',y'],.one (.row zs)] [] [.one (.ow 0 0),.one (.int .i64 0)] [.blk 96 (Yo (Qqm l (tq (Zl n d))) (Ql l) (Ai l (tq (Zl n d))))]:=by
  have cn:=Q9h hz hq
  rw [hnl] at cn
  have co:=Q40 h1 h2 bn bd (ht.mono (by decide))
  have hv:=Q4g ht
  have hB:=Dw hl hn
  have cb:=Qqu hl hn hv
  have cg:=Qqq (T:=96) (r0:=Ql l) (r1:=Ai l (tq (Zl n d))) hv (hB.p _ hv) (hB.n _ hv)
  obtain ⟨b,l1,rfl,rfl,_⟩:=h1
  obtain ⟨b',l2,rfl,rfl,_⟩:=h2
  refine Zy Tryz.func41 rfl ?_
  exact ed tt [] [2] [.c [] cn,.f rfl,.c [] co,.c [2] cb,.c [2] cg] rfl trivial
end Orr

namespace Orr
open Go Go.Proofs Orq
set_option maxRecDepth 10000
theorem Qq8 {a:Tm} (ha:Va a):D6 a a=some 0:=by
  obtain ⟨c,c1,c2⟩:=Bq ha ha
  rcases c2 with ⟨_,h⟩ | ⟨e,_⟩ | ⟨_,h⟩
  · exact absurd h fun h=>S5 ha.cut ha.cut h h
  · rw [c1,e]
  · exact absurd h fun h=>S5 ha.cut ha.cut h h
theorem Qec {c:Cr} {l l':List Pt} {r1:List (List LV)} {ws:List Wt} (hc:CrOk c) (hl:∀ p∈l',Sc p.c) (hn:l'.length≤1000) (h:Gk c.l c.now (Q6 (Ix l' c.now))=some ws) :
    Z5 Tryz.prog 106 [.one (.ow 0 0),.agg [pts l'],.one (.int .i64 0)] [.blk 96 (Yo c (Ql l) r1)] [.one (.int .i64 0)] [.blk 96 (Yo ⟨c.now,ws,c.ev⟩ (Ql l') (Ai l' c.now))]:=by
  have hB:=Dw hl hn
  have cn:=Qd8 (T:=96) (c:=c) (r0:=Ql l') (r1:=r1) hc.n
  have cb:=Qb4 (c:=c) (r1:=r1) hl hn hc.n
  have cg:=Qqr (T:=96) (r0:=Ql l') (r1:=Ai l' c.now) hc hc.n (Qq8 hc.n) (Int.le_refl 0) (hB.p _ hc.n) (hB.n _ hc.n) h
  refine Zy Tryz.func106 rfl ?_
  exact ed tt [] [0] [.f rfl,.c [0] cn,.c [0] cb,.c [0] cg] rfl trivial
theorem Qgz {c:Cr} {l l':List Pt} {r1:List (List LV)} {e:Int} (he:e≠0) :
    Z5 Tryz.prog 106 [.one (.ow 0 0),.agg [pts l'],.one (.int .i64 e)] [.blk 96 (Yo c (Ql l) r1)] [.one (.int .i64 e)] [.blk 96 (Yo c (Ql l) r1)]:=by
  refine Zy Tryz.func106 rfl ?_
  exact ed tt [] [0] [.t (by simpa using he)] rfl trivial
theorem Qeb {c:Cr} {l s:List Pt} (hs:s.length≤1000000):Z5 Tryz.prog 44 [.one (.ow 0 0)] [.blk 96 (Yo c (Ql l) (Ql s))] [.one (ids (s.map (·.id)))] [.blk 96 (Yo c (Ql l) (Ql s))]:=by
  have hcl:=Vh s
  refine Zy Tryz.func44 rfl ?_
  refine go tt [.o 3 3 1] rfl trivial ?_
  refine lp (S:=Nat) 2 (fun L1 i=>(11,.v (.one (.int .i64 (i:Int))))::(3,.v (.one (.orow 1 1 none)))::L1) (fun i=>[.blk 96 (Yo c (Ql l) (Ql s)),.row false 3 1 (((s.take i).map (·.id)).map fun (z:Int)=>[LV.int .i64 z])]) (fun i=>s.length-i) (fun i=>i≤s.length) 0 (Nat.zero_le _) rfl (fun _ _=>rfl) rfl fun i hi=>?_
  by_cases hlt:i<s.length
  · obtain ⟨p,hp⟩:∃ p,s[i]? = some p:=⟨_,List.getElem?_eq_getElem hlt⟩
    have hg:(((s.take (i+1)).map (·.id)).map fun (z:Int)=>[LV.int .i64 z])=(((s.take i).map (·.id)).map fun (z:Int)=>[LV.int .i64 z])++[[.int .i64 p.id]]:=by
      rw [List.take_succ,hp]; simp
    refine go tt [.t (by simp [hcl]; omega),.x (Kr hp),.s (sz:=1) (l:=[[.int .i64 p.id]]) (fun c hc=>by rw [List.mem_singleton.1 hc]; rfl)] rfl (by simp [Qa]; omega) ?_
    exact rd (i+1) (by omega) hlt (by rw [hg]; rfl)
  · obtain rfl:i=s.length:=by omega
    rw [List.take_length]
    exact ed tt [1] [0] [.f (by simp [hcl])] rfl trivial
theorem Q6j {lx ly:List (List LV)} {px py:List Int} {x y:LV} {d id:Int} {c:Cr} {l:List Pt} {r1:List (List LV)} {ws:List Wt} (hx:IsInts lx px) (hy:IsInts ly py) (hd:Xc x y d) (hk:Cs 4294967294 1073741824 (Crv.mk px py d)) (hll:l.length≤900)
    (he:Fq l ⟨Crv.norm (Crv.mk px py d),id⟩=0) (hc:CrOk c) (hl:∀ p∈put l ⟨Crv.norm (Crv.mk px py d),id⟩,Sc p.c) (hn:(put l ⟨Crv.norm (Crv.mk px py d),id⟩).length≤1000) (h:Gk c.l c.now (Q6 (Ix (put l ⟨Crv.norm (Crv.mk px py d),id⟩) c.now))=some ws) :
    Z5 Tryz.prog 60 [.one (.ow 0 0),.agg [.row lx,.row ly,x,y,.int .i64 id]] [.blk 96 (Yo c (Ql l) r1)] [.one (.int .i64 0)] [.blk 96 (Yo ⟨c.now,ws,c.ev⟩ (Ql (put l ⟨Crv.norm (Crv.mk px py d),id⟩)) (Ai (put l ⟨Crv.norm (Crv.mk px py d),id⟩) c.now))]:=by
  have cp:=Qtr (l:=l) (id:=id) hx hy hd hk (by omega)
  rw [if_pos he,he] at cp
  have cw:=Qec (l:=l) (r1:=r1) hc hl hn h
  refine Zy Tryz.func60 rfl ?_
  obtain ⟨b,l',rfl,rfl,_⟩:=hd
  exact ed tt [] [0] [.c [] cp,.c [0] cw] rfl trivial
theorem Q05 {lx ly:List (List LV)} {px py:List Int} {x y:LV} {d id e:Int} {c:Cr} {l:List Pt} {r1:List (List LV)} (hx:IsInts lx px) (hy:IsInts ly py) (hd:Xc x y d) (hk:Cs 4294967294 1073741824 (Crv.mk px py d)) (hll:l.length≤900)
    (he:Fq l ⟨Crv.norm (Crv.mk px py d),id⟩=e) (h0:e≠0) :
    Z5 Tryz.prog 60 [.one (.ow 0 0),.agg [.row lx,.row ly,x,y,.int .i64 id]] [.blk 96 (Yo c (Ql l) r1)] [.one (.int .i64 e)] [.blk 96 (Yo c (Ql l) r1)]:=by
  have cp:=Qtr (l:=l) (id:=id) hx hy hd hk (by omega)
  rw [he,if_neg h0] at cp
  have cw:=Qgz (c:=c) (l:=l) (l':=l) (r1:=r1) h0
  refine Zy Tryz.func60 rfl ?_
  obtain ⟨b,l',rfl,rfl,_⟩:=hd
  exact ed tt [] [0] [.c [] cp,.c [0] cw] rfl trivial
theorem Qtv {t:Rat} {l:List Pt} {K:Nat} {c c':Cr} {r1 r1':List (List LV)} {n:Int} (ht:Qs 900 t) (hl:∀ p∈l,Sc p.c) (hn:l.length≤1000) (hc:CrOk c) (hev:0≤c.ev∧c.ev+K≤1000000000000000000) (h:Qu c.now t≤0) (hg:goF (Ix l) (Ai l) t K c r1 0=some (c',r1',n)) :
    Z5 Tryz.prog 42 [.one (.ow 0 0),.agg (rl t)] [.blk 96 (Yo c (Ql l) r1)] [.one (.int .i64 n),.one (.int .i64 0)] [.blk 96 (Yo c' (Ql l) r1')]:=by
  have cg:=Q9f (T:=96) (r0:=Ql l) ht (Dw hl hn) (fun a c r1 ha _=>Qb4 (c:=c) (r1:=r1) hl hn ha) hc hev h hg
  refine Zy Tryz.func42 rfl ?_
  exact ed tt [] [0] [.c [] (Gd (ht.mono (by decide))),.c [0] cg] rfl trivial
theorem Qkd {t:Rat} {l:List Pt} {c:Cr} {r1:List (List LV)} (ht:Qs 900 t) (hc:Va c.now) (h:0<Qu c.now t) :
    Z5 Tryz.prog 42 [.one (.ow 0 0),.agg (rl t)] [.blk 96 (Yo c (Ql l) r1)] [.one (.int .i64 0),.one (.int .i64 8)] [.blk 96 (Yo c (Ql l) r1)]:=by
  have cg:=Qqs (T:=96) (r0:=Ql l) (r1:=r1) (ht.mono (by decide)) hc h
  refine Zy Tryz.func42 rfl ?_
  exact ed tt [] [0] [.c [] (Gd (ht.mono (by decide))),.c [0] cg] rfl trivial
theorem Qtw {c:Cr} {r0 r1:List (List LV)}:Z5 Tryz.prog 55 [.one (.ow 0 0)] [.blk 96 (Yo c r0 r1)] [.one (.ow 1 0)] [.blk 96 (Yo c r0 r1),.blk 96 (Yo c r0 r1)]:=by
  refine Zy Tryz.func55 rfl ?_
  exact ed tt [] [0,1] [] rfl trivial
end Orr

namespace Orr
open Go Go.Proofs Orq
set_option maxRecDepth 10000
abbrev idl (l:List Int):List (List LV):=l.map fun (z:Int)=>[.int .i64 z]
theorem A7 {l:List Int} {i:Nat} {z:Int} (h:l[i]? = some z):(idl l)[i]? = some [.int .i64 z]:=Z4 h
theorem Qke {a b:List Int} (ha:a.length≤1000000) (hb:b.length≤1000000):Qc Tryz.prog 71 [.one (ids a),.one (ids b)] [.one (.bool (decide (a=b)))]:=by
  show Qc Tryz.prog 71 [.one (.row (idl a)),.one (.row (idl b))] _
  have la:(idl a).length=a.length:=by simp
  have lb:(idl b).length=b.length:=by simp
  refine Zy Tryz.func71 rfl ?_
  by_cases hl:a.length=b.length
  · refine go tt [.f (by simp; omega)] rfl trivial ?_
    refine lp (S:=Nat) 0 (fun L1 i=>(5,.v (.one (.int .i64 (i:Int))))::L1) (fun _=>[]) (fun i=>a.length-i) (fun i=>i≤a.length∧a.take i=b.take i) 0 ⟨Nat.zero_le _,rfl⟩ rfl (fun _ _=>rfl) rfl fun i ⟨hi,he⟩=>?_
    by_cases hlt:i<a.length
    · obtain ⟨x,hx⟩:∃ p,a[i]? = some p:=⟨_,List.getElem?_eq_getElem hlt⟩
      obtain ⟨y,hy⟩:∃ p,b[i]? = some p:=⟨_,List.getElem?_eq_getElem (by omega)⟩
      by_cases e:x=y
      · refine go tt [.t (by simp; omega),.x (A7 hx),.x (A7 hy),.f (by simpa using e)] rfl (by simp [Qa]; omega) ?_
        exact rd (i+1) (by omega) ⟨hlt,by rw [List.take_succ,List.take_succ,hx,hy,he,e]⟩ rfl
      · have hne:a≠b:=fun h=>by rw [h,hy] at hx; injection hx with hx; exact e hx.symm
        exact en tt [.t (by simp; omega),.x (A7 hx),.x (A7 hy),.t (by simpa using e)] rfl (by simp [hne]) trivial
    · obtain rfl:i=a.length:=by omega
      have hab:a=b:=by rw [List.take_length] at he; rw [he,hl,List.take_length]
      exact en tt [.f (by simp)] rfl (by simp [hab]) trivial
  · have hne:a≠b:=fun h=>hl (by rw [h])
    exact en tt [.t (by simp; omega)] rfl (by simp [hne]) trivial
def G7 (v n:Int):Int:=if n<1 then 0 else v.emod n
theorem Qsn {v n:Int} (h:0<n):(if v.tmod n<0 then v.tmod n+n else v.tmod n)=v % n:=by
  have h3:=Int.emod_nonneg v (show n≠0 by omega)
  have h4:=Int.emod_lt_of_pos v h
  have h1:=Int.tmod_eq_emod (a:=v) (b:=n)
  have hn:((n.natAbs:Nat):Int)=n:=by omega
  split at h1
  · rw [h1]; simp; omega
  · rename_i hc
    rw [h1,hn]
    have:v % n≠0:=fun e=>hc (.inr (Int.dvd_of_emod_eq_zero e))
    rw [if_pos (by omega)]; omega
theorem Tv {v n:Int} (hv:-9223372036854775808≤v∧v≤9223372036854775807) (hn:n≤1000000000):Qc Tryz.prog 15 [.one (.int .i64 v),.one (.int .i64 n)] [.one (.int .i64 (G7 v n))]:=by
  unfold G7
  by_cases h:n<1
  · rw [if_pos h]
    exact w tt Tryz.func15 rfl [.t (by simpa using h)] rfl rfl trivial
  · rw [if_neg h]
    have e:=Qsn (v:=v) (n:=n) (by omega)
    have h3:=Int.emod_nonneg v (show n≠0 by omega)
    have h4:=Int.emod_lt_of_pos v (show 0<n by omega)
    show Qc Tryz.prog 15 [.one (.int .i64 v),.one (.int .i64 n)] [.one (.int .i64 (v % n))]
    by_cases h0:v.tmod n<0
    · rw [if_pos h0] at e
      have b:-n≤v.tmod n:=by omega
      exact w tt Tryz.func15 rfl [.f (by simpa using h),.t (by simpa using h0)] rfl (by rw [e]) (by simp [Qa]; omega)
    · rw [if_neg h0] at e
      exact w tt Tryz.func15 rfl [.f (by simpa using h),.f (by simpa using h0)] rfl (by rw [e]) (by simp [Qa]; omega)
end Orr

namespace Orr
open Go Go.Proofs
set_option maxRecDepth 10000
def Xi (p:List Rat):List (List LV):=p.map fr
theorem Jj (p:List Rat):(Xi p).length=p.length:=by simp [Xi]
theorem Fh {p:List Rat} {i:Nat} {q:Rat} (h:p[i]? = some q):(Xi p)[i]? = some (fr q):=Z4 h
theorem Qct (p:List Rat) (q:Rat):Xi (p++[q])=Xi p++[fr q]:=by simp [Xi]
theorem Lj (p:List Rat):∀ c∈Xi p,c.length=4:=fun c hc=>by obtain ⟨x,_,rfl⟩:=List.mem_map.1 hc; rfl
abbrev rp (p:List Rat):LV:=.row (Xi p)
theorem Qlj (q:Rat):∀ c∈[fr q],c.length=4:=fun c hc=>by rw [List.mem_singleton.1 hc]; rfl
theorem Qua:Qc Tryz.prog 308 [] [.agg (fr 0)]:=w tt Tryz.func308 rfl [.c [] (D3 (n:=0) (by decide))] rfl rfl trivial
theorem Tx {p:List Rat}:Qc Tryz.prog 280 [.one (rp p)] [.one (rp (Wa p))]:=by
  refine Zy Tryz.func280 rfl (ln 0 rfl rfl fun hl=>?_)
  rw [Jj] at hl
  have hpl:=Jj p
  refine go tt [] rfl trivial ?_
  refine lp (S:=Nat) 0 (fun L1 n=>(3,.v (.one (.int .i64 (n:Int))))::L1) (fun _=>[]) id (fun n=>n≤p.length∧∀ j x,n≤j→p[j]? = some x→x=0) (Xi p).length ⟨by rw [hpl]; exact Nat.le_refl _,fun j x h1 h2=>by
    have:=(List.getElem?_eq_some_iff.1 h2).1; rw [hpl] at h1; omega⟩ rfl (fun _ _=>rfl) rfl fun n hs=>?_
  obtain ⟨h1,h2⟩:=hs
  cases n with
  |
   zero =>
   have e:=Ei h1 (fun j x h=>h2 j x h) (fun h=>absurd h (by decide))
   exact en tt [.g 8 false (by simp),.f rfl,.i 0] rfl (by rw [e]; rfl) (by simp [Qa])
  |
   succ n =>
   obtain ⟨x,hx⟩:∃ x,p[n]? = some x:=⟨_,List.getElem?_eq_getElem (by omega)⟩
   have hn:=Rat.num_eq_zero (q:=x)
   by_cases h0:x=0
   · refine go tt [.g 8 true (by simp),.r 11 (eI (b:=(n:Int)) (by simp)),.x (Fh hx),.c [] (Vq (z:=x.num)),.t (decide_eq_true (hn.2 h0)),.r 18 (eI (b:=(n:Int)) (by simp))] rfl (by simp [Qa]; omega) ?_
     exact rd n (by simp) ⟨by omega,fun j y h3 h4=>by
         rcases Nat.eq_or_lt_of_le h3 with rfl | h3
         · rw [hx] at h4; injection h4 with h4; rw [←h4,h0]
         · exact h2 j y h3 h4⟩ rfl
   · have e:=Ei h1 (fun j x h=>h2 j x h) (fun _=>⟨x,hx,h0⟩)
     exact en tt [.g 8 true (by simp),.r 11 (eI (b:=(n:Int)) (by simp)),.x (Fh hx),.c [] (Vq (z:=x.num)),.f (decide_eq_false fun h=>h0 (hn.1 h)),.i (n+1)] rfl (by rw [e]; simp [rp,Xi,List.map_take]) (by simp [Qa,hpl] <;> omega)
theorem Q43 {p:List Rat} {i:Nat} (hi:i<1099511627776):Qc Tryz.prog 286 [.one (rp p),.one (.int .i64 (i:Int))] [.agg (fr (p.getD i 0))]:=by
  have hpl:=Jj p
  by_cases h:i<p.length
  · have e:p.getD i 0=p[i]:=by rw [List.getD_eq_getElem?_getD,List.getElem?_eq_getElem h]; rfl
    rw [e]
    exact w tt Tryz.func286 rfl [.g 7 false (decide_eq_false (by omega)),.f (decide_eq_false (by omega)),.x (Fh (List.getElem?_eq_getElem h))] rfl rfl trivial
  · have e:p.getD i 0=0:=by rw [List.getD_eq_getElem?_getD,List.getElem?_eq_none (by omega)]; rfl
    rw [e]
    exact w tt Tryz.func286 rfl [.g 7 false (decide_eq_false (by omega)),.t (decide_eq_true (by omega)),.c [] Qua] rfl rfl trivial
theorem Quo:Qc Tryz.prog 281 [.one (ids [1])] [.one (rp (zp [1]))]:=by
  have cc:=Tx (p:=zp [1])
  rw [Ky,show trim [1]=[1] from rfl] at cc
  refine Zy Tryz.func281 rfl ?_
  refine go tt [.o 3 49 4] rfl trivial ?_
  refine lp (S:=Nat) 1 (fun L1 i=>(7,.v (.one (.int .i64 (i:Int))))::(3,.v (.one (.orow 0 4 none)))::L1) (fun i=>[.row false 49 4 (Xi ((zp [1]).take i))]) (fun i=>1-i) (fun i=>i≤1) 0 (by decide) rfl (fun _ _=>rfl) rfl fun i hi=>?_
  rcases (show i=0∨i=1 by omega) with rfl | rfl
  · refine go tt [.t rfl,.x (l:=idl [1]) (i:=0) (xs:=[.int .i64 1]) rfl,.c [] (D3 (n:=1) (by decide)),.s (sz:=4) (Qlj _)] rfl (by simp [Qa,Xi]) ?_
    exact rd 1 (by omega) (by omega) rfl
  · exact en tt [.f rfl,.c [] cc] rfl rfl trivial
theorem P0 {p:List Int} (hb:Bd 90000000 p) (hl:p.length≤1000000):Qc Tryz.prog 249 [pr p] [.one (rp (zp (trim p)))]:=by
  have hpl:(p.map Ze).length=p.length:=by simp
  have cc:=Tx (p:=zp p)
  rw [Ky] at cc
  show Qc Tryz.prog 249 [.one (.row (p.map Ze))] _
  refine Zy Tryz.func249 rfl ?_
  refine go tt [.o 3 49 4] rfl trivial ?_
  refine lp (S:=Nat) 1 (fun L1 i=>(7,.v (.one (.int .i64 (i:Int))))::(3,.v (.one (.orow 0 4 none)))::L1) (fun i=>[.row false 49 4 (Xi (zp (p.take i)))]) (fun i=>p.length-i) (fun i=>i≤p.length) 0 (Nat.zero_le _) rfl (fun _ _=>rfl) rfl fun i hi=>?_
  have hol:(Xi (zp (p.take i))).length=i:=by rw [Jj,Yj,List.length_take]; omega
  by_cases h:i<p.length
  · obtain ⟨z,hz⟩:∃ z,p[i]? = some z:=⟨_,List.getElem?_eq_getElem h⟩
    have hzb:=hb z (List.mem_of_getElem? hz)
    have hg:Xi (zp (p.take (i+1)))=Xi (zp (p.take i))++[fr (z:Rat)]:=by
      rw [List.take_succ,hz]; simp [Xi,zp]
    refine go tt [.t (decide_eq_true (by omega)),.x (Z4 (f:=Ze) hz),.c [] (I4 (z:=z) (by omega)),.c [] (W6 (n:=1) (by decide)),.c [] (Vj (n:=z)),.s (sz:=4) (Qlj _)] rfl (by simp [Qa,hol,-List.getD_eq_getElem?_getD]; omega) ?_
    exact rd (i+1) (by omega) h (by rw [hg]; rfl)
  · have e:i=p.length:=by omega
    rw [e,List.take_length]
    exact en tt [.f (decide_eq_false (by omega)),.c [] cc] rfl rfl trivial
theorem Q42 {p:List Int} (hb:Bd 90000000 p) (hl:p.length≤1000000):Qc Tryz.prog 277 [.one (rp (zp p))] [pr p]:=by
  have hpl:(Xi (zp p)).length=p.length:=by rw [Jj,Yj]
  show Qc Tryz.prog 277 [.one (rp (zp p))] [.one (.row (p.map Ze))]
  refine Zy Tryz.func277 rfl ?_
  refine go tt [.o 3 29 2] rfl trivial ?_
  refine lp (S:=Nat) 1 (fun L1 i=>(7,.v (.one (.int .i64 (i:Int))))::(3,.v (.one (.orow 0 2 none)))::L1) (fun i=>[.row false 29 2 ((p.take i).map Ze)]) (fun i=>p.length-i) (fun i=>i≤p.length) 0 (Nat.zero_le _) rfl (fun _ _=>rfl) rfl fun i hi=>?_
  have hol:((p.take i).map Ze).length=i:=by rw [List.length_map,List.length_take]; omega
  by_cases h:i<p.length
  · obtain ⟨z,hz⟩:∃ z,p[i]? = some z:=⟨_,List.getElem?_eq_getElem h⟩
    have hzb:=hb z (List.mem_of_getElem? hz)
    have hq:∀ c∈[Ze z],c.length=2:=fun c hc=>by rw [List.mem_singleton.1 hc]; rfl
    have hg:(p.take (i+1)).map Ze=(p.take i).map Ze++[Ze z]:=by
      rw [List.take_succ,hz]; simp
    refine go tt [.t (decide_eq_true (by omega)),.x (Fh (Qz3 hz)),.c [] (Qqv (z:=z) (by omega)),.s (sz:=2) hq] rfl (by simp [Qa]; omega) ?_
    exact rd (i+1) (by omega) h (by rw [hg]; rfl)
  · have e:i=p.length:=by omega
    rw [e,List.take_length]
    exact en tt [.f (decide_eq_false (by omega))] rfl rfl trivial
theorem Qul {p q:List Rat} (hp:Rb 20000000 p) (hq:Rb 20000000 q) (hlp:p.length≤1000000) (hlq:q.length≤1000000):Qc Tryz.prog 255 [.one (rp p),.one (rp q)] [.one (rp (Qr9 p q))]:=by
  have h1:=Jj p
  have h2:=Jj q
  obtain ⟨M,hM⟩:∃ M,M=max p.length q.length:=⟨_,rfl⟩
  have cc:=Tx (p:=Tp (fun i=>p.getD i 0+q.getD i 0) M)
  unfold Qr9
  rw [←hM]
  refine Zy Tryz.func255 rfl ?_
  refine go tt [.o 5 49 4] rfl trivial ?_
  refine lp (S:=Nat) 1 (fun L1 i=>(6,.v (.one (.int .i64 (i:Int))))::(5,.v (.one (.orow 0 4 none)))::L1) (fun i=>[.row false 49 4 (Xi (Tp (fun i=>p.getD i 0+q.getD i 0) i))]) (fun i=>M-i) (fun i=>i≤M) 0 (Nat.zero_le _) rfl (fun _ _=>rfl) rfl fun i hi=>?_
  have hol:(Xi (Tp (fun i=>p.getD i 0+q.getD i 0) i)).length=i:=by rw [Jj,Dc]
  by_cases h:i<M
  · refine go tt [.r 12 (eI (b:=(M:Int)) (by omega)),.t (decide_eq_true (by omega)),.c [] (Q43 (p:=p) (i:=i) (by omega)),.c [] (Q43 (p:=q) (i:=i) (by omega)),.c [] (Qs6 (hp.getD (by decide) i) (hq.getD (by decide) i)),.s (sz:=4) (Qlj _)] rfl (by simp [Qa,hol,-List.getD_eq_getElem?_getD]; omega) ?_
    exact rd (i+1) (by omega) h (by rw [Qdy,Qct]; rfl)
  · have e:i=M:=by omega
    rw [e]
    exact en tt [.r 12 (eI (b:=(M:Int)) (by omega)),.f (decide_eq_false (by omega)),.c [] cc] rfl rfl trivial
theorem He {p:List Rat} {c:Rat} (hp:Rb 40000000 p) (hc:Qs 40000000 c) (hlp:p.length≤1000000):Qc Tryz.prog 248 [.one (rp p),.agg (fr c)] [.one (rp (Vi p c))]:=by
  have h1:=Jj p
  have cc:=Tx (p:=Tp (fun i=>p.getD i 0*c) p.length)
  unfold Vi
  refine Zy Tryz.func248 rfl ?_
  refine go tt [.o 5 49 4] rfl trivial ?_
  refine lp (S:=Nat) 2 (fun L1 i=>(9,.v (.one (.int .i64 (i:Int))))::(5,.v (.one (.orow 1 4 none)))::L1) (fun i=>[.blk 49 (fr c),.row false 49 4 (Xi (Tp (fun i=>p.getD i 0*c) i))]) (fun i=>p.length-i) (fun i=>i≤p.length) 0 (Nat.zero_le _) rfl (fun _ _=>rfl) rfl fun i hi=>?_
  have hol:(Xi (Tp (fun i=>p.getD i 0*c) i)).length=i:=by rw [Jj,Dc]
  by_cases h:i<p.length
  · have hg:p[i]? = some (p.getD i 0):=by rw [List.getD_eq_getElem?_getD,List.getElem?_eq_getElem h]; rfl
    refine go tt [.t (decide_eq_true (by omega)),.x (Fh hg),.c [] (Qti (hp.getD (by decide) i) hc),.s (sz:=4) (Qlj _)] rfl (by simp [Qa,hol,-List.getD_eq_getElem?_getD]; omega) ?_
    exact rd (i+1) (by omega) h (by rw [Qdy,Qct]; rfl)
  · have e:i=p.length:=by omega
    rw [e]
    exact en tt [.f (decide_eq_false (by omega)),.c [] cc] rfl rfl trivial
theorem Qkn {p:List Rat} (hp:Rb 40000000 p) (hlp:p.length≤1000000):Qc Tryz.prog 253 [.one (rp p)] [.one (rp (Qfz p))]:=by
  have cs:=He (p:=p) (c:=-1) hp ⟨by decide,by decide⟩ hlp
  have co:=D3 (n:=-1) (by decide)
  rw [show ((-1:Int):Rat)=-1 from rfl] at co
  exact w tt Tryz.func253 rfl [.c [] co,.c [] cs] rfl rfl trivial
theorem Q3i {s t:Nat} {a b:Rat} (ha:Qs s a) (hb:Qs t b):Qs (s+t+1) (a*b):=by
  rw [←Qc7]
  unfold Zl
  rw [if_neg (Int.mul_ne_zero (Wi a) (Wi b))]
  have h1:=Q0 a.num b.num
  have h2:=Q0 (a.den:Int) (b.den:Int)
  have:=ha.1; have:=ha.2; have:=hb.1; have:=hb.2
  exact Qs.divInt (by omega) (by omega) (by omega)
theorem Qyd {s:Nat} {p:List Rat} (hp:Rb s p):Rb (s+2) (Qfz p):=by
  unfold Qfz Vi
  refine Rb.trim (Q4b fun i hi=>?_)
  have h1:Qs (s+0) (p.getD i 0):=by
    have hi:i<p.length:=hi
    rw [List.getD_eq_getElem?_getD,List.getElem?_eq_getElem hi]
    exact hp _ (List.getElem_mem hi)
  have:=Q3i h1 (show Qs 1 (-1:Rat) from ⟨by decide,by decide⟩)
  exact this.mono (by omega)
theorem Qi6 (p:List Rat):(Qfz p).length≤p.length:=by
  unfold Qfz Vi
  exact Nat.le_trans (Qdr _) (by rw [Dc]; exact Nat.le_refl _)
theorem Q6q {p q:List Rat} (hp:Rb 19000000 p) (hq:Rb 19000000 q) (hlp:p.length≤1000000) (hlq:q.length≤1000000):Qc Tryz.prog 208 [.one (rp p),.one (rp q)] [.one (rp (Qyr p q))] :=
  w tt Tryz.func208 rfl [.c [] (Qkn (hq.mono (by decide)) hlq),.c [] (Qul (hp.mono (by decide)) ((Qyd hq).mono (by decide)) hlp (Nat.le_trans (Qi6 q) hlq))] rfl rfl trivial
end Orr

namespace Orr
open Go Go.Proofs
set_option maxRecDepth 10000
theorem Qtj {a b:Int} (ha:Qm a≤40000000) (hb:Qm b≤40000000):Qc Tryz.prog 279 [.agg (fr (a:Rat)),.agg (fr (b:Rat))] [.agg (fr ((a*b:Int):Rat))]:=by
  have h:=Qti (Um ha (by decide)) (Um hb (by decide))
  rw [←Rat.intCast_mul] at h; exact h
theorem Q6b {a b:Int} (ha:Qm a≤20000000) (hb:Qm b≤20000000):Qc Tryz.prog 285 [.agg (fr (a:Rat)),.agg (fr (b:Rat))] [.agg (fr ((a+b:Int):Rat))]:=by
  have h:=Qs6 (Um ha (by decide)) (Um hb (by decide))
  rw [←Rat.intCast_add] at h; exact h
theorem Qhr (l:List Int) (i:Nat) (z:Int):(Xi (zp l)).set i (fr (z:Rat))=Xi (zp (l.set i z)):=by simp [Xi,zp,List.map_set]
theorem Qz4 {p:List Int} {i:Nat} (h:i<p.length):(zp p)[i]? = some ((p.getD i 0:Int):Rat):=Qz3 (Xj h)
theorem X9 {p:List Int} {i:Nat} (h:i<p.length):(Xi (zp p))[i]? = some (fr ((p.getD i 0:Int):Rat)):=Fh (Qz4 h)
theorem Al (p:List Int):(Xi (zp p)).length=p.length:=by rw [Jj,Yj]
abbrev zR:List LV:=[.nils,.bool false,.nils,.bool false]
theorem Qew {n i:Nat} (h:i<n):(List.replicate i (fr 0)++List.replicate (n-i) zR).set i (fr 0)=List.replicate (i+1) (fr 0)++List.replicate (n-(i+1)) zR:=by
  rw [List.set_append_right _ _ (by simp),List.length_replicate,Nat.sub_self,show n-i=n-(i+1)+1 by omega,List.replicate_succ (n:=n-(i+1)),List.set_cons_zero,List.replicate_succ' (n:=i),List.append_assoc]; rfl
theorem Qbi (n:Nat):List.replicate n (fr 0)++List.replicate (n-n) zR=Xi (zp (List.replicate n 0)):=by simp [zp,Xi]
theorem Qun {p q:List Int} {s t:Nat} (hlp:p.length≤1000000) (hlq:q.length≤1000000) (hp:Bd s p) (hq:Bd t q) (hst:s+t≤19000000):Qc Tryz.prog 283 [.one (rp (zp p)),.one (rp (zp q))] [.one (rp (zp (Zp p q)))]:=by
  have hpl:=Al p
  have hql:=Al q
  rcases Nat.eq_zero_or_pos p.length with h0 | h0
  · have e:Zp p q=[]:=by unfold Zp; rw [if_pos (.inl h0)]
    rw [e]
    exact w tt Tryz.func283 rfl [.g 12 true (decide_eq_true (by omega)),.t rfl] rfl rfl trivial
  rcases Nat.eq_zero_or_pos q.length with h1 | h1
  · have e:Zp p q=[]:=by unfold Zp; rw [if_pos (.inr h1)]
    rw [e]
    exact w tt Tryz.func283 rfl [.g 12 false (decide_eq_false (by omega)),.t (decide_eq_true (by omega))] rfl rfl trivial
  have e:Zp p q=trim (Kk p q (List.replicate (p.length+q.length-1) 0) p.length):=by unfold Zp; rw [if_neg (by omega)]
  rw [e]
  obtain ⟨N,hN⟩:∃ N,N=p.length+q.length-1:=⟨_,rfl⟩
  rw [←hN]
  obtain ⟨o,ho⟩:∃ o,o=List.replicate N (0:Int):=⟨_,rfl⟩
  rw [←ho]
  have hol:o.length=N:=by rw [ho]; simp
  have ho0:∀ m,o.getD m 0=0:=fun m=>by rw [ho]; exact Jt N m
  have cc:=Tx (p:=zp (Kk p q o p.length))
  rw [Ky] at cc
  refine Zy Tryz.func283 rfl ?_
  refine go tt [.g 12 false (decide_eq_false (by omega)),.f (decide_eq_false (by omega)),.r 22 (eI (b:=(N:Int)) (by omega)),.i N,.i N,.r 25 (eI (b:=(N:Int)) (by simp))] rfl (by simp [Qa]; omega) ?_
  refine lp (S:=Nat) 1 (fun L1 i=>(26,.v (.one (.int .i64 (i:Int))))::L1) (fun i=>[.row false 49 4 (List.replicate i (fr 0)++List.replicate (N-i) zR)]) (fun i=>N-i) (fun i=>i≤N) 0 (Nat.zero_le _) rfl (fun _ _=>rfl) rfl fun i hi=>?_
  by_cases hlt:i<N
  · refine go tt [.t (decide_eq_true (by omega)),.c [] Qua,.i i] rfl (by simp [Qa]; omega) ?_
    rw [Qew hlt]
    exact rd (i+1) (by omega) hlt rfl
  have hiN:i=N:=by omega
  rw [hiN,Qbi,←ho]
  clear hiN hlt hi
  refine go tt [.f (decide_eq_false (by omega))] rfl trivial ?_
  refine lp (S:=Nat) 1 (fun L1 i=>(36,.v (.one (.int .i64 (i:Int))))::L1) (fun i=>[.row false 49 4 (Xi (zp (Kk p q o i)))]) (fun i=>p.length-i) (fun i=>i≤p.length) 0 (Nat.zero_le _) rfl (fun _ _=>rfl) rfl fun i hi=>?_
  by_cases hlt:i<p.length
  · refine go tt [.t (decide_eq_true (by omega))] rfl trivial ?_
    refine lp (S:=Nat) 1 (fun L1 k=>(41,.v (.one (.int .i64 (k:Int))))::L1) (fun k=>[.row false 49 4 (Xi (zp (Hp (p.getD i 0) q i (Kk p q o i) k)))]) (fun k=>q.length-k) (fun k=>k≤q.length) 0 (Nat.zero_le _) rfl (fun _ _=>rfl) rfl fun k hk=>?_
    by_cases hk2:k<q.length
    · have hm1:Qm ((Hp (p.getD i 0) q i (Kk p q o i) k).getD (i+k) 0)≤20000000:=Nat.le_trans (Gw (t:=39) (Qff (by rw [Kl]; omega) (Qfe (fun j hj=>by omega) ho0 (fun i j=>Vn (Qq hp i) (Qq hq j))) (fun j=>Vn (Qq hp i) (Qq hq j)) (i+k)) (Nat.lt_of_lt_of_eq (show i+1<549755813888 by omega) (by decide))) (by omega)
      have hm2:Qm (p.getD i 0*q.getD k 0)≤20000000:=Nat.le_trans (Q0 _ _) (by have:=Qq hp i; have:=Qq hq k; omega)
      have hml:(Hp (p.getD i 0) q i (Kk p q o i) k).length=N:=by rw [Hq,Kl,hol]
      have cm:=Qtj (a:=p.getD i 0) (b:=q.getD k 0) (Nat.le_trans (Qq hp i) (by omega)) (Nat.le_trans (Qq hq k) (by omega))
      have hfl:=Al (Hp (p.getD i 0) q i (Kk p q o i) k)
      refine go tt [.t (decide_eq_true (by omega)),.i (i+k),.x (X9 (p:=Hp (p.getD i 0) q i (Kk p q o i) k) (i:=i+k) (by omega)),.x (X9 hlt),.x (X9 hk2),.c [] cm,.c [] (Q6b hm1 hm2),.i (i+k)] rfl (by simp [Qa,hfl,-List.getD_eq_getElem?_getD] <;> omega) ?_
      rw [Qhr]
      exact rd (k+1) (by omega) hk2 rfl
    · obtain rfl:k=q.length:=by omega
      exact go tt [.f (decide_eq_false (by omega))] rfl (by simp [Qa]; omega) (rd (i+1) (by omega) hlt rfl)
  · obtain rfl:i=p.length:=by omega
    exact en tt [.f (decide_eq_false (by omega)),.c [] cc] rfl rfl trivial
def Qhm (p:List Int) (n:Nat):List Int:=(List.range n).map fun k=>p.getD (k+1) 0*((k+1:Nat):Int)
theorem Qvk (p:List Int) (n:Nat):(Qhm p n).length=n:=by simp [Qhm]
theorem Qrj (p:List Int) (n:Nat):Qhm p (n+1)=Qhm p n++[p.getD (n+1) 0*((n+1:Nat):Int)]:=by simp [Qhm,List.range_succ]
theorem Qgn (p:List Int) (z:Int):Xi (zp (p++[z]))=Xi (zp p)++[fr (z:Rat)]:=by simp [Xi,zp]
theorem Qkl {p:List Int} (hp:Bd 40000000 p) (hl:p.length≤1000000):Qc Tryz.prog 252 [.one (rp (zp p))] [.one (rp (zp (Zm p)))]:=by
  have hpl:=Al p
  have cc:=Tx (p:=zp (Qhm p (p.length-1)))
  rw [Ky] at cc
  refine Zy Tryz.func252 rfl ?_
  refine go tt [.o 3 49 4] rfl trivial ?_
  refine lp (S:=Nat) 1 (fun L1 j=>(4,.v (.one (.int .i64 ((j+1:Nat):Int))))::(3,.v (.one (.orow 0 4 none)))::L1) (fun j=>[.row false 49 4 (Xi (zp (Qhm p j)))]) (fun j=>p.length-j) (fun j=>j≤p.length-1) 0 (Nat.zero_le _) rfl (fun _ _=>rfl) rfl fun j hj=>?_
  have hfl:=Al (Qhm p j)
  rw [Qvk] at hfl
  by_cases h:j+1<p.length
  · have hk:Qm ((j+1:Nat):Int)≤40000000:=Nat.le_trans (Qe5 (t:=38) (k:=j+1) (Nat.lt_of_lt_of_eq (show j+1<274877906944 by omega) (by decide))) (by decide)
    refine go tt [.t (decide_eq_true (by omega)),.x (X9 h),.c [] (D3 (n:=((j+1:Nat):Int)) (by omega)),.c [] (Qtj (Qq hp (j+1)) hk),.s (sz:=4) (Qlj _)] rfl (by simp [Qa,hfl,-List.getD_eq_getElem?_getD] <;> omega) ?_
    exact rd (j+1) (by omega) (by omega) (by rw [Qrj,Qgn]; rfl)
  · have e:j=p.length-1:=by omega
    rw [e]
    exact en tt [.f (decide_eq_false (by omega)),.c [] cc] rfl rfl trivial
theorem Q67 (z:Int):fr (z:Rat)=[nd z.natAbs,sg z,.row [[.int .i64 1]],.bool false]:=by
  have e:Qz 1=[1]:=by rw [Rm (by decide),show 1 / 10000=0 from rfl,Z0]
  show [nd z.natAbs,sg z,nd 1,sg 1]=_
  unfold nd dl
  rw [e]; rfl
theorem Qup {p:List Int} (hl:p.length≤1000000):Qc Tryz.prog 345 [.one (rp (zp p))] [.one (.bool true)]:=by
  have hpl:=Al p
  refine Zy Tryz.func345 rfl ?_
  refine go tt [] rfl trivial ?_
  refine lp (S:=Nat) 0 (fun L1 i=>(6,.v (.one (.int .i64 (i:Int))))::L1) (fun _=>[]) (fun i=>p.length-i) (fun i=>i≤p.length) 0 (Nat.zero_le _) rfl (fun _ _=>rfl) rfl fun i hi=>?_
  by_cases h:i<p.length
  · have hg:=X9 h
    rw [Q67] at hg
    refine go tt [.t (decide_eq_true (by omega)),.x hg,.g 17 false rfl,.x hg,.x (l:=[[.int .i64 1]]) (i:=0) (xs:=[.int .i64 1]) rfl,.f rfl] rfl (by simp [Qa]; omega) ?_
    exact rd (i+1) (by omega) h rfl
  · exact en tt [.f (decide_eq_false (by omega))] rfl rfl trivial
theorem Qpt:[LV.nils,LV.bool false].map An=ri 0:=by
  show _=[nd 0,sg 0]
  unfold nd dl
  rw [Z0]; rfl
theorem Qlu (p:List Int) (q:Rat):Int.sign (Y9 p q.num q.den p.length).1=Zx p q:=by
  unfold Zx Q3g Ka
  generalize (Y9 p q.num q.den p.length).1=z
  rcases Int.lt_trichotomy z 0 with h | h | h
  · rw [if_pos h,Int.sign_eq_neg_one_of_neg h]
  · subst h; rfl
  · rw [if_neg (by omega),if_pos h,Int.sign_eq_one_of_pos h]
theorem Qnn {p:List Int} {q:Rat} (hp:Bd 30000000 p) (hl:p.length≤64) (hq:Qs 1000000 q):Qc Tryz.prog 338 [.one (rp (zp p)),.agg (fr q)] [.one (.int .i64 (Zx p q))]:=by
  have hpl:=Al p
  refine Zy Tryz.func338 rfl ?_
  refine go tt [.c [] (Qup (p:=p) (by omega)),.f rfl,.c [] (W6 (n:=1) (by decide)),.r 19 (eI (b:=(p.length:Int)-1-((0:Nat):Int)) (by simp; omega))] rfl (by simp [Qa]; omega) ?_
  refine nlb 1 rfl rfl rfl ?_
  rw [Qpt]
  refine lp (S:=Nat) 3 (fun L1 j=>(7,.v (.one (.int .i64 ((p.length:Int)-1-(j:Int)))))::L1) (fun j=>[.blk 49 (fr q),.blk 47 (ri (Y9 p q.num q.den j).1),.blk 47 (ri (Y9 p q.num q.den j).2)]) (fun j=>p.length-j) (fun j=>j≤p.length) 0 (Nat.zero_le _) rfl (fun _ _=>rfl) rfl fun j hj=>?_
  have hv:=Qgh (k:=j) hp hq.1 hq.2
  have hjl:j*(1000000+1)≤p.length*(1000000+1):=Nat.mul_le_mul_right _ (by omega)
  by_cases h:j<p.length
  · have hc:=Qq hp (p.length-1-j)
    have hq1:=hq.1
    have hq2:=hq.2
    have hm1:Qm ((Y9 p q.num q.den j).1*q.num)≤200000000:=Nat.le_trans (Q0 _ _) (by omega)
    have hm2:Qm (p.getD (p.length-1-j) 0*(Y9 p q.num q.den j).2)≤200000000:=Nat.le_trans (Q0 _ _) (by omega)
    refine go tt [.t (decide_eq_true (by omega)),.c [] (Yg (a:=(Y9 p q.num q.den j).1) (b:=q.num) (by omega) (by omega)),.r 29 (eI (b:=((p.length-1-j:Nat):Int)) (by omega)),.x (X9 (p:=p) (i:=p.length-1-j) (by omega)),.c [] (Yg (a:=p.getD (p.length-1-j) 0) (b:=(Y9 p q.num q.den j).2) (by omega) (by omega)),.c [] (Qki hm1 hm2),.c [] (Yg (a:=(Y9 p q.num q.den j).2) (b:=(q.den:Int)) (by omega) (by omega)),.r 23 (eI (b:=(p.length:Int)-1-((j+1:Nat):Int)) (by omega))] rfl (by simp [Qa] <;> omega) ?_
    exact rd (j+1) (by omega) h rfl
  · obtain rfl:j=p.length:=by omega
    exact en tt [.f (decide_eq_false (by omega)),.c [] Qni] rfl (by rw [Qlu]) trivial
end Orr

namespace Orr
def Zc (p:List Int):Int:=p.getD (p.length-1) 0
def Pk (a b:List Int):Int:=if Zc b<0 then -(Zc a) else Zc a
def G0 (a b:List Int) (i:Nat):Int:=a.getD i 0*((Zc b).natAbs:Int)-(if a.length-b.length≤i then Pk a b*b.getD (i-(a.length-b.length)) 0 else 0)
def Qdp (a b:List Int):List Int:=Vf a.length (G0 a b)
inductive RRun (b:List Int):Nat→List Int→List Int→Prop
  | stop {a:List Int}:a.length<b.length→RRun b 0 a a
  | step {k:Nat} {a r:List Int}:b.length≤a.length→a.length≤1000→Bd 9000000 a→Bd 9000000 b→RRun b k (Qdp a b) r→RRun b (k+1) a r
def Hg (p:List Int):Nat→Nat
  | 0=>0
  | i+1=>Int.gcd (Hg p i:Nat) (p.getD i 0)
def Mr (p:List Int):Nat:=Hg p p.length
theorem D7 (p:List Int):∀ {i j:Nat},j<i→((Hg p i:Nat):Int)∣p.getD j 0
  | 0,_,h=>absurd h (Nat.not_lt_zero _)
  |
   i+1,j,h=>by
   simp only [Hg]
   rcases Nat.lt_or_ge j i with h1 | h1
   · exact Int.dvd_trans (Int.gcd_dvd_left ..) (D7 p h1)
   · rw [show j=i by omega]; exact Int.gcd_dvd_right ..
theorem Qg9 (p:List Int) (j:Nat):((Mr p:Nat):Int)∣p.getD j 0:=by
  rcases Nat.lt_or_ge j p.length with h | h
  · exact D7 p h
  · rw [List.getD_eq_getElem?_getD,List.getElem?_eq_none h]; exact Int.dvd_zero _
theorem Tz {s:Nat} {p:List Int} (h:Bd s p):∀ i,Qm ((Hg p i:Nat):Int)≤s
  | 0=>by simp [Hg,Vl]
  |
   i+1=>by
   simp only [Hg]
   by_cases h0:p.getD i 0=0
   · rw [h0,Int.gcd_zero_right]; exact Tz h i
   · have h1:=Int.gcd_dvd_right (Hg p i:Nat) (p.getD i 0)
     have h2:(Int.gcd (Hg p i:Nat) (p.getD i 0))≤(p.getD i 0).natAbs:=Nat.le_of_dvd (by omega) (by simpa using Int.natAbs_dvd_natAbs.2 h1)
     have h3:=Qq h i
     rw [Ju] at h3 ⊢
     simp only [Int.natAbs_natCast]
     omega
theorem Qq9 {p:List Int} {j i:Nat} (hj:j<i) (h:p.getD j 0≠0):0<Hg p i:=by
  have:=D7 p hj
  rcases Nat.eq_zero_or_pos (Hg p i) with h0 | h0
  · rw [h0] at this
    exact absurd (Int.zero_dvd.1 this) h
  · exact h0
theorem Qha {p:List Int} (ht:Qj p) (h:0<p.length):0<Mr p:=Qq9 (j:=p.length-1) (by omega) (Xb ht h)
def V2 (p:List Int):Int:=if Zc p<0 then -((Mr p:Nat):Int) else ((Mr p:Nat):Int)
def Xs (p:List Int):List Int:=Vf p.length fun i=>p.getD i 0 / V2 p
def Vg (p:List Int):List Int:=if Zc p<0 then Y6 (Xs p) else Xs p
theorem Qrl (p:List Int) (j:Nat):V2 p∣p.getD j 0:=by
  unfold V2
  split
  · exact Int.neg_dvd.2 (Qg9 p j)
  · exact Qg9 p j
theorem Qvw {p:List Int} (ht:Qj p) (h:0<p.length):V2 p≠0:=by
  have:=Qha ht h
  unfold V2
  split <;> omega
theorem Qci {s:Nat} {p:List Int} (h:Bd s p):Qm (V2 p)≤s:=by
  unfold V2
  split
  · rw [Z7]; exact Tz h _
  · exact Tz h _
theorem Qma {p:List Int} {c:Int} (hc:c≠0) (hd:∀ j,c∣p.getD j 0):Vi (zp p) (1 / (c:Rat))=zp (Vf p.length fun i=>p.getD i 0 / c):=by
  unfold Vi Vf
  rw [Is (g:=fun i=>p.getD i 0 / c) _ fun i _=>?_,Ky,Yj]
  obtain ⟨k,hk⟩:=hd i
  have hc':(c:Rat)≠0:=fun e=>hc (by exact_mod_cast e)
  rw [Dq,hk,Int.mul_ediv_cancel_left _ hc,Rat.intCast_mul]
  grind
theorem I1 {s:Nat} {p:List Int} (h:Bd s p):Bd s (Xs p):=Py fun i _=>Nat.le_trans (Sw _ _) (Qq h i)
theorem Lt (p:List Int):(Xs p).length≤p.length:=Hi _ _
theorem Qqk {s:Nat} {p:List Int} (h:Bd s p):Bd s (Vg p):=by
  unfold Vg
  split
  · exact Ax (I1 h)
  · exact I1 h
theorem Qk7 (p:List Int):(Vg p).length≤p.length:=by
  unfold Vg
  split
  · exact Nat.le_trans (Sy _) (Lt p)
  · exact Lt p
inductive GRun:Nat→List Int→List Int→List Int→Prop
  | stop (a:List Int):GRun 0 a [] a
  | step {k m:Nat} {a b r g:List Int}:0<b.length→b.length≤1000→Bd 9000000 b→RRun b m a r→r.length≤1000→Bd 9000000 r→Qj r→GRun k b (Xs r) g→GRun (k+1) a b g
theorem GRun.inv {k:Nat} {a b g:List Int} (h:GRun k a b g):(k=0∧b.length=0∧a=g)∨∃ j m r,k=j+1∧0<b.length∧b.length≤1000∧Bd 9000000 b∧RRun b m a r∧r.length≤1000∧Bd 9000000 r∧Qj r∧GRun j b (Xs r) g:=by
  cases h with
  | stop=>exact .inl ⟨rfl,rfl,rfl⟩
  | step h1 h2 h3 h4 h5 h6 h7 h8=>exact .inr ⟨_,_,_,rfl,h1,h2,h3,h4,h5,h6,h7,h8⟩
def Fv (k:Nat) (p:List Int):List Int:=List.replicate k 0++p
theorem Qmd (k:Nat) (p:List Int):(Fv k p).length=k+p.length:=by simp [Fv]
theorem Qql {s k:Nat} {p:List Int} (h:Bd s p):Bd s (Fv k p):=fun z hz=>by
  rcases List.mem_append.1 hz with h1 | h1
  · rw [List.eq_of_mem_replicate h1,Vl]; exact Nat.zero_le _
  · exact h z h1
inductive DRun (b:List Int):Nat→List Int→List Int→List Int→List Int→Prop
  | stop {a q:List Int}:a.length<b.length→DRun b 0 a q q a
  | step {k:Nat} {a q qf r:List Int}:b.length≤a.length→a.length≤1000→Bd 9000000 a→Zc b≠0→Zc b∣Zc a→a.length-b.length<q.length →
      DRun b k (Vx a (Fv (a.length-b.length) (Qw b (Zc a / Zc b)))) (q.set (a.length-b.length) (Zc a / Zc b)) qf r→DRun b (k+1) a q qf r
theorem DRun.inv {b a q qf r:List Int} {k:Nat} (h:DRun b k a q qf r):(k=0∧q=qf∧a=r∧a.length<b.length)∨∃ j,k=j+1∧b.length≤a.length∧a.length≤1000∧Bd 9000000 a∧Zc b≠0∧Zc b∣Zc a∧a.length-b.length<q.length ∧
    DRun b j (Vx a (Fv (a.length-b.length) (Qw b (Zc a / Zc b)))) (q.set (a.length-b.length) (Zc a / Zc b)) qf r:=by
  cases h with
  | stop h=>exact .inl ⟨rfl,rfl,rfl,h⟩
  | step h1 h2 h3 h4 h5 h6 h7=>exact .inr ⟨_,rfl,h1,h2,h3,h4,h5,h6,h7⟩
def Vd (l:List (List Int)):List Int:=l.getD (l.length-1) []
inductive LRun:Nat→List (List Int)→List (List Int)→Prop
  | stop {l:List (List Int)}:(Vd l).length≤1→LRun 0 l l
  | step {k m:Nat} {l f:List (List Int)} {g:List Int}:1<(Vd l).length→(Vd l).length≤1000→Qj (Vd l)→Bd 9000000 (Vd l)→Bd 9000000 (Zm (Vd l))→GRun m (Xs (Vd l)) (Xs (Zm (Vd l))) g→l.length≤1000→LRun k (l++[g]) f→LRun (k+1) l f
theorem LRun.inv {k:Nat} {l f:List (List Int)} (h:LRun k l f):(k=0∧l=f∧(Vd l).length≤1)∨∃ j m g,k=j+1∧1<(Vd l).length∧(Vd l).length≤1000∧Qj (Vd l)∧Bd 9000000 (Vd l)∧Bd 9000000 (Zm (Vd l))∧GRun m (Xs (Vd l)) (Xs (Zm (Vd l))) g∧l.length≤1000∧LRun j (l++[g]) f:=by
  cases h with
  | stop h=>exact .inl ⟨rfl,rfl,h⟩
  | step h1 h2 h3 h4 h5 h6 h7 h8=>exact .inr ⟨_,_,_,rfl,h1,h2,h3,h4,h5,h6,h7,h8⟩
def DOk (a b q:List Int):Prop:=0<b.length∧b.length≤1000∧a.length≤1000∧Bd 9000000 b∧∃ qf r n,Bd 9000000 qf∧qf.length≤1000∧DRun b n a (List.replicate (a.length+1-b.length) 0) qf r∧q=trim qf
theorem DOk.bd {a b q:List Int} (h:DOk a b q):Bd 9000000 q:=by
  obtain ⟨_,_,_,_,qf,r,n,h1,_,_,rfl⟩:=h
  exact Je h1
theorem DOk.len {a b q:List Int} (h:DOk a b q):q.length≤1000:=by
  obtain ⟨_,_,_,_,qf,r,n,_,h1,_,rfl⟩:=h
  exact Nat.le_trans (Xe _) h1
theorem DOk.trim {a b q:List Int} (h:DOk a b q):Qj q:=by
  obtain ⟨_,_,_,_,qf,r,n,_,_,_,rfl⟩:=h
  exact Xq _
def Q87 (a b c f:List Int):Prop:=∃ x y z,DOk a b x∧DOk b c y∧DOk (Xs x) (Xs y) z∧f=Xs z
structure FRun (a:List Int) (m:Nat) (f:Nat→List Int):Prop where
  run:∃ n l,LRun n [Xs a] l∧l.length=m+1∧∀ k,k<m→Q87 ((l++[[1]]).getD k []) ((l++[[1]]).getD (k+1) []) ((l++[[1]]).getD (k+2) []) (f k)
  small:m≤1000
def Qbf (f:Nat→List Int) (n:Nat):List (List Int):=(List.range n).map f
theorem Qjf (f:Nat→List Int) (n:Nat):(Qbf f n).length=n:=by simp [Qbf]
theorem Qsk (f:Nat→List Int) (n:Nat):Qbf f (n+1)=Qbf f n++[f n]:=by simp [Qbf,List.range_succ]
theorem Qzm {f:Nat→List Int} {n i:Nat} (h:i<n):(Qbf f n)[i]? = some (f i):=by simp [Qbf,List.getElem?_range h]
theorem Qk2 {l:List (List Int)} {i:Nat} (h:i<l.length):l[i]? = some (l.getD i []):=by
  rw [List.getD_eq_getElem?_getD,List.getElem?_eq_getElem h]; rfl
def Hx (f:Nat→List Int):Nat→List Int
  | 0=>[1]
  | i+1=>Zp (Hx f i) (f i)
def Q86 (m:Nat) (f:Nat→List Int):Prop:=∀ i,i<m→Bd 9000000 (Hx f i)∧(Hx f i).length≤1000∧Bd 9000000 (f i)∧(f i).length≤1000
inductive CRun:Nat→List (List Int)→List Int→List (List Int)→Prop
  | stop {l:List (List Int)} {g:List Int}:g.length=0→CRun 0 l g l
  | step {k m:Nat} {l f:List (List Int)} {g r:List Int}:0<g.length→g.length≤1000→Bd 9000000 g→RRun g m (Vd l) r→Qj r→Bd 9000000 r→r.length≤1000→0<l.length→l.length≤1000→CRun k (l++[g]) (Y6 (Vg r)) f→CRun (k+1) l g f
theorem CRun.inv {k:Nat} {l f:List (List Int)} {g:List Int} (h:CRun k l g f):(k=0∧l=f∧g.length=0)∨∃ j m r,k=j+1∧0<g.length∧g.length≤1000∧Bd 9000000 g∧RRun g m (Vd l) r∧Qj r∧Bd 9000000 r∧r.length≤1000∧0<l.length∧l.length≤1000∧CRun j (l++[g]) (Y6 (Vg r)) f:=by
  cases h with
  | stop h=>exact .inl ⟨rfl,rfl,h⟩
  | step h1 h2 h3 h4 h5 h6 h7 h8 h9 h10=>exact .inr ⟨_,_,_,rfl,h1,h2,h3,h4,h5,h6,h7,h8,h9,h10⟩
structure ChRun (a:List Int) (sq:List Int) (c:List (List Int)):Prop where
  fac:∃ m f,FRun a m f∧Q86 m f∧sq=Hx f m
  Hf:∃ n,CRun n [sq] (Vg (Zm sq)) c
  bd:Bd 8000000 sq
  len:sq.length≤1000
  small:c.length≤1000
def Qmv (q:Rat) (c:List (List Int)):Prop:=∃ sq,ChRun [-q.num,(q.den:Int)] sq c
end Orr
