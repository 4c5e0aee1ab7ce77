/- T24 T25 G1 G2 SortL KinL K1 K2 F6 F7 F8 F9 G3 G4 K3 K4 S1 S2 S3 R5 R6 RefGL R7 RatOkL R8 R9 RefCL -/
import Derived.Test.YtbnjginelkkonaaGreatPart07
import Derived.Test.YtbnjginelkkonaaGreatPart06
import Derived.Test.YtbnjginelkkonaaGreatPart05
set_option linter.all false

namespace Orq
open Orr Go
theorem Qvi:∀ {k:Nat} {a b:List Int} {l:List (List Int)},chF k a b=some l→∀ p∈l,p.length≠0
  | 0,_,_,_,h=>by cases h
  |
   k+1,a,b,l,h=>by
   simp only [chF] at h
   split at h
   · injection h with h; subst h; exact fun p hp=>by cases hp
   · rename_i h0
     obtain ⟨r,_,h⟩:=Option.bind_eq_some_iff.1 h
     obtain ⟨l',h1,h⟩:=Option.bind_eq_some_iff.1 h
     injection h with h; subst h
     intro p hp
     rcases List.mem_cons.1 hp with rfl | hp
     · exact h0
     · exact Qvi h1 p hp
theorem Okp.pb {n s:Nat} {p:List Int} (h:Okp n s p) (hs:s≤16777216):Pb p:=⟨h.t,by have:=h.l; have:=h.z.1; omega,Qd h.b hs⟩
theorem Qrj {p:List Int} {q:List Int} {l:List (List Int)} (hp:Pb p) (h:Hk p=some (q::l)) (hq:q.length≠0):∀ r∈q::l,Qk r∧r.length≠0:=by
  have h1:=(Orr.chain_ok hp h).2
  unfold Hk at h
  obtain ⟨a,_,h⟩:=Option.bind_eq_some_iff.1 h
  split at h
  · cases h
  · obtain ⟨d,_,h⟩:=Option.bind_eq_some_iff.1 h
    obtain ⟨l',h3,h⟩:=Option.bind_eq_some_iff.1 h
    injection h with h
    injection h with e1 e2
    subst e1; subst e2
    intro r hr
    refine ⟨(h1 r hr).t,?_⟩
    rcases List.mem_cons.1 hr with rfl | hr
    · exact hq
    · exact Qvi h3 r hr
inductive RI (q:List Int) (L:List (List Rat)):Rat→List Tm→Rat→Prop
  | nil {lo hi:Rat} (h:lo≤hi) (hv:vv L lo=vv L hi):RI q L lo [] hi
  | cons {lo hi:Rat} {t:Tm} {l:List Tm} (h:lo≤t.lo) (hv:vv L lo=vv L t.lo) (ht:Vt (cz q) L t.lo t.hi) (hp:t.p=q) (hl:RI q L t.hi l hi):RI q L lo (t::l) hi
theorem RI.app {q:List Int} {L:List (List Rat)} {lo m hi:Rat} {l l':List Tm} (h:RI q L lo l m) (h':RI q L m l' hi):RI q L lo (l++l') hi:=by
  induction h with
  |
   nil h hv =>
   cases h' with
   | nil h2 hv2=>exact .nil (by grind) (by omega)
   | cons h2 hv2 ht hp hl=>exact .cons (by grind) (by omega) ht hp hl
  | cons h hv ht hp _ ih=>exact .cons h hv ht hp (ih h')
theorem Qvk {D M k:Nat} {m:Rat} (h:Gr D M k m) (hM:0<M) (hs:Qn (D:Int)+Qn (M:Int)+k≤16777216):chq m=some m:=by
  have:=Qov h hM hs
  unfold chq
  rw [if_pos ⟨this.1,this.2⟩]
theorem Iv {q:List Int} {c:List (List Int)} (hS:As (cz q) (c.map cz)) (tq:Qk q) (nq:q.length≤9) (hc1:q.length<2→c=[q]) {D M:Nat} (hM:0<M):∀ (k j:Nat) (lo hi:Rat),lo<hi→Gr D M j lo→Gr D M j hi→Qn (D:Int)+Qn (M:Int)+(j+k)≤16777216→(hi-lo)*((2^(Jl q q+1):Nat):Rat)≤((2^k:Nat):Rat) →
    ∃ l,Fq q c (k+1) lo hi ((vv (c.map cz) lo:Int)-(vv (c.map cz) hi:Int))=some l∧RI q (c.map cz) lo l hi∧∀ t∈l,∃ k',k'≤j+k∧Gr D M k' t.lo∧Gr D M k' t.hi:=by
  intro k
  induction k with
  |
   zero =>
   intro j lo hi hl g1 g2 hs hK
   have hle:=Fz hS hl
   have h2:vv (c.map cz) lo<vv (c.map cz) hi+2:=by
     rcases Nat.lt_or_ge (vv (c.map cz) lo) (vv (c.map cz) hi+2) with h | h
     · exact h
     · exfalso
       have lq:2≤q.length:=by
         rcases Nat.lt_or_ge q.length 2 with e | e
         · have hvv:∀ x,vv (c.map cz) x=vv (c.map cz) 0:=fun x=>by
             rcases hS with ⟨c0,hc0,hcc,hl'⟩ | ⟨g',l',k',hk,hg,hsc,hl'⟩
             · rw [hl']; simp only [vv,tc,hcc]
             · rw [hc1 e] at hl'; cases hl'
           rw [hvv lo,hvv hi] at h; omega
         · exact e
       have:=Q4j hS tq nq lq hl h
       rw [Nat.pow_zero] at hK
       have h7:((1:Nat):Rat)=1:=rfl
       rw [h7] at hK; grind
   simp only [Fq]
   by_cases e0:vv (c.map cz) lo=vv (c.map cz) hi
   · rw [if_pos (by omega)]
     exact ⟨[],rfl,.nil (Rat.le_of_lt hl) e0,fun t ht=>by cases ht⟩
   · rw [if_neg (by omega),if_pos (by omega)]
     refine ⟨[⟨q,lo,hi⟩],rfl,.cons Rat.le_refl rfl ⟨hS,hl,by show vv _ lo=vv _ hi+1; omega⟩ rfl (.nil Rat.le_refl rfl),fun t ht=>?_⟩
     rw [List.mem_singleton.1 ht]; exact ⟨j,by omega,g1,g2⟩
  |
   succ k ih =>
   intro j lo hi hl g1 g2 hs hK
   have hle:=Fz hS hl
   show ∃ l,(if (vv (c.map cz) lo:Int)-(vv (c.map cz) hi:Int)=0 then some [] else if (vv (c.map cz) lo:Int)-(vv (c.map cz) hi:Int)=1 then some [⟨q,lo,hi⟩] else (chq (mid lo hi)).bind fun m=>(Fq q c (k+1) lo m (Jc c lo m)).bind fun l=>(Fq q c (k+1) m hi ((vv (c.map cz) lo:Int)-(vv (c.map cz) hi:Int)-Jc c lo m)).bind fun r=>some (l++r))=some l∧_
   by_cases e0:vv (c.map cz) lo=vv (c.map cz) hi
   · rw [if_pos (by omega)]
     exact ⟨[],rfl,.nil (Rat.le_of_lt hl) e0,fun t ht=>by cases ht⟩
   by_cases e1:vv (c.map cz) lo=vv (c.map cz) hi+1
   · rw [if_neg (by omega),if_pos (by omega)]
     refine ⟨[⟨q,lo,hi⟩],rfl,.cons Rat.le_refl rfl ⟨hS,hl,e1⟩ rfl (.nil Rat.le_refl rfl),fun t ht=>?_⟩
     rw [List.mem_singleton.1 ht]; exact ⟨j,by omega,g1,g2⟩
   · rw [if_neg (by omega),if_neg (by omega)]
     obtain ⟨m,hm⟩:∃ m,m=(lo+hi) / 2:=⟨_,rfl⟩
     have h2:(lo+hi) / 2*2=lo+hi:=Zs (by decide)
     rw [←hm] at h2
     have gm:Gr D M (j+1) m:=by rw [hm]; exact Qwu g1 g2
     have l1:lo<m:=by grind
     have l2:m<hi:=by grind
     rw [Qlp,←hm,Qvk gm hM (by omega)]
     show ∃ l,((Fq q c (k+1) lo m (Jc c lo m)).bind fun l=>(Fq q c (k+1) m hi ((vv (c.map cz) lo:Int)-(vv (c.map cz) hi:Int)-Jc c lo m)).bind fun r=>some (l++r))=some l∧_
     rw [Rl (Rat.le_of_lt l1),show (vv (c.map cz) lo:Int)-(vv (c.map cz) hi:Int)-((vv (c.map cz) lo:Int)-(vv (c.map cz) m:Int))=(vv (c.map cz) m:Int)-(vv (c.map cz) hi:Int) by omega]
     rw [Qjb k] at hK
     have hp:∀ x y:Rat,(y-x)*2=hi-lo→(y-x)*((2^(Jl q q+1):Nat):Rat)≤((2^k:Nat):Rat):=fun x y h=>by
       have:(y-x)*((2^(Jl q q+1):Nat):Rat)*2=(hi-lo)*((2^(Jl q q+1):Nat):Rat):=by rw [←h]; grind
       grind
     obtain ⟨la,a1,a2,a3⟩:=ih (j+1) lo m l1 (Qdb g1) gm (by omega) (hp lo m (by grind))
     obtain ⟨lb,b1,b2,b3⟩:=ih (j+1) m hi l2 gm (Qdb g2) (by omega) (hp m hi (by grind))
     rw [a1]
     show ∃ l,((Fq q c (k+1) m hi ((vv (c.map cz) m:Int)-(vv (c.map cz) hi:Int))).bind fun r=>some (la++r))=some l∧_
     rw [b1]
     refine ⟨la++lb,rfl,a2.app b2,fun t ht=>?_⟩
     rcases List.mem_append.1 ht with ht | ht
     · obtain ⟨k',h1,h2,h3⟩:=a3 t ht; exact ⟨k',by omega,h2,h3⟩
     · obtain ⟨k',h1,h2,h3⟩:=b3 t ht; exact ⟨k',by omega,h2,h3⟩
theorem Q7h {D M k:Nat} {q:Rat} (h:Gr D M k q):Gr D M k (-q):=by
  obtain ⟨u,hu⟩:=h.u
  exact ⟨⟨-u,by rw [Rat.intCast_neg,←hu]; grind⟩,by rw [Uv]; exact h.b,h.d⟩
theorem Qii {m s:Nat} (h:m<2^s):Qn ((m+1:Nat):Int)≤s+1:=by
  rw [J0,Int.natAbs_natCast,Nat.pow_succ]; omega
theorem Qr6 {z:Int} {s:Nat} (h:Qn z≤s):Qn ((z.natAbs+1:Nat):Int)≤s+1:=Qii (J0.1 h)
theorem Q39 {x:Rat} {m s g N:Nat} (hx:x≤2*((m+1:Nat):Rat)) (hm:m+1≤2^s) (hN:s+1+g≤N):x*((2^g:Nat):Rat)≤((2^N:Nat):Rat):=by
  have h3:=Rat.natCast_le_natCast.2 hm
  have e:=Qjb s
  have h4:(0:Rat)≤((2^s:Nat):Rat):=Rat.natCast_nonneg
  have h1:x≤((2^(s+1):Nat):Rat):=by rw [e]; grind
  have h5:(0:Rat)≤((2^g:Nat):Rat):=Rat.natCast_nonneg
  refine Rat.le_trans (Rat.mul_le_mul_of_nonneg_right h1 h5) ?_
  have h6:2^(s+1)*2^g≤2^N:=by
    rw [←Nat.pow_add]; exact Nat.pow_le_pow_right (by decide) hN
  have:=Rat.natCast_le_natCast.2 h6
  rw [Rat.natCast_mul] at this
  exact this
theorem Q0s {s:Nat} {l:List Int} (h:Bd s l):most l<2^s:=by
  have key:∀ (l:List Int) (m:Nat),m<2^s→Bd s l→l.foldl (fun m z=>if m<z.natAbs then z.natAbs else m) m<2^s:=by
    intro l
    induction l with
    | nil=>exact fun m h _=>h
    |
     cons y l ih =>
     intro m hm hb
     simp only [List.foldl_cons]
     refine ih _ ?_ fun z hz=>hb z (List.mem_cons_of_mem _ hz)
     have:=hb y (List.mem_cons_self ..)
     rw [J0] at this
     split <;> assumption
  exact key l 0 (Nat.pow_pos (by decide)) h
theorem Qyw {p:List Int} (h:Okp 9 900 p):∃ q c l,Vb p=some q∧Hk p=some c∧Qbl p=some l∧As (cz q) (c.map cz)∧RI q (c.map cz) (-Zx q) l (Zx q)∧(∀ t∈l,Va t)∧(∀ x y,x<y→Zx q≤x∨y≤-Zx q→vv (c.map cz) x=vv (c.map cz) y):=by
  obtain ⟨pp,hpl,hpb⟩:=h.pr
  obtain ⟨g,q',hq',sq⟩:=Mx h
  obtain ⟨q,l,q1,q2,hS,hl0⟩:=chain_ok h
  rw [hq'] at q1
  injection q1 with q1
  subst q1
  have e1:∀ t,Qh (Qo p) t=Qh q' t*Qh g t:=fun t=>by rw [sq.e]; grind
  obtain ⟨p1,p2⟩:=X7 pp.t pp.n e1
  have hll:=Y8 sq.pq.t sq.pg.t pp.t e1 p1 p2
  have hl9:=h.l
  have bq:Bd 969 q':=Sx hpb (by omega) pp.t sq.pq.t sq.pg.t pp.n e1
  have hall:=Qrj (h.pb (by omega)) q2 sq.pq.n
  have hld:Qr q'≠0:=by have:=sq.pq.l; omega
  have hb1:=La hld
  -- the bound's size
  obtain ⟨D,hD⟩:∃ D,D=(Qr q').natAbs:=⟨_,rfl⟩
  obtain ⟨m,hm⟩:∃ m,m=most (q'.take (q'.length-1)):=⟨_,rfl⟩
  have hm2:m<2^969:=by rw [hm]; exact Q0s (s:=969) fun z hz=>bq z (List.mem_of_mem_take hz)
  have hD0:0<D:=by omega
  have hDs:Qn (D:Int)≤969:=by
    have:=Vn bq
    rw [J0] at this ⊢
    rw [Int.natAbs_natCast,hD]; exact this
  have hbe:=Od hld
  rw [←hD,←hm] at hbe
  have hDq:=nat_pos hD0
  have hbm:Zx q'≤((m+1:Nat):Rat):=by
    have hD1:(1:Rat)≤(D:Rat):=by
      have:((1:Nat):Rat)≤(D:Rat):=Rat.natCast_le_natCast.2 hD0
      exact this
    have hm0:(0:Rat)≤(m:Rat):=Rat.natCast_nonneg
    have h3:=Km (a:=(m:Rat)) (c:=1) hm0 Rat.le_refl (by decide) hD1
    rcases Qy (Zx q') ((m+1:Nat):Rat) with h' | h'
    · exact h'
    · exfalso
      have:=Rat.mul_lt_mul_of_pos_right h' hDq
      push_cast at this; grind
  have gb:Gr D (m+1) 0 (Zx q'):=by
    refine ⟨⟨(D+m:Nat),?_⟩,?_,hD0⟩
    · rw [Nat.pow_zero,Nat.mul_one,hbe]
      rw [show ((((D+m:Nat):Int)):Rat)=((D+m:Nat):Rat) from rfl]; push_cast; rfl
    · have:Qm (Zx q')=Zx q':=by unfold Qm; rw [if_neg (by grind)]
      rw [this]; exact hbm
  have hMs:Qn ((m+1:Nat):Int)≤970:=Qii (s:=969) hm2
  have hK:(Zx q' - -Zx q')*((2^(Jl q' q'+1):Nat):Rat)≤((2^99999:Nat):Rat):=by
    have hps:=H8 bq
    have hg:Jl q' q'≤1964*31:=by
      unfold Jl
      exact Nat.mul_le_mul (by omega) (by omega)
    exact Q39 (s:=969) (g:=Jl q' q'+1) (N:=99999) (by grind) hm2 (by omega)
  have hN:Qn (D:Int)+Qn ((m+1:Nat):Int)+(0+99999)≤16777216:=by omega
  obtain ⟨ls,r1,r2,r3⟩:=Iv hS sq.pq.t (by omega) (fun h=>by rw [hl0 h]) (Nat.succ_pos m) 99999 0 (-Zx q') (Zx q') (by grind) (Q7h gb) gb hN hK
  have hchq:chq (Zx q')=some (Zx q'):=Qvk gb (Nat.succ_pos m) (by omega)
  refine ⟨q',q'::l,ls,hq',q2,?_,hS,r2,fun t ht=>?_,fun x y hxy hb=>Qm0 hS sq.pq.t sq.pq.n hxy hb (by grind)⟩
  · unfold Qbl
    rw [q2,hq']
    show (chq (Zx q')).bind _=_
    rw [hchq]
    show Fq q' (q'::l) 100000 (-Zx q') (Zx q') (Px (q'::l))=_
    rw [Qsr hS hall]
    exact r1
  · obtain ⟨k',k1,k2,k3⟩:=r3 t ht
    have hmem:∀ {lo hi:Rat} {ls:List Tm},RI q' ((q'::l).map cz) lo ls hi→t∈ls→Vt (cz q') ((q'::l).map cz) t.lo t.hi∧t.p=q':=fun h=>by
      induction h with
      | nil=>intro ht; cases ht
      |
       cons h hv ht' hp hl ih =>
       intro ht
       rcases List.mem_cons.1 ht with rfl | ht
       · exact ⟨ht',hp⟩
       · exact ih ht
    obtain ⟨v1,v2⟩:=hmem r2 ht
    have lq2:2≤q'.length:=by
      rcases Nat.lt_or_ge q'.length 2 with e | e
      · exfalso
        have hvv:∀ x,vv ((q'::l).map cz) x=0:=fun x=>by
          rw [hl0 e,sq.pq.one e]
          have hv1:∀ x:Rat,ev (cz [1]) x=1:=fun x=>by rw [Qg,Vv]
          simp only [List.map_cons,List.map_nil,vv,tc,hv1]
          have:Qp 1=1:=by decide
          rw [this]; decide
        have:=v1.v
        rw [hvv,hvv] at this; omega
      · exact e
    refine ⟨.inr ⟨_,by rw [v2]; exact v1⟩,by rw [v2]; exact sq.pq.t,by rw [v2]; omega,by rw [v2]; exact lq2,by rw [v2]; exact Qd bq (by omega),D,m+1,k',k2,k3,Nat.succ_pos m,by omega⟩
theorem Up {q:List Int} {L:List (List Rat)} (hS:As (cz q) L) {c:Rat→Int} (hc:Cut c) {lo:Rat} (hH:∀ z,c z=-1→z≤lo→vv L z=vv L lo) {y0:Rat} (hy:c y0=-1) (hv:∀ z,lo<z→z≤y0→vv L z=vv L lo):∃ s,s≠0∧∀ z,c z=-1→z≤y0→Qp (ev (cz q) z)=s:=by
  have hall:∀ z,c z=-1→z≤y0→vv L z=vv L lo:=fun z h1 h2=>by
    rcases Qy z lo with e | e
    · exact hH z h1 e
    · exact hv z e h2
  have hne:∀ z,c z=-1→z≤y0→Qp (ev (cz q) z)≠0:=fun z h1 h2=>by
    obtain ⟨w,w1,w2⟩:=hc.dn z h1
    have:=Qgu hS w1 (by rw [hall w w2 (by grind),hall z h1 h2])
    rw [this.s]; exact this.n
  refine ⟨Qp (ev (cz q) y0),hne y0 hy Rat.le_refl,fun z h1 h2=>?_⟩
  rcases Classical.em (z=y0) with e | e
  · rw [e]
  · have:=Qgu hS (x:=z) (y:=y0) (by grind) (by rw [hall z h1 h2,hall y0 hy Rat.le_refl])
    rw [this.s,Fi (hne z h1 h2)]
structure Fst (o:List Int) (a t:Tm):Prop where
  lt:Uh a t
  s:∃ s,s≠0∧(∀ z,Qu a z=-1→Qu t z=1→Qp (ev (cz o) z)=s)∧RS (cz o) (Qu t) (-s)
def Non (o:List Int) (a:Tm):Prop:=∃ s,s≠0∧∀ z,Qu a z=-1→Qp (ev (cz o) z)=s
theorem Qse {q:List Int} {L:List (List Rat)} (hS:As (cz q) L) {a:Tm} (ha:Va a) {lo hi:Rat} {l:List Tm} (hR:RI q L lo l hi):(∀ t∈l,Va t)→(∀ z,hi<z→vv L z=vv L hi)→(∀ z,Qu a z=-1→z≤lo→vv L z=vv L lo)→∃ r,Nc a l=some r∧match r with
    | none=>Non q a
    | some t=>t∈l∧Fst q a t:=by
  have ca:=ha.cut
  induction hR with
  |
   @nil lo hi h hv =>
   intro _ hhi hH
   refine ⟨none,rfl,?_⟩
   obtain ⟨y1,hy1⟩:=ca.hi
   have hall:∀ z,lo<z→vv L z=vv L lo:=fun z hz=>by
     rcases Qy z hi with e | e
     · have h1:=Fz hS hz
       have h2:vv L hi≤vv L z:=by
         rcases Classical.em (z=hi) with e' | e'
         · rw [e']; exact Nat.le_refl _
         · exact Fz hS (by grind)
       omega
     · rw [hhi z e,hv]
   obtain ⟨s,s0,hs⟩:=Up hS ca hH hy1 fun z h1 _=>hall z h1
   refine ⟨s,s0,fun z hz=>?_⟩
   rcases Qy z y1 with e | e
   · exact hs z hz e
   · obtain ⟨s',s0',hs'⟩:=Up hS ca hH hz fun z h1 _=>hall z h1
     rw [hs' z hz Rat.le_refl,←hs' y1 hy1 (Rat.le_of_lt e),hs y1 hy1 Rat.le_refl]
  |
   @cons lo hi t l h hv ht hp hl ih =>
   intro hV hhi hH
   have hvt:=hV t (List.mem_cons_self ..)
   have ct:=hvt.cut
   have ht':=ht
   rw [←hp] at ht'
   have ect:∀ z,Qu t z=cq (cz t.p) t.lo t.hi z:=Kg ht.l
   obtain ⟨c,c1,c2⟩:=B6 hvt ha
   show ∃ r,((Li t a).bind fun c=>if 0<c then some (some t) else Nc a l)=some r∧_
   rw [c1]
   show ∃ r,(if 0<c then some (some t) else Nc a l)=some r∧_
   have hlo1:Qu t t.lo=1:=by rw [ect]; exact Fb Rat.le_refl
   have hlow:∀ z,lo<z→Qu t z=1→vv L z=vv L lo:=fun z h1 h2=>by
     rcases Qy z t.lo with e | e
     · have a1:=Fz hS h1
       have a2:vv L t.lo≤vv L z:=by
         rcases Classical.em (z=t.lo) with e' | e'
         · rw [e']; exact Nat.le_refl _
         · exact Fz hS (by grind)
       omega
     · rw [ect] at h2
       have hz:z≤t.hi:=by
         rcases Qy z t.hi with e' | e'
         · exact e'
         · rw [B8 ht.l e'] at h2; omega
       rw [ht'.eq_lo e hz h2,hv]
   by_cases hc:0<c
   · rw [if_pos hc]
     refine ⟨some t,rfl,List.mem_cons_self ..,?_⟩
     have hlt:Uh a t:=by
       rcases c2 with ⟨e,_⟩ | ⟨e,_⟩ | ⟨_,h⟩
       · omega
       · omega
       · exact h
     refine ⟨hlt,?_⟩
     obtain ⟨m,m1,m2⟩:=hlt
     obtain ⟨s,s0,hs⟩:=Up hS ca hH m1 fun z h1 h2=>hlow z h1 (by
       rcases Classical.em (z=m) with e | e
       · rw [e]; exact m2
       · exact ct.mono' (q:=z) (r:=m) (by grind) (by omega))
     have hall:∀ z,Qu a z=-1→Qu t z=1→Qp (ev (cz q) z)=s:=fun z h1 h2=>by
       rcases Qy z m with e | e
       · exact hs z h1 e
       · obtain ⟨s',s0',hs'⟩:=Up hS ca hH h1 fun w w1 w2=>hlow w w1 (by
           rcases Classical.em (w=z) with e | e
           · rw [e]; exact h2
           · exact ct.mono' (q:=w) (r:=z) (by grind) (by omega))
         rw [hs' z h1 Rat.le_refl,←hs' m m1 (Rat.le_of_lt e),hs m m1 Rat.le_refl]
     refine ⟨s,s0,hall,?_⟩
     -- Q7l behind t
     obtain ⟨w,w1,w2,w3⟩:=Oz ct m2 hlo1
     have hwa:Qu a w=-1:=ca.mono m w w2 (by omega)
     have hsw:=hall w hwa w1
     have hwh:w<t.hi:=by
       rw [ect] at w1
       rcases Qy t.hi w with e | e
       · have:=ht'.hi1
         rcases Classical.em (t.hi=w) with e' | e'
         · rw [←e'] at w1; exact absurd w1 this
         · rw [B8 ht.l (by grind)] at w1; omega
       · exact e
     have hww:vv L w=vv L t.lo:=ht'.eq_lo w3 (Rat.le_of_lt hwh) (by rw [←ect]; exact w1)
     have hvv:=ht.v
     have hone:=Qgt hS hwh (by omega)
     have hlw:Yb (cz q) w=s:=by rw [Fi (by rw [hsw]; exact s0),hsw]
     rw [hlw] at hone
     have hd:∀ z,w<z→z≤t.hi→Qu t z=-1→Qp (ev (cz q) z)=-s:=fun z z1 z2 z3=>by
       rw [ect] at z3
       have e1:=ht'.eq_hi (by grind) z2 (by omega)
       have e2:=Qgt hS z1 (by omega)
       rw [hlw] at e2
       have hz0:Qp (ev (cz q) z)≠0:=by
         rw [Gv (by grind) z2,hp] at z3
         intro h0
         rw [if_pos h0] at z3; omega
       rw [Fi hz0] at e2; exact e2.2
     rcases ct.val t.hi with e | e | e
     · rw [ect] at e; exact absurd e ht'.hi1
     · obtain ⟨d,dp,hd'⟩:=Q7l (p:=cz q) (x:=t.hi) (by rw [hone.2]; omega)
       refine ⟨t.hi+d,ct.mono t.hi _ (by grind) (by omega),fun z h1 h2=>?_⟩
       have hz:t.hi<z:=by
         rcases Qy z t.hi with e' | e'
         · rcases Classical.em (z=t.hi) with e'' | e''
           · rw [e''] at h1; omega
           · have:=ct.mono z t.hi (by grind) (by omega); omega
         · exact e'
       rw [hd' z hz (by grind),hone.2]
     · exact ⟨t.hi,e,fun z h1 h2=>hd z (ct.lt w1 h1) h2 h1⟩
   · rw [if_neg hc]
     have hle:¬Uh a t:=fun h=>by
       rcases c2 with ⟨e,h'⟩ | ⟨e,h'⟩ | ⟨e,_⟩
       · exact Pf ct ca h' h
       · obtain ⟨z,z1,z2⟩:=h
         have:=h' z; omega
       · omega
     obtain ⟨r,r1,r2⟩:=ih (fun x hx=>hV x (List.mem_cons_of_mem _ hx)) hhi fun z z1 z2=>by
       -- z lies behind a,so behind t
       have hz:Qu t z≠1:=fun h=>hle ⟨z,z1,h⟩
       have hzl:t.lo<z:=by
         rcases Qy z t.lo with e | e
         · refine absurd ?_ hz
           rw [ect]; exact Fb e
         · exact e
       exact ht'.eq_hi hzl z2 (by rw [←ect]; exact hz)
     refine ⟨r,r1,?_⟩
     cases r with
     | none=>exact r2
     | some x=>exact ⟨List.mem_cons_of_mem _ r2.1,r2.2⟩
end Orq

namespace Orq
open Orr Go
theorem Q5t {c:Rat→Int} (hc:Cut c):∀ (n:Nat) (f:List Rat),HD f n→∃ s,s≠0∧RS f c s
  |
   n,f,h=>by
   rcases P8 hc f with hv | ⟨s,hs,hn⟩
   · cases n with
     |
      zero =>
      exfalso
      obtain ⟨q,hq,_⟩:=Qiv hc (hv (Qm (f.getD 0 0)) (Kt h.1))
      cases f with
      | nil=>exact h.1 (by simp)
      |
       cons a l =>
       have:=W6 (p:=l) fun k=>by have:=h.2 (k+1) (by omega); rwa [List.getD_cons_succ] at this
       simp only [ev,this,List.getD_cons_zero] at hq; grind
     |
      succ n =>
      have hd:HD (V0 f) n:=by
        have key:∀ (f:List Rat) (k:Nat),(V0 f).getD k 0=((k+1:Nat):Rat)*f.getD (k+1) 0:=by
          intro f
          induction f with
          | nil=>intro k; simp only [V0,List.getD_nil]; grind
          |
           cons a f ih =>
           intro k
           simp only [V0]
           rw [Xq,List.getD_cons_succ]
           cases k with
           | zero=>rw [List.getD_cons_zero]; push_cast; grind
           | succ k=>rw [List.getD_cons_succ,ih]; push_cast; grind
        refine ⟨fun h0=>?_,fun k hk=>by rw [key,h.2 (k+1) (by omega)]; grind⟩
        rw [key] at h0
        rcases Rat.mul_eq_zero.1 h0 with h1 | h1
        · have:=nat_pos (show 0<n+1 by omega); grind
        · exact h.1 h1
      obtain ⟨s,hs,h1⟩:=Q5t hc n (V0 f) hd
      exact ⟨s,hs,Qga hc hv h1 hs⟩
   · exact ⟨s,hs,Qdz hc hn⟩
theorem Qyz {c:Rat→Int} (hc:Cut c) {f p q:List Rat} {s s':Int} (hf:∀ t,ev f t=ev p t*ev q t) (h:RS p c s) (h':RS q c s'):RS f c (s*s'):=by
  obtain ⟨y,h1,h2⟩:=h
  obtain ⟨y',h3,h4⟩:=h'
  refine ⟨if y≤y' then y else y',by split <;> assumption,fun z z1 z2=>?_⟩
  rw [hf,Jv,h2 z z1 (by clear h2 h4; grind),h4 z z1 (by clear h2 h4; grind)]
theorem Qy0 {c:Rat→Int} (hc:Cut c) {f o S:List Rat} {k:Rat} (hk:k≠0) (hf:∀ t,ev f t=k*(ev o t*(ev S t*ev S t))) (hnz:¬∀ t,ev f t=0) {s:Int} (h:RS o c s):RS f c (Qp k*s):=by
  obtain ⟨n,_,hn⟩:∃ n,n<S.length∧HD S n:=by
    rcases Qar S with h1 | h1
    · exact absurd (fun t=>by rw [hf,h1]; grind) hnz
    · exact h1
  obtain ⟨s',hs',h'⟩:=Q5t hc n S hn
  have h1:=Qyz hc (f:=Zl S S) (fun t=>Ql t _ _) h' h'
  have h2:=Qyz hc (f:=Zl o (Zl S S)) (fun t=>Ql t _ _) h h1
  have hsq:s'*s'=1:=by
    obtain ⟨y,y1,y2⟩:=h'
    have:=y2 y y1 Rat.le_refl
    rcases Zd (ev S y) with ⟨e,_⟩ | ⟨e,_⟩ | ⟨e,_⟩
    · rw [←this,e]; rfl
    · omega
    · rw [←this,e]; rfl
  rw [hsq,Int.mul_one] at h2
  obtain ⟨y,y1,y2⟩:=h2
  exact ⟨y,y1,fun z z1 z2=>by
    have:=y2 z z1 z2
    rw [Ql,Ql] at this
    rw [hf,Jv,this]⟩
structure Cp (p:List Int):Prop where
  t:Qk p
  l:p.length≤9
  b:Bd 800 p
theorem Cp.dp {p:List Int} (h:Cp p):Dp p:=⟨h.t,h.l,Qd h.b (by omega)⟩
theorem Cp.ok {p:List Int} (h:Cp p) (h0:p.length≠0):Okp 9 900 p:=h.dp.ok h0
def Leq (a:Tm) (c:Rat→Int):Prop:=∀ q,c q=-1→Qu a q=-1
def Um (p:List Int) (a:Tm):Option Tm→Prop
  | none=>p=[]∨∃ s,s≠0∧∀ c,Cut c→Leq a c→RS (cz p) c s
  | some t=>p≠[]∧Va t∧Uh a t∧∃ s,s≠0∧(∀ c,Cut c→Leq a c→(∃ m,c m=-1∧Qu t m=1)→RS (cz p) c s)∧RS (cz p) (Qu t) (-s)
theorem RI.len {q:List Int} {L:List (List Rat)} {lo hi:Rat} {l:List Tm} (h:RI q L lo l hi):l.length+vv L hi≤vv L lo:=by
  induction h with
  | nil h hv=>simp; omega
  | cons h hv ht hp hl ih=>have:=ht.v; simp only [List.length_cons]; omega
theorem Qzw (x:Rat):∀ (L:List (List Rat)) (s:Int),tc x s L≤L.length
  | [],_=>Nat.le_refl _
  |
   f::l,s=>by
   have h1:=Qzw x l
   simp only [tc,List.length_cons]
   repeat' split
   all_goals (first | (have:=h1 s; omega) | (have:=h1 (Qp (ev f x)); omega))
theorem Q8y (L:List (List Rat)) (x:Rat):vv L x≤L.length:=Qzw x L 0
theorem P7 {p:List Int} (h:Cp p):∃ l,Bj p=some l∧l.length≤67∧(∀ t∈l,Va t)∧∀ a,Va a→∃ r,Nc a l=some r∧Um p a r∧∀ t,r=some t→t∈l:=by
  unfold Bj
  by_cases h0:p.length=0
  · have e:p=[]:=List.eq_nil_of_length_eq_zero h0
    subst e
    exact ⟨[],rfl,by decide,(fun t ht=>by cases ht),fun a _=>⟨none,rfl,.inl rfl,fun t ht=>by cases ht⟩⟩
  · obtain ⟨qp,o,q1,o1,hpt⟩:=Qxt (n:=9) (s:=800) (p:=p) ⟨⟨by decide,by decide⟩,h.t,h0,h.l,h.b⟩
    obtain ⟨g,sq⟩:=hpt.sq
    obtain ⟨S,hS⟩:=hpt.os
    obtain ⟨p1,p2,p3,p4,p5,p6,p7⟩:=Kr h.t h0
    have hpl:=h.l
    obtain ⟨hh,th,eh⟩:=hpt.oh
    have bo:Bd 869 o:=Sx (p5 800 h.b) (by omega) p1 hpt.ot th (by omega) eh
    obtain ⟨lo1,lo2⟩:=X7 p1 (by omega) eh
    have hlen:=Y8 hpt.ot th p1 eh lo1 lo2
    have oko:Okp 9 900 o:=⟨Qpo,hpt.ot,by omega,by omega,Qd bo (by omega)⟩
    obtain ⟨q,c,l,r1,r2,r3,hSt,hRI,hVa,hout⟩:=Qyw oko
    obtain ⟨g',q',s1,s2⟩:=Mx oko
    rw [r1] at s1
    injection s1 with s1
    subst s1
    obtain ⟨_,_,_,_,_,o6,o7⟩:=Kr hpt.ot (by omega)
    -- o has no multiple Qbl
    have hg1:g'=[1]:=by
      refine s2.pg.one ?_
      obtain ⟨E,hE⟩:=hpt.oq
      have hE:∀ t,Qh qp t=Qh o t*ev E t:=fun t=>by have:=hE t; rwa [Qg,Qg] at this
      obtain ⟨z,hz⟩:=s2.d
      have hd1:∀ t,Qh o t=Qh g' t*(Z4 o*Qh q t):=fun t=>by rw [o7,s2.e]; grind
      have hdo:∀ t,dv (cz o) t=Qh g' t*(Z4 o*ev z t):=fun t=>by
        have:=Qv1 (p:=cz o) (q:=Wz (Z4 o) (cz (Qo o))) (fun t=>by rw [Qg,Q7,Qg,o7]) t
        rw [this,Lp,hz]; grind
      obtain ⟨k,hk,hkk⟩:=sq.num (d:=cz g') ⟨Zl (Wz (Z4 o) (cz q)) E,fun t=>by rw [Qg,Qg,hE,hd1,Ql,Q7,Qg]; grind⟩ ⟨Jt (Zl (Wz (Z4 o) z) E) (Zl (Wz (Z4 o) (cz q)) (V0 E)),fun t=>by
        have:=Ry (f:=cz qp) (w:=cz o) (u:=E) (fun t=>by rw [Qg,Qg,hE]) t
        rw [Jd,this,hdo,Qg,Qg,hd1,Zh,Ql,Ql,Q7,Q7,Jd,Qg]; grind⟩
      rcases Nat.lt_or_ge g'.length 2 with e | e
      · exact e
      · exfalso
        have h1:=(Ab s2.pg.t (by omega)).1
        have h2:=Wv (p:=cz g') (q:=[k]) (fun t=>by rw [hkk]; simp only [ev]; grind) (g'.length-1)
        rw [h2,List.getD_eq_getElem?_getD,List.getElem?_eq_none (by simp; omega)] at h1
        exact h1 rfl
    have hpq:∀ t,ev (cz p) t=((Z4 p:Rat)*(Z4 o:Rat))*(ev (cz q) t*(ev S t*ev S t)):=fun t=>by
      rw [Qg,Qg,p7,hS,o7,s2.e,hg1,Vv]; grind
    have hk0:(Z4 p:Rat)*(Z4 o:Rat)≠0:=fun h=>(Rat.mul_eq_zero.1 h).elim (S5 p6) (S5 o6)
    have hpz:¬∀ t,ev (cz p) t=0:=fun h'=>E6 h.t (by omega) fun t=>by rw [←Qg]; exact h' t
    obtain ⟨k,hk⟩:∃ k,k=Qp ((Z4 p:Rat)*(Z4 o:Rat)):=⟨_,rfl⟩
    have hkn:k≠0:=fun h=>hk0 (Zb.1 (by rw [←hk]; exact h))
    have ho:o.length≠0:=by omega
    rw [o1]
    show ∃ l,(if o.length=0 then some [] else Qbl o)=some l∧l.length≤67∧_
    rw [if_neg ho]
    have hb1:=La (Ut s2.pq.t s2.pq.n)
    have hll:=hRI.len
    have hlv:=Q8y (c.map cz) (-Zx q)
    have hcl:=(Orr.chain_ok (p:=o) ⟨hpt.ot,by omega,Qd bo (by omega)⟩ r2).1
    rw [List.length_map] at hlv
    refine ⟨l,r3,by omega,hVa,fun a ha=>?_⟩
    obtain ⟨r,n1,n2⟩:=Qse hSt ha hRI hVa (fun z hz=>(hout _ _ hz (.inl Rat.le_refl)).symm) fun z _ hz=>by
      rcases Classical.em (z=-Zx q) with e | e
      · rw [e]
      · exact hout z _ (by grind) (.inr Rat.le_refl)
    refine ⟨r,n1,?_,fun t ht=>by subst ht; exact n2.1⟩
    cases r with
    |
     none =>
     obtain ⟨s,hs,hz⟩:=n2
     refine .inr ⟨k*s,Int.mul_ne_zero hkn hs,fun c hc hac=>?_⟩
     obtain ⟨y,hy⟩:=hc.hi
     have h1:RS (cz q) c s:=⟨y,hy,fun z z1 _=>hz z (hac z z1)⟩
     rw [hk]; exact Qy0 hc hk0 hpq hpz h1
    |
     some t =>
     obtain ⟨hm,hlt,s,hs,hz,hrs⟩:=n2
     refine ⟨fun e=>h0 (by rw [e]; rfl),hVa t hm,hlt,k*s,Int.mul_ne_zero hkn hs,fun c hc hac ⟨m,m1,m2⟩=>?_,?_⟩
     · have h1:RS (cz q) c s:=⟨m,m1,fun z z1 z2=>hz z (hac z z1) (by
         rcases Classical.em (z=m) with e | e
         · rw [e]; exact m2
         · exact (hVa t hm).cut.mono' (q:=z) (r:=m) (by grind) (by omega))⟩
       rw [hk]; exact Qy0 hc hk0 hpq hpz h1
     · have:=Qy0 (hVa t hm).cut hk0 hpq hpz hrs
       rw [←hk] at this
       rw [show -(k*s)=k*-s by rw [Int.mul_neg]]; exact this
theorem Qxo {p:List Int} (h:Cp p) {a:Tm} (ha:Va a):∃ r,Ah p a=some r∧Um p a r:=by
  obtain ⟨l,l1,_,_,l3⟩:=P7 h
  obtain ⟨r,r1,r2,_⟩:=l3 a ha
  refine ⟨r,?_,r2⟩
  unfold Ah
  rw [l1]; exact r1
theorem Eb:∀ (l:List Tm) (b:Tm),(∀ t∈b::l,Va t)→∃ m,Tf b l=some m∧m∈b::l∧∀ t∈b::l,¬Uh t m
  |
   [],b,h=>⟨b,rfl,List.mem_cons_self ..,fun t ht h'=>by
   rw [List.mem_singleton.1 ht] at h'
   have hb:=(h b (List.mem_cons_self ..)).cut
   exact Pf hb hb h' h'⟩
  |
   a::l,b,h=>by
   have ha:=h a (by simp)
   have hb:=h b (by simp)
   obtain ⟨c,c1,c2⟩:=B6 ha hb
   obtain ⟨m,m1,m2,m3⟩:=Eb l (if c<0 then a else b) fun t ht=>by
     rcases List.mem_cons.1 ht with rfl | ht
     · split <;> assumption
     · exact h t (by simp [ht])
   refine ⟨m,by simp only [Tf]; rw [c1]; exact m1,?_,fun t ht=>?_⟩
   · rcases List.mem_cons.1 m2 with e | e
     · rw [e]; split <;> simp
     · simp [e]
   · have hm:Va m:=by
       rcases List.mem_cons.1 m2 with e | e
       · rw [e]; split <;> assumption
       · exact h m (by simp [e])
     have hfst:=m3 _ (List.mem_cons_self ..)
     -- what is not less stays so
     have tr:∀ x y:Tm,Va x→Va y→¬Uh x y→¬Uh y m→¬Uh x m:=fun x y hx hy h1 h2 h3=>by
       rcases tri hy.cut hm.cut with h4 | h4 | h4
       · exact h2 h4
       · obtain ⟨q,q1,q2⟩:=h3
         exact h1 ⟨q,q1,by rw [h4]; exact q2⟩
       · obtain ⟨q,q1,q2⟩:=h3
         obtain ⟨r,r1,r2⟩:=h4
         have:=hm.cut.lt q2 r1
         exact h1 ⟨q,q1,hy.cut.mono' this (by omega)⟩
     rcases List.mem_cons.1 ht with rfl | ht
     · by_cases hc:c<0
       · rw [if_pos hc] at hfst
         refine tr _ a hb ha ?_ hfst
         rcases c2 with ⟨_,h'⟩ | ⟨e,_⟩ | ⟨e,_⟩
         · exact fun h''=>Pf ha.cut hb.cut h' h''
         · omega
         · omega
       · rw [if_neg hc] at hfst; exact hfst
     · rcases List.mem_cons.1 ht with rfl | ht
       · by_cases hc:c<0
         · rw [if_pos hc] at hfst; exact hfst
         · rw [if_neg hc] at hfst
           refine tr _ b ha hb ?_ hfst
           rcases c2 with ⟨e,_⟩ | ⟨_,h'⟩ | ⟨_,h'⟩
           · omega
           · rintro ⟨q,q1,q2⟩
             have:=h' q; omega
           · exact fun h''=>Pf ha.cut hb.cut h'' h'
       · exact m3 t (by simp [ht])
end Orq

namespace Orr
open Go Go.Proofs Orq
set_option maxRecDepth 10000
theorem Dp.pb {p:List Int} (h:Dp p):Pb p:=⟨h.t,by have:=h.l; omega,Qd h.b (by have:=h.l; omega)⟩
theorem Q9m {p:List Int} {a:Tm} (hp:Dp p) (ha:Va a):Qc Tryz.prog 181 [pr p,.agg (ta a)] [.one (.int .i64 (Ju a p))]:=Q0w (Dp.pb hp) ha.tb (Qza hp ha).1
theorem Q9f {p:List Int} {a:Tm} (hp:Dp p) (ha:Va a):Qc Tryz.prog 180 [pr p,.one (.sh (ta a))] [.one (.int .i64 (Ju a p))]:=w tt Tryz.func180 rfl [.c [] (Q9m hp ha)] rfl rfl trivial
theorem Q1l {p:List Int} {fid:Nat} {l1:List LV} {sgn:List Int→Int} (hp:Dp p) (h:∀ p,Dp p→Qc Tryz.prog fid [pr p,.one (.sh l1)] [.one (.int .i64 (sgn p))]):Qc Tryz.prog 179 [pr p,.one (.fn fid [] [.sh l1])] [.one (.int .i64 (J7 sgn p.length p))]:=by
  have hpb:=Dp.pb hp
  refine Z1 Tryz.func179 rfl ?_
  refine go tt [.c [] (Xy hpb.t hpb.ln hpb.bd)] rfl trivial ?_
  refine lp (S:=List Int) 0 (fun L1 s=>(0,.v (pr s))::L1) (fun _=>[]) (fun s=>s.length) (fun s=>Dp s∧J7 sgn s.length s=J7 sgn p.length p) p ⟨hp,rfl⟩ rfl (fun _ _=>rfl) rfl fun r ⟨j1,j4⟩=>?_
  rw [←j4]
  have jb:=Dp.pb j1
  by_cases h0:r.length=0
  · have e:=Aa sgn h0
    rw [e]
    exact en tt [.f (by simp; exact List.eq_nil_of_length_eq_zero h0)] rfl rfl trivial
  · have hs:=h r j1
    by_cases hz:sgn r=0
    · have hlp:=Yu r
      refine go tt [.t (by simp; omega),.c [] hs,.f (by simpa using hz),.c [] (Hh jb.ln jb.bd)] rfl trivial ?_
      exact rd (Zj r) (by omega) ⟨j1.der,by rw [←E9 sgn (by omega) hz]⟩ rfl
    · rw [E8 sgn (by omega) hz]
      exact en tt [.t (by simp; omega),.c [] hs,.t (by simpa using hz)] rfl rfl trivial
abbrev gmA (a:Tm) (p:List Int):Int:=Hr (Ju a) p
theorem Q45 {p:List Int} {a:Tm} (hp:Dp p) (ha:Va a):Qc Tryz.prog 129 [pr p,.agg (ta a)] [.one (.int .i64 (gmA a p))] :=
  w tt Tryz.func129 rfl [.c [] (Q1l (sgn:=Ju a) hp fun _ h=>Q9f h ha)] rfl rfl trivial
theorem Qux {t:Tm} {a b:Pt} {ps:List (List Int)} (hps:∀ p∈ps,Dp p) (ht:Va t) (hl:ps.length<1000):Qc Tryz.prog 245 [.agg (ta t),.agg (Xe a),.agg (Xe b),.one (.row (J3 ps))] [.one (.bool (G5 (Ju t) a b ps))]:=by
  refine Z1 Tryz.func245 rfl ?_
  have hpl:(J3 ps).length=ps.length:=by simp [J3]
  refine go tt [] rfl trivial ?_
  refine lp (S:=Nat) 3 (fun L1 i=>(13,.v (.one (.int .i64 (i:Int))))::L1) (fun _=>[.blk 67 (ta t),.blk 35 (Xe a),.blk 35 (Xe b)]) (fun i=>ps.length-i) (fun i=>i≤ps.length∧G5 (Ju t) a b (ps.drop i)=G5 (Ju t) a b ps) 0 ⟨Nat.zero_le _,rfl⟩ rfl (fun _ _=>rfl) rfl fun i ⟨hi,he⟩=>?_
  rw [←he]
  by_cases hlt:i<ps.length
  · obtain ⟨p,hp⟩:∃ p,ps[i]? = some p:=⟨_,List.getElem?_eq_getElem hlt⟩
    have hd:ps.drop i=p::ps.drop (i+1):=by
      rw [List.drop_eq_getElem_cons hlt]
      rw [List.getElem?_eq_getElem hlt] at hp; injection hp with hp; rw [hp]
    have hpb:=hps p (List.mem_of_getElem? hp)
    rw [hd] at he ⊢
    by_cases h0:0<p.length
    · exact en tt [.t (by simp [hpl]; omega),.x (Xs hp),.t (by simp; omega),.c [] (Q45 hpb ht)] rfl (by simp only [G5]; rw [if_pos h0]) trivial
    · refine go tt [.t (by simp [hpl]; omega),.x (Xs hp),.f (by simp; exact List.eq_nil_of_length_eq_zero (by omega))] rfl (by simp [Qa]; omega) ?_
      exact rd (i+1) (by omega) ⟨hlt,by simp only [G5]; rw [if_neg h0]⟩ rfl
  · have hd:ps.drop i=[]:=List.drop_eq_nil_of_le (by omega)
    rw [hd]
    exact en tt [.f (by simp [hpl]; omega)] rfl rfl trivial
structure Sc (k:Crv):Prop where
  n:Nml k
  c:Cs 90 3 k
theorem Sc.cb {k:Crv} (h:Sc k):Cb k:=h.c.mono (by omega) (by omega)
theorem Sp {a b:Crv} (ha:Sc a) (hb:Sc b):Cp (X8 a b):=by
  refine ⟨Za _ _,?_,Qd (Mc (Zn hb.c.x ha.c.d) (Zn ha.c.x hb.c.d)) (by omega)⟩
  have:=Hu (Qx b.x a.d) (Qx a.x b.d)
  have:=Q8 b.x a.d; have:=Q8 a.x b.d; have:=ha.c.lx; have:=hb.c.lx
  unfold X8; omega
theorem So {a b:Crv} (ha:Sc a) (hb:Sc b):Cp (Xi a b):=by
  refine ⟨Za _ _,?_,Qd (Mc (Zn hb.c.y ha.c.d) (Zn ha.c.y hb.c.d)) (by omega)⟩
  have:=Hu (Qx b.y a.d) (Qx a.y b.d)
  have:=Q8 b.y a.d; have:=Q8 a.y b.d; have:=ha.c.ly; have:=hb.c.ly
  unfold Xi; omega
theorem Qng {a b:Pt} {t:Tm} (ha:Sc a.c) (hb:Sc b.c) (ht:Va t):Qc Tryz.prog 201 [.agg (Xe a),.agg (Xe b),.agg (ta t)] [.one (.bool (Vl (Ju t) a b))] :=
  w tt Tryz.func201 rfl [.c [] (Qnf hb.n ha.n hb.cb ha.cb),.c [] (Qnm hb.n ha.n hb.cb ha.cb),.c [] (Qux (t:=t) (a:=a) (b:=b) (ps:=[Xi b.c a.c,X8 b.c a.c]) (fun p hp=>by
    simp at hp
    rcases hp with rfl | rfl
    · exact (So hb ha).dp
    · exact (Sp hb ha).dp) ht (show 2<1000 by decide))] rfl rfl trivial
theorem Q4k {q:Rat} (hq:Qs 900 q):Va (tq q):=by
  have hd:=q.den_nz
  refine ⟨.inl ⟨rfl,?_⟩,Qql q,by show 2≤9; omega,by show 2≤2; omega,Q9d (hq.mono (by omega)),q.den,q.num.natAbs+1,0,?_,?_,by omega,?_⟩
  · have e:(q.num:Rat)=q*(q.den:Rat):=by
      have:(q.num:Rat) / (((q.den:Int)):Rat)=q:=by rw [Xh,Rat.num_divInt_den]
      have h2:(q.num:Rat) / (q.den:Rat)*(q.den:Rat)=q.num:=Rat.div_mul_cancel (by have:=Orq.nat_pos q.den_pos; grind)
      rw [show (q.num:Rat) / (q.den:Rat)=q from this] at h2; exact h2.symm
    show Qh [-q.num,(q.den:Int)] q=0
    simp only [Qh]
    rw [Rat.intCast_neg,e,show (((q.den:Int)):Rat)=(q.den:Rat) from rfl]; grind
  all_goals first | (have h1:Qn (q.den:Int)≤900:=hq.2; have h2:Qn ((q.num.natAbs+1:Nat):Int)≤901:=Qr6 hq.1; omega) | skip
  all_goals
    refine ⟨⟨q.num,?_⟩,?_,q.den_pos⟩
    · rw [Nat.pow_zero,Nat.mul_one]
      have:(q.num:Rat) / (((q.den:Int)):Rat)=q:=by rw [Xh,Rat.num_divInt_den]
      have h2:(q.num:Rat) / (q.den:Rat)*(q.den:Rat)=q.num:=Rat.div_mul_cancel (by have:=Orq.nat_pos q.den_pos; grind)
      rw [show (q.num:Rat) / (q.den:Rat)=q from this] at h2; exact h2
    · have h1:Qm q≤Qm (q.num:Rat):=by
        have e:(q.num:Rat)=q*(q.den:Rat):=by
          have:(q.num:Rat) / (((q.den:Int)):Rat)=q:=by rw [Xh,Rat.num_divInt_den]
          have h2:(q.num:Rat) / (q.den:Rat)*(q.den:Rat)=q.num:=Rat.div_mul_cancel (by have:=Orq.nat_pos q.den_pos; grind)
          rw [show (q.num:Rat) / (q.den:Rat)=q from this] at h2; exact h2.symm
        rw [e,Gn]
        have hd1:(1:Rat)≤(q.den:Rat):=by
          have:((1:Nat):Rat)≤(q.den:Rat):=Rat.natCast_le_natCast.2 q.den_pos
          exact this
        have e2:Qm (q.den:Rat)=(q.den:Rat):=by unfold Qm; rw [if_neg (by grind)]
        rw [e2]
        have:=Km (a:=Qm q) (c:=1) (Xb q) Rat.le_refl (by decide) hd1
        grind
      rw [Jw] at h1
      refine Rat.le_trans h1 (Rat.natCast_le_natCast.2 (by omega))
end Orr

namespace Orr
open Go Go.Proofs Orq
set_option maxRecDepth 10000
theorem Qcp {p q:List Int} (hp:Cp p) (hq:Cp q):Cp (Rz p q):=by unfold Rz; split <;> assumption
end Orr

namespace Orr
variable {α:Type}
def Yx (lt:α→α→Bool) (out:List α) (x:α):Nat→Nat
  | 0=>0
  |
   k+1=>match out[k]? with
   | some y=>if lt x y=true then Yx lt out x k else k+1
   | none=>k+1
theorem Qfy (lt:α→α→Bool) (out:List α) (x:α):∀ k,Yx lt out x k≤k
  | 0=>Nat.le_refl _
  |
   k+1=>by
   simp only [Yx]
   split
   · split
     · exact Nat.le_succ_of_le (Qfy lt out x k)
     · exact Nat.le_refl _
   · exact Nat.le_refl _
theorem C6 {lt:α→α→Bool} {out:List α} {x y:α} {k:Nat} (hx:out[k]? = some y) (h:lt x y=true):Yx lt out x (k+1)=Yx lt out x k:=by
  simp only [Yx,hx,h,if_true]
theorem Pn {lt:α→α→Bool} {out:List α} {x y:α} {k:Nat} (hx:out[k]? = some y) (h:lt x y=false):Yx lt out x (k+1)=k+1:=by
  simp [Yx,hx,h]
def Wg (lt:α→α→Bool) (out:List α) (x:α):List α:=out.take (Yx lt out x out.length)++x::out.drop (Yx lt out x out.length)
theorem Qw0 (lt:α→α→Bool) (out:List α) (x:α):(Wg lt out x).length=out.length+1:=by
  have:=Qfy lt out x out.length
  simp [Wg]; omega
theorem Qat {lt:α→α→Bool} {out:List α} {x y:α}:y∈Wg lt out x↔y=x∨y∈out:=by
  have h:y∈out↔y∈out.take (Yx lt out x out.length)∨y∈out.drop (Yx lt out x out.length):=by
    rw [←List.mem_append,List.take_append_drop]
  simp only [Wg,List.mem_append,List.mem_cons,h]
  constructor
  · rintro (h | h | h)
    · exact .inr (.inl h)
    · exact .inl h
    · exact .inr (.inr h)
  · rintro (h | h | h)
    · exact .inr (.inl h)
    · exact .inl h
    · exact .inr (.inr h)
def Z9 (lt:α→α→Bool) (l:List α):List α:=l.foldl (Wg lt) []
theorem Qmr (lt:α→α→Bool) (l:List α) (x:α):Z9 lt (l++[x])=Wg lt (Z9 lt l) x:=by simp [Z9,List.foldl_append]
theorem Bf {lt:α→α→Bool} {l:List α} {i:Nat} {x:α} (h:l[i]? = some x):Z9 lt (l.take (i+1))=Wg lt (Z9 lt (l.take i)) x:=by
  rw [List.take_succ,h]; exact Qmr _ _ _
theorem Qaj (lt:α→α→Bool):∀ (l acc:List α),(l.foldl (Wg lt) acc).length=acc.length+l.length
  | [],acc=>by simp
  | c::l,acc=>by simp only [List.foldl_cons]; rw [Qaj lt l (Wg lt acc c),Qw0]; simp; omega
theorem Ve (lt:α→α→Bool) (l:List α):(Z9 lt l).length=l.length:=by unfold Z9; rw [Qaj]; simp
theorem Qak (lt:α→α→Bool):∀ (l acc:List α) {y:α},y∈l.foldl (Wg lt) acc↔y∈l∨y∈acc
  | [],acc,y=>by simp
  |
   c::l,acc,y=>by
   simp only [List.foldl_cons]
   rw [Qak lt l,Qat,List.mem_cons]
   constructor
   · rintro (h | h | h)
     · exact .inl (.inr h)
     · exact .inl (.inl h)
     · exact .inr h
   · rintro ((h | h) | h)
     · exact .inr (.inl h)
     · exact .inl h
     · exact .inr (.inr h)
theorem Mw {lt:α→α→Bool} {l:List α} {y:α}:y∈Z9 lt l↔y∈l:=by
  unfold Z9; rw [Qak]; simp
end Orr

namespace Orr
open Go Orq
structure Wt where
  c:Ct
  known:Bool
  fails:Option Tm
def f0:Option Tm→LV | none=>.row [] | some t=>pl t.p
def f1:Option Tm→LV | none=>.bool false | some t=>sg t.lo.num
def f2:Option Tm→LV | none=>.row [] | some t=>mg t.lo.num
def f3:Option Tm→LV | none=>.bool false | some t=>sg (t.lo.den:Int)
def f4:Option Tm→LV | none=>.row [] | some t=>mg (t.lo.den:Int)
def f5:Option Tm→LV | none=>.bool false | some t=>sg t.hi.num
def f6:Option Tm→LV | none=>.row [] | some t=>mg t.hi.num
def f7:Option Tm→LV | none=>.bool false | some t=>sg (t.hi.den:Int)
def f8:Option Tm→LV | none=>.row [] | some t=>mg (t.hi.den:Int)
abbrev fl (o:Option Tm):List LV:=[f0 o,f1 o,f2 o,f3 o,f4 o,f5 o,f6 o,f7 o,f8 o]
abbrev wl (w:Wt):List LV:=[.int .i64 w.c.kind,.int .i64 w.c.i0,.int .i64 w.c.i1,.int .i64 w.c.i2,.int .i64 w.c.i3,pl w.c.p,.int .i64 w.c.want,.bool w.known,.bool w.fails.isSome,f0 w.fails,f1 w.fails,f2 w.fails,f3 w.fails,f4 w.fails,f5 w.fails,f6 w.fails,f7 w.fails,f8 w.fails]
def Tx (l:List Wt):List (List LV):=l.map fun w=>wl w
theorem Y3 {l:List Wt} {i:Nat} {w:Wt} (h:l[i]? = some w):(Tx l)[i]? = some (wl w):=Zm h
theorem Ug (l:List Wt):(Tx l).length=l.length:=by simp [Tx]
structure Cr where
  now:Tm
  l:List Wt
  ev:Int
structure WtOk (w:Wt):Prop where
  p:Cp w.c.p
  f:∀ t,w.fails=some t→Va t
structure CrOk (c:Cr):Prop where
  n:Va c.now
  l:∀ w∈c.l,WtOk w
  k:c.l.length≤1000
def Qy7 (a b:Ct):Bool:=decide ([a.kind,a.i0,a.i1,a.i2,a.i3]=[b.kind,b.i0,b.i1,b.i2,b.i3])
def fresh (x:Ct):Wt:=⟨x,false,none⟩
def Fh:List Wt→Ct→Tm→Option Wt
  | [],x,_=>some (fresh x)
  |
   w::l,x,at_=>if Qy7 w.c x=true∧w.known=true∧w.c.p=x.p then
     match w.fails with
     | none=>some ⟨x,true,none⟩
     | some t=>(Li t at_).bind fun c=>if 0<c then some ⟨x,true,some t⟩ else Fh l x at_
   else Fh l x at_
def Gl (old:List Wt) (at_:Tm):List Ct→Option (List Wt)
  | []=>some []
  | x::l=>(Fh old x at_).bind fun w=>(Gl old at_ l).bind fun r=>some (w::r)
end Orr

namespace Orr
open Go Go.Proofs Orq
set_option maxRecDepth 10000
end Orr

namespace Orr
open Go Go.Proofs Orq
set_option maxRecDepth 10000
theorem Cn {old:List Wt} {at_:Tm}:∀ {l:List Ct} {ws:List Wt},Gl old at_ l=some ws→ws.length=l.length∧∀ (i:Nat) (x:Ct),l[i]? = some x→∃ w,Fh old x at_=some w∧ws[i]? = some w
  | [],ws,h=>by injection h with h; subst h; exact ⟨rfl,fun i x hx=>by simp at hx⟩
  |
   y::l,ws,h=>by
   simp only [Gl] at h
   obtain ⟨w,hw,h⟩:=Option.bind_eq_some_iff.1 h
   obtain ⟨r,hr,h⟩:=Option.bind_eq_some_iff.1 h
   injection h with h; subst h
   obtain ⟨a,b⟩:=Cn hr
   refine ⟨by simp [a],fun i x hx=>?_⟩
   cases i with
   | zero=>injection hx with hx; subst hx; exact ⟨w,hw,rfl⟩
   | succ i=>exact b i x (by simpa using hx)
theorem Ez {l:List Wt} {i:Nat} {w:Wt} (h:l[i]? = some w):Tx (l.take (i+1))=Tx (l.take i)++[wl w]:=by
  rw [List.take_succ,h]; simp [Tx]
theorem eB {a b:Bool} (h:a=b):TV.one (LV.bool a)=.one (.bool b):=h ▸ rfl
end Orr

namespace Orr
open Go Go.Proofs Orq
set_option maxRecDepth 10000
theorem Ik:∀ {k:Nat} {g:List Int} {l:List (List Int)},Pb g→Ea k g=some l→l.length≤k∧∀ p∈l,Pb p
  | 0,_,_,_,h=>by cases h
  |
   k+1,g,l,hg,h=>by
   simp only [Ea] at h
   split at h
   · injection h with h; subst h; exact ⟨by simp,fun p hp=>by cases hp⟩
   · obtain ⟨d,hd,h⟩:=Option.bind_eq_some_iff.1 h
     obtain ⟨rfl,hdp⟩:=Qba hd
     obtain ⟨x,hx,h⟩:=Option.bind_eq_some_iff.1 h
     obtain ⟨q,hq,h⟩:=Option.bind_eq_some_iff.1 h
     obtain ⟨r,hr,h⟩:=Option.bind_eq_some_iff.1 h
     injection h with h; subst h
     obtain ⟨i1,i2⟩:=Ik (El hg hdp hx) hr
     refine ⟨by simp; exact i1,fun p hp=>?_⟩
     rcases List.mem_cons.1 hp with rfl | hp
     · exact Qlu hq
     · exact i2 p hp
theorem Qut {a:List Int} {l:List (List Int)} (ha:Pb a) (h:Ea 66 (Qo a)=some l):Qc Tryz.prog 334 [pr a] [.one (.row (J3 l))]:=by
  have hp:=Xz ha
  refine Z1 Tryz.func334 rfl ?_
  refine go tt [.o 3 26 1,.c [] (Gd ha)] rfl trivial ?_
  refine lp (S:=Nat×List (List Int)×List Int) 1 (fun L1 s=>(4,.v (pr s.2.2))::(3,.v (.one (.orow 0 1 none)))::L1) (fun s=>[.row false 26 1 (J3 s.2.1)]) (fun s=>s.1) (fun s=>Pb s.2.2∧s.2.1.length+s.1≤66∧∃ m,Ea s.1 s.2.2=some m∧s.2.1++m=l) (66,[],Qo a) ⟨hp,Nat.le_refl _,l,h,rfl⟩ rfl (fun _ _=>rfl) rfl fun ⟨k,out,g⟩ ⟨j1,j2,m,j3,j4⟩=>?_
  dsimp only at j1 j2 j3 j4 ⊢
  cases k with
  | zero=>cases j3
  |
   succ k =>
   simp only [Ea] at j3
   split at j3
   · rename_i h0
     injection j3 with j3; subst j3
     rw [List.append_nil] at j4
     subst j4
     exact en tt [.c [] (V3 _),.f (by simp; omega)] rfl rfl trivial
   · rename_i h0
     obtain ⟨d,hd,j3⟩:=Option.bind_eq_some_iff.1 j3
     obtain ⟨rfl,hdp⟩:=Qba hd
     obtain ⟨x,hx,j3⟩:=Option.bind_eq_some_iff.1 j3
     obtain ⟨q,hq,j3⟩:=Option.bind_eq_some_iff.1 j3
     obtain ⟨r,hr,j3⟩:=Option.bind_eq_some_iff.1 j3
     injection j3 with j3; subst j3
     have hxp:=El j1 hdp hx
     refine go tt [.c [] (V3 _),.t (by simp; omega),.c [] (Hh j1.ln j1.bd),.c [] (Qn5 j1 hdp hx),.c [] (Qu5 j1 hxp hq),.s (sz:=1) (l:=[[pl q]]) (fun c hc=>by rw [List.mem_singleton.1 hc]; rfl)] rfl (by simp [Qa,U5]; omega) ?_
     exact rd (k,out++[q],x) (by dsimp only; omega) ⟨hxp,by simp; omega,r,hr,by rw [←j4]; simp⟩ (by rw [Qbd]; rfl)
theorem Qad:∀ {l r:List (List Int)},Qb4 l=some r→r.length=l.length∧∀ i w,l[i]? = some w→match l[i+1]? with
    | some v=>∃ f,Po w v=some f∧r[i]? = some f
    | none=>r[i]? = some w
  | [],r,h=>by injection h with h; subst h; exact ⟨rfl,fun i w hw=>by simp at hw⟩
  |
   [w],r,h=>by
   injection h with h; subst h
   refine ⟨rfl,fun i x hx=>?_⟩
   cases i with
   | zero=>simpa using hx
   | succ i=>simp at hx
  |
   w::v::l,r,h=>by
   simp only [Qb4] at h
   obtain ⟨f,hf,h⟩:=Option.bind_eq_some_iff.1 h
   obtain ⟨s,hs,h⟩:=Option.bind_eq_some_iff.1 h
   injection h with h; subst h
   obtain ⟨i1,i2⟩:=Qad hs
   refine ⟨by simp [i1],fun i x hx=>?_⟩
   cases i with
   |
    zero =>
    injection hx with hx; subst hx
    exact ⟨f,hf,rfl⟩
   |
    succ i =>
    have:=i2 i x (by simpa using hx)
    simpa using this
theorem Qe4:∀ {l r:List (List Int)},(∀ p∈l,Pb p)→Qb4 l=some r→∀ p∈r,Pb p
  | [],r,_,h=>by injection h with h; subst h; exact fun p hp=>by cases hp
  | [w],r,hl,h=>by injection h with h; subst h; exact hl
  |
   w::v::l,r,hl,h=>by
   simp only [Qb4] at h
   obtain ⟨f,hf,h⟩:=Option.bind_eq_some_iff.1 h
   obtain ⟨s,hs,h⟩:=Option.bind_eq_some_iff.1 h
   injection h with h; subst h
   intro p hp
   rcases List.mem_cons.1 hp with rfl | hp
   · exact Qlu hf
   · exact Qe4 (fun p hp=>hl p (List.mem_cons_of_mem _ hp)) hs p hp
theorem Qq1 {a:List Int} {l r:List (List Int)} (ha:Pb a) (h:Ea 66 (Qo a)=some l) (hr:Qb4 l=some r):Qc Tryz.prog 322 [pr a] [.one (.row (J3 r))]:=by
  obtain ⟨i1,i2⟩:=Ik (Xz ha) h
  obtain ⟨j1,j2⟩:=Qad hr
  have hw:=U5 l
  refine Z1 Tryz.func322 rfl ?_
  refine go tt [.c [] (Qut ha h),.i (J3 l).length,.i (J3 l).length] rfl (by simp [Qa,hw]; omega) ?_
  rw [hw,Fe fun i=>[pl (r.getD i [])]]
  refine lp (S:=Nat) 1 (fun L1 k=>(14,.v (.one (.int .i64 (k:Int))))::L1) (fun k=>[.row false 26 1 (fil (fun i=>[pl (r.getD i [])]) [.nils] l.length k)]) (fun k=>l.length-k) (fun k=>k≤l.length) 0 (Nat.zero_le _) rfl (fun _ _=>rfl) rfl fun k hk=>?_
  by_cases hlt:k<l.length
  · obtain ⟨w,hx⟩:∃ w,l[k]? = some w:=⟨_,List.getElem?_eq_getElem hlt⟩
    have e:=Tc (fun i=>[pl (r.getD i [])]) [.nils] hlt
    have hg:=j2 k w hx
    by_cases h2:k+1<l.length
    · obtain ⟨v,hv⟩:∃ v,l[k+1]? = some v:=⟨_,List.getElem?_eq_getElem h2⟩
      rw [hv] at hg
      obtain ⟨f,f1,f2⟩:=hg
      have e2:r.getD k []=f:=by rw [List.getD_eq_getElem?_getD,f2]; rfl
      rw [e2] at e
      refine go tt [.t (by simp [hw]; omega),.x (Xs hx),.i k,.t (by simp [hw]; omega),.x (i:=k+1) (Xs hv),.c [] (Qu5 (i2 w (List.mem_of_getElem? hx)) (i2 v (List.mem_of_getElem? hv)) f1),.i k] rfl (by simp [Qa,Gk,hw]; omega) ?_
      rw [List.set_set,e]
      exact rd (k+1) (by omega) hlt rfl
    · have hv:l[k+1]? = none:=List.getElem?_eq_none (by omega)
      rw [hv] at hg
      have e2:r.getD k []=w:=by rw [List.getD_eq_getElem?_getD,hg]; rfl
      rw [e2] at e
      refine go tt [.t (by simp [hw]; omega),.x (Xs hx),.i k,.f (by simp [hw]; omega)] rfl (by simp [Qa,Gk,hw]; omega) ?_
      rw [e]
      exact rd (k+1) (by omega) hlt rfl
  · obtain rfl:k=l.length:=by omega
    have e:fil (fun i=>[pl (r.getD i [])]) [.nils] l.length l.length=J3 r:=by
      rw [Ta,←j1]
      refine List.ext_getElem? fun i=>?_
      simp only [J3,List.getElem?_map]
      by_cases hi:i<r.length
      · rw [List.getElem?_range hi]; simp [List.getD_eq_getElem?_getD,List.getElem?_eq_getElem hi]
      · rw [List.getElem?_eq_none (by simpa using hi),List.getElem?_eq_none (by simpa using hi)]; rfl
    rw [e]
    exact en tt [.f (by simp [hw])] rfl rfl trivial
theorem Ql1 {p:List Int} (tp:Qk p):Qo (Qo p)=Qo p:=by
  by_cases h:p.length=0
  · have e:Qo p=[]:=by unfold Qo; rw [if_pos h]
    rw [e]; rfl
  · obtain ⟨h1,h2,h3,h4,_⟩:=Kr tp h
    have hc:J5 (Qo p)=1:=by
      have h5:J5 (Qo p)∣1:=h3 _ fun k=>by
        by_cases hk:k<(Qo p).length
        · rw [List.getD_eq_getElem?_getD,List.getElem?_eq_getElem hk]; exact U3 _ (List.getElem_mem hk)
        · rw [List.getD_eq_getElem?_getD,List.getElem?_eq_none (by omega)]; exact Int.dvd_zero _
      have h6:0≤J5 (Qo p):=by unfold J5; omega
      exact Int.eq_one_of_dvd_one h6 h5
    have hf:∀ q:List Int,0<Qr q→Z4 q=J5 q:=fun q hq=>by unfold Z4; rw [if_neg (by omega)]
    have hf:=(hf _ h4).trans hc
    have e0:∀ q:List Int,q.length≠0→Qo q=K9 q (Z4 q):=fun q hq=>by unfold Qo; rw [if_neg hq]
    have e:=e0 (Qo p) (by omega)
    rw [hf] at e
    rw [e]
    unfold K9
    have e2:(Qo p).map (· / (1:Int))=Qo p:=by
      conv=>rhs; rw [←List.map_id (Qo p)]
      exact List.map_congr_left fun z _=>by simp
    rw [e2]
    exact h1
theorem Qqi (i:Nat):(i:Int).tmod 2=((i % 2:Nat):Int):=rfl
theorem Q6j {a:List Int} (ha:Pb a) (h:(Qo a).length=0):Qc Tryz.prog 304 [pr a] [pr []] :=
  w tt Tryz.func304 rfl [.c [] (Gd ha),.t (by simp [List.eq_nil_of_length_eq_zero h])] rfl rfl trivial
theorem Mm:∀ {l:List (List Int)} {i:Nat} {p o:List Int},Pb p→(∀ f∈l,Pb f)→C0 i p l=some o→Pb o
  | [],i,p,o,hp,_,h=>by simp only [C0] at h; injection h with h; subst h; exact hp
  |
   f::l,i,p,o,hp,hl,h=>by
   simp only [C0] at h
   split at h
   · obtain ⟨q,hq,h⟩:=Option.bind_eq_some_iff.1 h
     obtain ⟨rfl,hq'⟩:=Rt (Z2 _ _) hq
     exact Mm hq' (fun f hf=>hl f (List.mem_cons_of_mem _ hf)) h
   · exact Mm hp (fun f hf=>hl f (List.mem_cons_of_mem _ hf)) h
theorem Qxz:Pb [1]:=⟨rfl,by decide,fun z hz=>by rw [List.mem_singleton.1 hz]; decide⟩
theorem Q9j {a o:List Int} (ha:Pb a) (h:Qly a=some o):Qc Tryz.prog 304 [pr a] [pr o]:=by
  unfold Qly at h
  split at h
  · rename_i h0
    injection h with h; subst h
    exact Q6j ha h0
  rename_i h0
  obtain ⟨l,hl,h⟩:=Option.bind_eq_some_iff.1 h
  obtain ⟨fs,hf,h⟩:=Option.bind_eq_some_iff.1 h
  have hpa:=Xz ha
  have hl':Ea 66 (Qo (Qo a))=some l:=by rw [Ql1 ha.t]; exact hl
  obtain ⟨i1,i2⟩:=Ik (Xz ha) hl
  have i3:=Qe4 i2 hf
  obtain ⟨j1,_⟩:=Qad hf
  have hw:=U5 fs
  have co:=Qt4 (p:=[1]) (by decide) (fun z hz=>by rw [List.mem_singleton.1 hz]; decide)
  rw [show trim [1]=[1] from rfl] at co
  refine Z1 Tryz.func304 rfl ?_
  refine go tt [.c [] (Gd ha),.f (by simpa using h0),.c [] co,.c [] (Qq1 hpa hl' hf)] rfl (by simp [Qa]) ?_
  refine lp (S:=Nat×List Int) 0 (fun L1 s=>(16,.v (.one (.int .i64 (s.1:Int))))::(3,.v (pr s.2))::L1) (fun _=>[]) (fun s=>fs.length-s.1) (fun s=>s.1≤fs.length∧Pb s.2∧C0 s.1 s.2 (fs.drop s.1)=some o) (0,[1]) ⟨Nat.zero_le _,Qxz,h⟩ rfl (fun _ _=>rfl) rfl fun ⟨i,p⟩ ⟨k1,k2,k3⟩=>?_
  dsimp only at k1 k2 k3 ⊢
  by_cases hlt:i<fs.length
  · obtain ⟨f,hx⟩:∃ w,fs[i]? = some w:=⟨_,List.getElem?_eq_getElem hlt⟩
    have hdr:fs.drop i=f::fs.drop (i+1):=by
      rw [List.drop_eq_getElem_cons hlt]; congr 1
      have:=List.getElem?_eq_getElem hlt; rw [hx] at this; injection this with this; exact this.symm
    rw [hdr] at k3
    simp only [C0] at k3
    have pf:=i3 f (List.mem_of_getElem? hx)
    by_cases h2:i % 2=0
    · rw [if_pos h2] at k3
      obtain ⟨q,hq,k3⟩:=Option.bind_eq_some_iff.1 k3
      obtain ⟨rfl,hq'⟩:=Rt (Z2 _ _) hq
      refine go tt [.t (by simp [hw]; omega),.x (Xs hx),.t (by rw [Qqi,h2]; rfl),.c [] (Q6l k2.t pf.t (Nat.lt_of_le_of_lt k2.l (by decide)) (Nat.lt_of_le_of_lt pf.l (by decide)) k2.b pf.b (by decide))] rfl (by simp [Qa]; omega) ?_
      exact rd (i+1,Zt p f) (by dsimp only; omega) ⟨hlt,hq',k3⟩ rfl
    · rw [if_neg h2] at k3
      refine go tt [.t (by simp [hw]; omega),.x (Xs hx),.f (by rw [Qqi,show i % 2=1 by omega]; rfl)] rfl (by simp [Qa]; omega) ?_
      exact rd (i+1,p) (by dsimp only; omega) ⟨hlt,k2,k3⟩ rfl
  · obtain rfl:i=fs.length:=by omega
    rw [List.drop_length] at k3
    simp only [C0] at k3
    injection k3 with k3; subst k3
    exact en tt [.f (by simp [hw])] rfl rfl trivial
end Orr

namespace Orr
open Go Go.Proofs Orq
set_option maxRecDepth 10000
theorem Te (z:Int):Qn (z.natAbs:Int)=Qn z:=by unfold Qn; simp
theorem Quk {x y:LV} {z:Int} (hi:Xg x y z) (hs:Qn z≤4294967295):Qc Tryz.prog 330 [.agg [x,y]] [.agg (Zq (z.natAbs:Int))]:=by
  obtain ⟨b,l,rfl,rfl,hl,rfl⟩:=hi
  have e:(Qi false (val l))=((Qi b (val l)).natAbs:Int):=by rw [Xx]; rfl
  rw [←e]
  exact w tt Tryz.func330 rfl [.c [] (Nl hl (Nat.le_trans (Yh hs) (by decide))),.c [] (Yk _ _)] rfl rfl trivial
theorem Q1s {n d:Int} (h0:d≠0) (hn:Qn n≤4294967295) (hd:Qn d≤4294967295):Qc Tryz.prog 331 [.agg (Zq n),.agg (Zq d)] [.agg (rl (Rat.divInt n d)),.one (.int .i64 0)] :=
  w tt Tryz.func331 rfl [.c [] (Ur (Qe d) hd),.c [] Gu,.f (by simpa using h0),.c [] (Ur (Qe n) hn),.c [] (Si h0 hn hd)] rfl rfl trivial
theorem Qr9 (l:List Int) (z:Int):most (l++[z])=if most l<z.natAbs then z.natAbs else most l:=by unfold most; rw [List.foldl_append]; rfl
theorem Qpi {s:Nat}:∀ {l:List Int},Bd s l→Qn (most l:Int)≤s:=fun {l}=>by
  suffices h:∀ (l:List Int) (m:Nat),Bd s l→Qn (m:Int)≤s→Qn ((l.foldl (fun m z=>if m<z.natAbs then z.natAbs else m) m:Nat):Int)≤s from fun hb=>h l 0 hb (by simp [Qn,sz])
  intro l
  induction l with
  | nil=>exact fun m _ h=>h
  |
   cons z l ih =>
   intro m hb hm
   refine ih _ (fun y hy=>hb y (List.mem_cons_of_mem _ hy)) ?_
   show Qn ((if m<z.natAbs then z.natAbs else m:Nat):Int)≤s
   split
   · rw [Te]; exact hb z (List.mem_cons_self ..)
   · exact hm
def ozi:Option Nat→List LV
  | none=>[.bool false,.nils]
  | some m=>Zq (m:Int)
def ozr:Option Nat→List LV
  | none=>[.bool false,.row []]
  | some m=>Zq (m:Int)
theorem Q0x {p:List Int} (hp:Pb p) (h0:p.length≠0):Qc Tryz.prog 319 [pr p] [.agg (rl (Zx p)),.one (.int .i64 0)]:=by
  have hl:=hp.l
  have hll:(p.take (p.length-1)).length=p.length-1:=by simp
  have hbt:Bd 16777216 (p.take (p.length-1)):=fun z hz=>hp.b z (List.mem_of_mem_take hz)
  refine Z1 Tryz.func319 rfl ?_
  refine go tt [.c [] (Xy hp.t hp.ln hp.bd),.f (by simpa using h0),.r 18 (eI (b:=((p.length-1:Nat):Int)) (by simp; omega)),.i (p.length-1)] rfl (by simp [Qa]; omega) ?_
  rw [←List.map_take]
  refine lp (S:=Nat×Option Nat) 2 (fun L1 s=>(21,.v (.one (.int .i64 (s.1:Int))))::L1) (fun s=>[.blk 41 [.bool false,.nils,.bool false,.nils],.blk 29 (ozi s.2)]) (fun s=>p.length-1-s.1) (fun s=>s.1≤p.length-1∧most ((p.take (p.length-1)).take s.1)=s.2.getD 0) (0,none) ⟨Nat.zero_le _,rfl⟩ rfl (fun _ _=>rfl) rfl fun ⟨i,o⟩ ⟨j1,j2⟩=>?_
  dsimp only at j1 j2 ⊢
  by_cases hlt:i<p.length-1
  · obtain ⟨z,hz⟩:∃ w,(p.take (p.length-1))[i]? = some w:=⟨_,List.getElem?_eq_getElem (by omega)⟩
    have bz:Qn z≤16777216:=hbt z (List.mem_of_getElem? hz)
    have hst:most ((p.take (p.length-1)).take (i+1))=if o.getD 0<z.natAbs then z.natAbs else o.getD 0:=by
      rw [List.take_succ,hz]; show most (_++[z])=_; rw [Qr9,j2]
    have ca:=Quk (Qe z) (Nat.le_trans bz (by decide))
    have hl1:decide ((i:Int)<(((p.take (p.length-1)).map Zq).length:Int))=true:=by simp; omega
    have bm:Qn ((o.getD 0:Nat):Int)≤16777216:=by rw [←j2]; exact Qpi fun y hy=>hbt y (List.mem_of_mem_take hy)
    have hcm:Kd (z.natAbs:Int) ((o.getD 0:Nat):Int)>0↔o.getD 0<z.natAbs:=by unfold Kd; split <;> (try split) <;> omega
    have cc:Qc Tryz.prog 199 [.agg (Zq (z.natAbs:Int)),.agg (ozr o)] [.one (.int .i64 (Kd (z.natAbs:Int) ((o.getD 0:Nat):Int)))]:=by
      cases o with
      | none=>exact Om (Qe _) Wh (by rw [Te]; omega) (by decide)
      | some m=>exact Om (Qe _) (Qe _) (by rw [Te]; omega) (Nat.le_trans bm (by decide))
    by_cases hc:o.getD 0<z.natAbs
    · rw [if_pos hc] at hst
      have hd:decide (Kd (z.natAbs:Int) ((o.getD 0:Nat):Int)>0)=true:=by simpa using hcm.2 hc
      cases o <;> (refine go tt [.t hl1,.x (Zm (f:=Zq) hz),.c [] ca,.c [] cc,.t hd] rfl (by simp [Qa]; omega) ?_; exact rd (i+1,some z.natAbs) (by dsimp only; omega) ⟨hlt,hst⟩ rfl)
    · rw [if_neg hc] at hst
      have hd:decide (Kd (z.natAbs:Int) ((o.getD 0:Nat):Int)>0)=false:=by
        have:=mt hcm.1 hc; simpa using this
      cases o with
      | none=>refine go tt [.t hl1,.x (Zm (f:=Zq) hz),.c [] ca,.c [] cc,.f hd] rfl (by simp [Qa]; omega) ?_; exact rd (i+1,none) (by dsimp only; omega) ⟨hlt,hst⟩ rfl
      | some m=>refine go tt [.t hl1,.x (Zm (f:=Zq) hz),.c [] ca,.c [] cc,.f hd] rfl (by simp [Qa]; omega) ?_; exact rd (i+1,some m) (by dsimp only; omega) ⟨hlt,hst⟩ rfl
  · obtain rfl:i=p.length-1:=by omega
    rw [List.take_of_length_le (by omega)] at j2
    have bl:Qn (Qr p)≤16777216:=hp.b _ (Qa2 h0)
    have ln:((Qr p).natAbs:Int)≠0:=by have:=Ut hp.t h0; omega
    have cl:=Wp hp.t hp.ln hp.bd
    have ca:=Quk (Qe (Qr p)) (Nat.le_trans bl (by decide))
    have bm:Qn ((o.getD 0:Nat):Int)≤16777216:=by rw [←j2]; exact Qpi hbt
    have cd:Qc Tryz.prog 111 [.agg (Zq ((Qr p).natAbs:Int)),.agg (ozr o)] [.agg (Zq (((Qr p).natAbs:Int)+(most (p.take (p.length-1)):Int)))]:=by
      rw [j2]
      cases o with
      | none=>exact Nm (Qe _) Wh (by rw [Te]; omega) (by decide)
      | some m=>exact Nm (Qe _) (Qe _) (by rw [Te]; omega) (Nat.le_trans bm (by decide))
    have cm:=Q1s (n:=((Qr p).natAbs:Int)+(most (p.take (p.length-1)):Int)) ln (Nat.le_trans (Mi _ _) (by rw [Te,j2]; omega)) (by rw [Te]; omega)
    have hf:decide (((p.length-1:Nat):Int)<(((p.take (p.length-1)).map Zq).length:Int))=false:=by simp
    cases o <;> exact en tt [.f hf,.c [] cl,.c [] ca,.c [] cd,.c [] cm] rfl rfl trivial
end Orr

namespace Orr
open Go Go.Proofs Orq
set_option maxRecDepth 10000
theorem Q41 {z:Int}:Qc Tryz.prog 350 [.agg (Zq z)] [.one (.int .i64 (Int.sign z))]:=by
  by_cases h0:z=0
  · subst h0
    exact w tt Tryz.func350 rfl [.t (by simp [Qf,Zp])] rfl rfl trivial
  · have hl:(Qw z.natAbs).length≠0:=fun h=>h0 (Qr8.1 h)
    have hl':decide (((lm (Qw z.natAbs)).length:Int)=0)=false:=by simpa [Qf] using hl
    by_cases h1:z<0
    · rw [Int.sign_eq_neg_one_of_neg h1]
      exact w tt Tryz.func350 rfl [.f hl',.t (by simpa using h1)] rfl rfl trivial
    · rw [Int.sign_eq_one_of_pos (by omega)]
      exact w tt Tryz.func350 rfl [.f hl',.f (by simpa using h1)] rfl rfl trivial
theorem Qtq {p:List Int} (hp:Pb p):Qc Tryz.prog 342 [pr p] [.one (.int .i64 (Tv p)),.one (.int .i64 (Cd p))]:=by
  have hb:-1≤(Qr p).sign∧(Qr p).sign≤1:=by rcases Fx (Qr p) with h | h | h <;> omega
  by_cases h:p.length % 2=0
  · have e:Tv p=-(Qr p).sign:=by unfold Tv; rw [if_pos h]
    rw [e]
    exact w tt Tryz.func342 rfl [.c [] (Xy hp.t hp.ln hp.bd),.c [] (Wp hp.t hp.ln hp.bd),.c [] Q41,.t (by rw [Qqi]; simp [h])] rfl rfl (by simp [Qa,Qr] at hb ⊢; omega)
  · have e:Tv p=(Qr p).sign:=by unfold Tv; rw [if_neg h]
    rw [e]
    exact w tt Tryz.func342 rfl [.c [] (Xy hp.t hp.ln hp.bd),.c [] (Wp hp.t hp.ln hp.bd),.c [] Q41,.f (by rw [Qqi]; simp; omega)] rfl rfl (by simp [Qa])
theorem Quv {p:List Int} (hp:Pb p):Qc Tryz.prog 341 [pr p] [.one (.int .i64 (Tv p))]:=w tt Tryz.func341 rfl [.c [] (Qtq hp)] rfl rfl trivial
theorem Q1o {p:List Int} (hp:Pb p):Qc Tryz.prog 343 [pr p] [.one (.int .i64 (Cd p))]:=w tt Tryz.func343 rfl [.c [] (Qtq hp)] rfl rfl trivial
theorem Q6t {q:Rat} (hq:Qs 4294967295 q):Qc Tryz.prog 156 [.agg (rl q)] [.agg (rl (-q))]:=by
  exact w tt Tryz.func156 rfl [.c [] (Ot hq),.c [] (Og (Qe _) hq.1)] rfl rfl trivial
theorem Qhh {l:List (List Int)} {fid:Nat} {sg:List Int→Int} (hl:l.length≤1000) (hs:∀ p,-1≤sg p∧sg p≤1) (h:∀ p∈l,Qc Tryz.prog fid [pr p] [.one (.int .i64 (sg p))]):Qc Tryz.prog 300 [.one (.sh [.row (J3 l)]),.one (.fn fid [] [])] [.one (.int .i64 (Kb sg l:Nat))]:=by
  have hpl:=U5 l
  refine Z1 Tryz.func300 rfl ?_
  refine go tt [] rfl trivial ?_
  refine lp (S:=Nat) 0 (fun L1 i=>(15,.v (.one (.int .i64 (i:Int))))::(5,.v (.one (.int .i64 ((M9 sg l i).1:Int))))::(6,.v (.one (.int .i64 (M9 sg l i).2)))::L1) (fun _=>[]) (fun i=>l.length-i) (fun i=>i≤l.length) 0 (Nat.zero_le _) rfl (fun _ _=>rfl) rfl fun i hi=>?_
  by_cases hlt:i<l.length
  · obtain ⟨p,hp⟩:∃ p,l[i]? = some p:=⟨_,List.getElem?_eq_getElem hlt⟩
    have hst:M9 sg l (i+1)=Ye sg (M9 sg l i) p:=Uj _ _ _ hp
    obtain ⟨b1,b2,b3⟩:=Qgl hs l i
    have b4:=hs p
    by_cases h0:sg p=0
    · refine go tt [.t (by simp [hpl]; omega),.x (Xs hp),.c [] (h p (List.mem_of_getElem? hp)),.t (by simpa using h0)] rfl (by simp [Qa]; omega) ?_
      exact rd (i+1) (by omega) hlt (by rw [hst,show Ye sg (M9 sg l i) p=M9 sg l i from by unfold Ye; rw [if_pos h0]]; rfl)
    · by_cases h1:(M9 sg l i).2=-(sg p)
      · refine go tt [.t (by simp [hpl]; omega),.x (Xs hp),.c [] (h p (List.mem_of_getElem? hp)),.f (by simpa using h0),.t (by simpa using h1)] rfl (by simp [Qa]; omega) ?_
        exact rd (i+1) (by omega) hlt (by rw [hst,show Ye sg (M9 sg l i) p=((M9 sg l i).1+1,sg p) from by unfold Ye; rw [if_neg h0,if_pos h1]]; rfl)
      · refine go tt [.t (by simp [hpl]; omega),.x (Xs hp),.c [] (h p (List.mem_of_getElem? hp)),.f (by simpa using h0),.f (by simpa using h1)] rfl (by simp [Qa]; omega) ?_
        exact rd (i+1) (by omega) hlt (by rw [hst,show Ye sg (M9 sg l i) p=((M9 sg l i).1,sg p) from by unfold Ye; rw [if_neg h0,if_neg h1]]; rfl)
  · obtain rfl:i=l.length:=by omega
    refine en tt [.f (by simp [hpl])] rfl ?_ trivial
    unfold M9 Kb; rw [List.take_length]
theorem Lq (p:List Int):(-1≤Tv p∧Tv p≤1)∧-1≤Cd p∧Cd p≤1:=by
  have hb:-1≤(Qr p).sign∧(Qr p).sign≤1:=by rcases Fx (Qr p) with h | h | h <;> omega
  unfold Tv Cd
  split <;> omega
theorem Q0y {l:List (List Int)} (hl:l.length≤1000) (hp:∀ p∈l,Pb p):Qc Tryz.prog 321 [.one (.sh [.row (J3 l)])] [.one (.int .i64 (Px l))]:=by
  have c1:Qc Tryz.prog 332 [.one (.sh [.row (J3 l)])] [.one (.int .i64 (Kb Tv l:Nat))] :=
    w tt Tryz.func332 rfl [.c [] (Qhh hl (fun p=>(Lq p).1) fun p h=>Quv (hp p h))] rfl rfl trivial
  have c2:Qc Tryz.prog 333 [.one (.sh [.row (J3 l)])] [.one (.int .i64 (Kb Cd l:Nat))] :=
    w tt Tryz.func333 rfl [.c [] (Qhh hl (fun p=>(Lq p).2) fun p h=>Q1o (hp p h))] rfl rfl trivial
  have b1:Kb Tv l≤l.length:=Uf (fun p=>(Lq p).1) l
  have b2:Kb Cd l≤l.length:=Uf (fun p=>(Lq p).2) l
  exact w tt Tryz.func321 rfl [.c [] c1,.c [] c2] rfl rfl (by simp [Qa]; omega)
theorem Qkf {l:List (List Int)} {lo hi:Rat} (hl:l.length≤1000):-1000≤Jc l lo hi∧Jc l lo hi≤1000:=by
  have b1:Ky l lo≤l.length:=Uf (fun p=>H7 p lo) l
  have b2:Ky l hi≤l.length:=Uf (fun p=>H7 p hi) l
  unfold Jc; split <;> omega
end Orr

namespace Orr
open Go Go.Proofs Orq
set_option maxRecDepth 10000
abbrev tal (l:List Tm):List (List LV):=l.map fun t=>ta t
theorem Iv {p:List Int} {c:List (List Int)} (hp:Pb p):∀ {k:Nat} {lo hi:Rat} {n:Int} {r:List Tm},Qb lo→Qb hi→Fq p c k lo hi n=some r→∀ t∈r,Tb t
  | 0,_,_,_,_,_,_,h=>by cases h
  |
   k+1,lo,hi,n,r,hl,hh,h=>by
   simp only [Fq] at h
   split at h
   · injection h with h; subst h; exact fun t ht=>by cases ht
   · split at h
     · injection h with h; subst h
       intro t ht; rw [List.mem_singleton.1 ht]; exact ⟨hp,hl,hh⟩
     · obtain ⟨m,hm,h⟩:=Option.bind_eq_some_iff.1 h
       obtain ⟨rfl,qm⟩:=Ou hm
       obtain ⟨x,hx,h⟩:=Option.bind_eq_some_iff.1 h
       obtain ⟨y,hy,h⟩:=Option.bind_eq_some_iff.1 h
       injection h with h; subst h
       intro t ht
       rcases List.mem_append.1 ht with ht | ht
       · exact Iv hp hl qm hx t ht
       · exact Iv hp qm hh hy t ht
theorem Q8p (l:List Tm):∀ c∈tal l,c.length=9:=fun c hc=>by obtain ⟨t,_,rfl⟩:=List.mem_map.1 hc; rfl
theorem Qkx {p:List Int} {c:List (List Int)} (hp:Pb p) (hcl:c.length≤1000) (hc:∀ q∈c,Pb q):∀ {k:Nat} {lo hi:Rat} {n:Int} {r:List Tm},Qb lo→Qb hi→k≤100000→-(1000*(100001-k:Nat))≤n∧n≤1000*(100001-k:Nat)→Fq p c k lo hi n=some r→r.length≤1000000→Zw Tryz.prog 320 [pr p,.one (.sh [.row (J3 c)]),.agg (rl lo),.agg (rl hi),.one (.int .i64 n)] [] [.one (.orow 0 9 none)] [.row false 67 9 (tal r)]
  | 0,_,_,_,_,_,_,_,_,h,_=>by cases h
  |
   k+1,lo,hi,n,r,hl,hh,hk,hn,h,hr=>by
   simp only [Fq] at h
   split at h
   · rename_i h0
     injection h with h; subst h
     refine Z1 Tryz.func320 rfl ?_
     exact ed tt [] [2] [.t (by simpa using h0),.o 10 67 9] rfl trivial
   · rename_i h0
     split at h
     · rename_i h1
       injection h with h; subst h
       refine Z1 Tryz.func320 rfl ?_
       exact ed tt [] [2] [.f (by simpa using h0),.t (by simpa using h1),.c [] (Xy hp.t hp.ln hp.bd),.c [] (Ge hl.s32),.c [] (Ge hh.s32),.lo] rfl trivial
     · rename_i h1
       obtain ⟨m,hm,h⟩:=Option.bind_eq_some_iff.1 h
       obtain ⟨rfl,qm⟩:=Ou hm
       obtain ⟨x,hx,h⟩:=Option.bind_eq_some_iff.1 h
       obtain ⟨y,hy,h⟩:=Option.bind_eq_some_iff.1 h
       injection h with h; subst h
       have hb:=Qkf (l:=c) (lo:=lo) (hi:=mid lo hi) hcl
       rw [List.length_append] at hr
       have c1:=Qkx hp hcl hc hl qm (by omega) (by omega) hx (by omega)
       have c2:=Qkx hp hcl hc qm hh (by omega) (by omega) hy (by omega)
       rw [show tal (x++y)=tal x++tal y from List.map_append]
       refine Z1 Tryz.func320 rfl ?_
       exact ed tt [] [3] [.f (by simpa using h0),.f (by simpa using h1),.c [] (Q40 hl hh),.c [] (Qce hcl hc hl qm),.c [3] c1,.c [4] c2,.s (Q8p y)] rfl (by simp [Qa]; omega)
theorem Q04 {p:List Int} {r:List Tm} (hp:Pb p) (h:Qbl p=some r) (hr:r.length≤1000000):Qc Tryz.prog 303 [pr p] [.one (tas r),.one (.int .i64 0)]:=by
  unfold Qbl at h
  obtain ⟨c,h1,h⟩:=Option.bind_eq_some_iff.1 h
  obtain ⟨q,h2,h⟩:=Option.bind_eq_some_iff.1 h
  obtain ⟨b,h3,h⟩:=Option.bind_eq_some_iff.1 h
  obtain ⟨rfl,hb⟩:=Ou h3
  obtain ⟨k1,k2⟩:=chain_ok hp h1
  have hq:=Ek hp h2
  have q0:q.length≠0:=by
    unfold Hk at h1
    obtain ⟨a,a1,h1⟩:=Option.bind_eq_some_iff.1 h1
    rw [h2] at a1; injection a1 with a1; subst a1
    split at h1
    · cases h1
    · assumption
  have qn:Qb (-Zx q):=⟨by rw [Rat.neg_num,Z8]; exact hb.1,by rw [Rat.neg_den]; exact hb.2⟩
  have bb1:Kb Tv c≤c.length:=Uf (fun p=>(Lq p).1) c
  have bb2:Kb Cd c≤c.length:=Uf (fun p=>(Lq p).2) c
  have hn:-(1000*(100001-100000:Nat):Int)≤Px c∧Px c≤1000*(100001-100000:Nat):=by unfold Px; omega
  have cr:=Qkx hq (by omega) k2 qn hb (Nat.le_refl _) hn h hr
  refine Z1 Tryz.func303 rfl ?_
  exact ed tt [1] [] [.c [] (Qua hp h1),.f rfl,.c [] (Oi hp h2),.c [] (Q0x hq q0),.c [] (Q6t hb.s32),.c [] (Q0y (by omega) k2),.c [1] cr] rfl trivial
end Orr

namespace Orr
open Go Go.Proofs Orq
set_option maxRecDepth 10000
def Qj (l:List Pt):List (List LV):=l.map Xe
theorem Py {l:List Pt} {i:Nat} {c:Pt} (h:l[i]? = some c):(Qj l)[i]? = some (Xe c):=Zm h
theorem Fv (l:List Pt):(Qj l).length=l.length:=by simp [Qj]
theorem Qp9 (l:List Pt):∀ c∈Qj l,c.length=5:=fun c hc=>by
  obtain ⟨x,_,rfl⟩:=List.mem_map.1 hc; rfl
end Orr

namespace Orr
open Go Go.Proofs Orq
set_option maxRecDepth 10000
theorem Q05:Qc Tryz.prog 230 [pr []] [.one .nilp,.one (.int .i64 2)]:=by
  have h:Vb []=some []:=rfl
  exact w tt Tryz.func230 rfl [.c [] (Oi Ej h),.t rfl] rfl rfl trivial
theorem Qt9:Qc Tryz.prog 303 [pr []] [.one (.row []),.one (.int .i64 2)] :=
  w tt Tryz.func303 rfl [.c [] Q05,.t rfl] rfl rfl trivial
theorem Q7x {a o:List Int} (ha:Pb a) (h:Qly a=some o):Pb o:=by
  unfold Qly at h
  split at h
  · injection h with h; subst h; exact Ej
  · obtain ⟨l,hl,h⟩:=Option.bind_eq_some_iff.1 h
    obtain ⟨fs,hf,h⟩:=Option.bind_eq_some_iff.1 h
    exact Mm Qxz (Qe4 (Ik (Xz ha) hl).2 hf) h
theorem Qts {p:List Int} {l:List Tm} (hp:Pb p) (h:Bj p=some l) (hl:l.length≤1000000):Qc Tryz.prog 276 [pr p] [.one (tas l)]:=by
  unfold Bj at h
  obtain ⟨q,hq,h⟩:=Option.bind_eq_some_iff.1 h
  have qp:=Q7x hp hq
  have co:=Q9j hp hq
  split at h
  · rename_i h0
    injection h with h; subst h
    obtain rfl:=List.eq_nil_of_length_eq_zero h0
    exact w tt Tryz.func276 rfl [.c [] co,.c [] Qt9,.t rfl] rfl rfl trivial
  · exact w tt Tryz.func276 rfl [.c [] co,.c [] (Q04 qp h hl),.f rfl] rfl rfl trivial
def ota:Option Tm→List LV
  | none=>zTr
  | some t=>ta t
theorem Q00 {p:List Int} {a:Tm} {l:List Tm} {r:Option Tm} (hp:Pb p) (ha:Tb a) (h:Bj p=some l) (hl:l.length≤1000000) (ht:∀ t∈l,Tb t) (hr:Nc a l=some r):Qc Tryz.prog 241 [pr p,.agg (ta a)] [.agg (ota r),.one (.bool r.isSome)]:=by
  have hll:(l.map fun t=>ta t).length=l.length:=by simp
  refine Z1 Tryz.func241 rfl ?_
  refine go tt [.c [] (Qts hp h hl)] rfl trivial ?_
  refine lp (S:=Nat) 2 (fun L1 i=>(11,.v (.one (.int .i64 (i:Int))))::L1) (fun _=>[.blk 67 (ta a),.blk 67 zTm]) (fun i=>l.length-i) (fun i=>i≤l.length∧Nc a (l.drop i)=some r) 0 ⟨Nat.zero_le _,hr⟩ rfl (fun _ _=>rfl) rfl fun i ⟨hi,hf⟩=>?_
  by_cases hlt:i<l.length
  · obtain ⟨t,hx⟩:∃ t,l[i]? = some t:=⟨_,List.getElem?_eq_getElem hlt⟩
    have hdr:l.drop i=t::l.drop (i+1):=by
      rw [List.drop_eq_getElem_cons hlt]; congr 1
      have:=List.getElem?_eq_getElem hlt; rw [hx] at this; injection this with this; exact this.symm
    rw [hdr] at hf
    simp only [Nc] at hf
    obtain ⟨c,c1,hf⟩:=Option.bind_eq_some_iff.1 hf
    have cc:=Oe (ht t (List.mem_of_getElem? hx)) ha c1
    by_cases hc:0<c
    · rw [if_pos hc] at hf
      injection hf with hf; subst hf
      exact en tt [.t (by simp; omega),.x (I5 hx),.c [] cc,.t (by simpa using hc)] rfl rfl trivial
    · rw [if_neg hc] at hf
      refine go tt [.t (by simp; omega),.x (I5 hx),.c [] cc,.f (by simpa using hc)] rfl (by simp [Qa]; omega) ?_
      exact rd (i+1) (by omega) ⟨hlt,hf⟩ rfl
  · obtain rfl:i=l.length:=by omega
    rw [List.drop_length] at hf
    simp only [Nc] at hf
    injection hf with hf; subst hf
    exact en tt [.f (by simp)] rfl rfl trivial
end Orr

namespace Orr
open Go Go.Proofs Orq
set_option maxRecDepth 10000
def Pe (now:Tm):List Wt→Option (List Wt)
  | []=>some []
  | w::l=>(if w.known=true then some w else (Ah w.c.p now).bind fun r=>some ⟨w.c,true,r⟩).bind fun w'=>(Pe now l).bind fun r=>some (w'::r)
theorem Ef {now:Tm}:∀ {l ws:List Wt},Pe now l=some ws→ws.length=l.length∧∀ (i:Nat) (w:Wt),l[i]? = some w→∃ v,ws[i]? = some v∧(w.known=true∧v=w∨w.known=false∧∃ r,Ah w.c.p now=some r∧v=⟨w.c,true,r⟩)
  | [],ws,h=>by injection h with h; subst h; exact ⟨rfl,fun i x hx=>by simp at hx⟩
  |
   y::l,ws,h=>by
   simp only [Pe] at h
   obtain ⟨v,hv,h⟩:=Option.bind_eq_some_iff.1 h
   obtain ⟨r,hr,h⟩:=Option.bind_eq_some_iff.1 h
   injection h with h; subst h
   obtain ⟨a,b⟩:=Ef hr
   refine ⟨by simp [a],fun i x hx=>?_⟩
   cases i with
   |
    zero =>
    injection hx with hx; subst hx
    refine ⟨v,rfl,?_⟩
    split at hv
    · rename_i hk; injection hv with hv; exact .inl ⟨hk,hv.symm⟩
    · rename_i hk
      obtain ⟨q,hq,hv⟩:=Option.bind_eq_some_iff.1 hv
      injection hv with hv
      exact .inr ⟨by simpa using hk,q,hq,hv.symm⟩
   | succ i=>exact b i x (by simpa using hx)
theorem Qtr {p:List Int} {a:Tm} {r:Option Tm} (hp:Cp p) (ha:Va a) (h:Ah p a=some r):Qc Tryz.prog 241 [pr p,.agg (ta a)] [.agg (ota r),.one (.bool r.isSome)]:=by
  obtain ⟨l,l1,l2,l3,_⟩:=P7 hp
  unfold Ah at h
  rw [l1] at h
  exact Q00 (Dp.pb hp.dp) ha.tb l1 (by omega) (fun t ht=>(l3 t ht).tb) h
def Qix (ws:List Wt):Option (Option Tm):=match ws.filterMap (·.fails) with
  | []=>some none
  | b::l=>(Tf b l).map some
theorem Im {c:Cr} {ws:List Wt} (hc:CrOk c) (h:Pe c.now c.l=some ws):CrOk { c with l:=ws }:=by
  obtain ⟨h1,h2⟩:=Ef h
  refine ⟨hc.n,fun v hv=>?_,by show ws.length≤1000; rw [h1]; exact hc.k⟩
  obtain ⟨i,hi⟩:=List.getElem?_of_mem hv
  have hil:i<c.l.length:=by rw [←h1]; exact (List.getElem?_eq_some_iff.1 hi).1
  obtain ⟨v',h3,h4⟩:=h2 i _ (List.getElem?_eq_getElem hil)
  rw [hi] at h3; injection h3 with h3; subst h3
  have hw:=hc.l _ (List.getElem_mem hil)
  rcases h4 with ⟨_,rfl⟩ | ⟨_,r,k2,rfl⟩
  · exact hw
  · obtain ⟨r',r1,r2⟩:=Qxo hw.p hc.n
    rw [k2] at r1; injection r1 with r1; subst r1
    refine ⟨hw.p,fun t ht=>?_⟩
    have ht:r=some t:=ht
    subst ht
    exact r2.2.1
end Orr

namespace Orr
open Go Go.Proofs Orq
set_option maxRecDepth 10000
theorem Qa0 {at_:Tm} {x:Ct}:∀ {l:List Wt} {w:Wt},Fh l x at_=some w→w=fresh x∨∃ v∈l,v.known=true∧v.c.p=x.p∧w=⟨x,true,v.fails⟩∧∀ t,v.fails=some t→∃ c,Li t at_=some c∧0<c
  | [],w,h=>by simp only [Fh] at h; injection h with h; exact .inl h.symm
  |
   v::l,w,h=>by
   simp only [Fh] at h
   have tl:Fh l x at_=some w→w=fresh x∨∃ v'∈v::l,v'.known=true∧v'.c.p=x.p∧w=⟨x,true,v'.fails⟩∧∀ t,v'.fails=some t→∃ c,Li t at_=some c∧0<c:=fun h=>by
     rcases Qa0 h with h | ⟨v',h1,h2⟩
     · exact .inl h
     · exact .inr ⟨v',List.mem_cons_of_mem _ h1,h2⟩
   split at h
   · rename_i hk
     cases hf:v.fails with
     |
      none =>
      rw [hf] at h
      injection h with h
      exact .inr ⟨v,List.mem_cons_self ..,hk.2.1,hk.2.2,by rw [hf]; exact h.symm,fun t ht=>by rw [hf] at ht; cases ht⟩
     |
      some t =>
      rw [hf] at h
      obtain ⟨c,c1,h⟩:=Option.bind_eq_some_iff.1 h
      split at h
      · rename_i h0
        injection h with h
        exact .inr ⟨v,List.mem_cons_self ..,hk.2.1,hk.2.2,by rw [hf]; exact h.symm,fun u hu=>by rw [hf] at hu; injection hu with hu; subst hu; exact ⟨c,c1,h0⟩⟩
      · exact tl h
   · exact tl h
theorem lay_ok {c:Cr} {at_:Tm} {l:List Ct} {ws:List Wt} (ev:Int) (hc:CrOk c) (ha:Va at_) (hl:∀ x∈l,Cp x.p) (hn:l.length≤1000) (h:Gl c.l at_ (Q6 l)=some ws):CrOk ⟨at_,ws,ev⟩:=by
  obtain ⟨h1,h2⟩:=Cn h
  refine ⟨ha,fun w hw=>?_,by show ws.length≤1000; rw [h1,U7]; exact hn⟩
  obtain ⟨i,hi⟩:=List.getElem?_of_mem hw
  have hil:i<(Q6 l).length:=by rw [←h1]; exact (List.getElem?_eq_some_iff.1 hi).1
  obtain ⟨v,h3,h4⟩:=h2 i _ (List.getElem?_eq_getElem hil)
  rw [hi] at h4; injection h4 with h4; subst h4
  have hx:=hl _ (Rh (List.getElem_mem hil))
  rcases Qa0 h3 with e | ⟨v,v1,_,v3,e,_⟩
  · rw [e]; exact ⟨hx,fun t ht=>by cases ht⟩
  · rw [e]; exact ⟨hx,fun t ht=>(hc.l v v1).f t ht⟩
def goF {β:Type} (Bc:Tm→List Ct) (Br:Tm→β) (t:Rat):Nat→Cr→β→Int→Option (Cr×β×Int)
  | 0,_,_,_=>none
  |
   k+1,c,r,n=>(Pe c.now c.l).bind fun ws=>(Qix ws).bind fun o=>match o with
   | none=>some (⟨tq t,ws,c.ev⟩,r,n)
   | some a=>if 0<Qu a t then some (⟨tq t,ws,c.ev⟩,r,n) else (Gl ws a (Q6 (Bc a))).bind fun w2=>goF Bc Br t k ⟨a,w2,c.ev+1⟩ (Br a) (n+1)
theorem Qxs {ws:List Wt} {a:Tm} (h:Qix ws=some (some a)) (hv:∀ t∈ws.filterMap (·.fails),Va t):a∈ws.filterMap (·.fails)∧∀ t∈ws.filterMap (·.fails),¬Uh t a:=by
  unfold Qix at h
  cases hf:ws.filterMap (·.fails) with
  | nil=>rw [hf] at h; injection h with h; cases h
  |
   cons b l =>
   rw [hf] at h hv
   obtain ⟨m,m1,m2⟩:=Option.map_eq_some_iff.1 h
   injection m2 with m2; subst m2
   obtain ⟨m',n1,n2,n3⟩:=Eb l b hv
   rw [m1] at n1; injection n1 with n1; subst n1
   exact ⟨n2,n3⟩
theorem Q7w {c:Cr} {ws:List Wt} {a:Tm} (hc:CrOk c) (h:Pe c.now c.l=some ws) (hr:Qix ws=some (some a)):Va a:=by
  have hc':=Im hc h
  have hv:∀ t∈ws.filterMap (·.fails),Va t:=fun t ht=>by
    obtain ⟨w,w1,w2⟩:=List.mem_filterMap.1 ht
    exact (hc'.l w w1).f t w2
  exact hv a (Qxs hr hv).1
structure BuildOk (Bc:Tm→List Ct):Prop where
  p:∀ a,Va a→∀ x∈Bc a,Cp x.p
  n:∀ a,Va a→(Bc a).length≤1000
end Orr

namespace Orr
open Go Go.Proofs Orq
set_option maxRecDepth 10000
end Orr

namespace Orr
open Go Go.Proofs Orq
set_option maxRecDepth 10000
theorem Qrl {a:Tm} (ha:Va a):Li a a=some 0:=by
  obtain ⟨c,c1,c2⟩:=B6 ha ha
  rcases c2 with ⟨_,h⟩ | ⟨e,_⟩ | ⟨_,h⟩
  · exact absurd h fun h=>Pf ha.cut ha.cut h h
  · rw [c1,e]
  · exact absurd h fun h=>Pf ha.cut ha.cut h h
end Orr

namespace Orr
open Go Go.Proofs Orq
set_option maxRecDepth 10000
abbrev idl (l:List Int):List (List LV):=l.map fun (z:Int)=>[.int .i64 z]
def Ha (v n:Int):Int:=if n<1 then 0 else v.emod n
theorem Qs2 {v n:Int} (h:0<n):(if v.tmod n<0 then v.tmod n+n else v.tmod n)=v % n:=by
  have h3:=Int.emod_nonneg v (show n≠0 by omega)
  have h4:=Int.emod_lt_of_pos v h
  have h1:=Int.tmod_eq_emod (a:=v) (b:=n)
  have hn:((n.natAbs:Nat):Int)=n:=by omega
  split at h1
  · rw [h1]; simp; omega
  · rename_i hc
    rw [h1,hn]
    have:v % n≠0:=fun e=>hc (.inr (Int.dvd_of_emod_eq_zero e))
    rw [if_pos (by omega)]; omega
theorem Sf {v n:Int} (hv:-9223372036854775808≤v∧v≤9223372036854775807) (hn:n≤1000000000):Qc Tryz.prog 15 [.one (.int .i64 v),.one (.int .i64 n)] [.one (.int .i64 (Ha v n))]:=by
  unfold Ha
  by_cases h:n<1
  · rw [if_pos h]
    exact w tt Tryz.func15 rfl [.t (by simpa using h)] rfl rfl trivial
  · rw [if_neg h]
    have e:=Qs2 (v:=v) (n:=n) (by omega)
    have h3:=Int.emod_nonneg v (show n≠0 by omega)
    have h4:=Int.emod_lt_of_pos v (show 0<n by omega)
    show Qc Tryz.prog 15 [.one (.int .i64 v),.one (.int .i64 n)] [.one (.int .i64 (v % n))]
    by_cases h0:v.tmod n<0
    · rw [if_pos h0] at e
      have b:-n≤v.tmod n:=by omega
      exact w tt Tryz.func15 rfl [.f (by simpa using h),.t (by simpa using h0)] rfl (by rw [e]) (by simp [Qa]; omega)
    · rw [if_neg h0] at e
      exact w tt Tryz.func15 rfl [.f (by simpa using h),.f (by simpa using h0)] rfl (by rw [e]) (by simp [Qa]; omega)
end Orr

namespace Orr
open Go Go.Proofs
set_option maxRecDepth 10000
def Xl (p:List Rat):List (List LV):=p.map fr
theorem Jp (p:List Rat):(Xl p).length=p.length:=by simp [Xl]
theorem Ff {p:List Rat} {i:Nat} {q:Rat} (h:p[i]? = some q):(Xl p)[i]? = some (fr q):=Zm h
theorem Qc6 (p:List Rat) (q:Rat):Xl (p++[q])=Xl p++[fr q]:=by simp [Xl]
theorem Lu (p:List Rat):∀ c∈Xl p,c.length=4:=fun c hc=>by obtain ⟨x,_,rfl⟩:=List.mem_map.1 hc; rfl
abbrev rp (p:List Rat):LV:=.row (Xl p)
theorem Qlt (q:Rat):∀ c∈[fr q],c.length=4:=fun c hc=>by rw [List.mem_singleton.1 hc]; rfl
theorem Qup:Qc Tryz.prog 308 [] [.agg (fr 0)]:=w tt Tryz.func308 rfl [.c [] (Oh (n:=0) (by decide))] rfl rfl trivial
theorem Sj {p:List Rat}:Qc Tryz.prog 280 [.one (rp p)] [.one (rp (Wa p))]:=by
  refine Z1 Tryz.func280 rfl (ln 0 rfl rfl fun hl=>?_)
  rw [Jp] at hl
  have hpl:=Jp p
  refine go tt [] rfl trivial ?_
  refine lp (S:=Nat) 0 (fun L1 n=>(3,.v (.one (.int .i64 (n:Int))))::L1) (fun _=>[]) id (fun n=>n≤p.length∧∀ j x,n≤j→p[j]? = some x→x=0) (Xl p).length ⟨by rw [hpl]; exact Nat.le_refl _,fun j x h1 h2=>by
    have:=(List.getElem?_eq_some_iff.1 h2).1; rw [hpl] at h1; omega⟩ rfl (fun _ _=>rfl) rfl fun n hs=>?_
  obtain ⟨h1,h2⟩:=hs
  cases n with
  |
   zero =>
   have e:=Es h1 (fun j x h=>h2 j x h) (fun h=>absurd h (by decide))
   exact en tt [.g 8 false (by simp),.f rfl,.i 0] rfl (by rw [e]; rfl) (by simp [Qa])
  |
   succ n =>
   obtain ⟨x,hx⟩:∃ x,p[n]? = some x:=⟨_,List.getElem?_eq_getElem (by omega)⟩
   have hn:=Rat.num_eq_zero (q:=x)
   by_cases h0:x=0
   · refine go tt [.g 8 true (by simp),.r 11 (eI (b:=(n:Int)) (by simp)),.x (Ff hx),.c [] (Vu (z:=x.num)),.t (decide_eq_true (hn.2 h0)),.r 18 (eI (b:=(n:Int)) (by simp))] rfl (by simp [Qa]; omega) ?_
     exact rd n (by simp) ⟨by omega,fun j y h3 h4=>by
         rcases Nat.eq_or_lt_of_le h3 with rfl | h3
         · rw [hx] at h4; injection h4 with h4; rw [←h4,h0]
         · exact h2 j y h3 h4⟩ rfl
   · have e:=Es h1 (fun j x h=>h2 j x h) (fun _=>⟨x,hx,h0⟩)
     exact en tt [.g 8 true (by simp),.r 11 (eI (b:=(n:Int)) (by simp)),.x (Ff hx),.c [] (Vu (z:=x.num)),.f (decide_eq_false fun h=>h0 (hn.1 h)),.i (n+1)] rfl (by rw [e]; simp [rp,Xl,List.map_take]) (by simp [Qa,hpl] <;> omega)
theorem Q47 {p:List Rat} {i:Nat} (hi:i<1099511627776):Qc Tryz.prog 286 [.one (rp p),.one (.int .i64 (i:Int))] [.agg (fr (p.getD i 0))]:=by
  have hpl:=Jp p
  by_cases h:i<p.length
  · have e:p.getD i 0=p[i]:=by rw [List.getD_eq_getElem?_getD,List.getElem?_eq_getElem h]; rfl
    rw [e]
    exact w tt Tryz.func286 rfl [.g 7 false (decide_eq_false (by omega)),.f (decide_eq_false (by omega)),.x (Ff (List.getElem?_eq_getElem h))] rfl rfl trivial
  · have e:p.getD i 0=0:=by rw [List.getD_eq_getElem?_getD,List.getElem?_eq_none (by omega)]; rfl
    rw [e]
    exact w tt Tryz.func286 rfl [.g 7 false (decide_eq_false (by omega)),.t (decide_eq_true (by omega)),.c [] Qup] rfl rfl trivial
theorem Qu3:Qc Tryz.prog 281 [.one (ids [1])] [.one (rp (zp [1]))]:=by
  have cc:=Sj (p:=zp [1])
  rw [K0,show trim [1]=[1] from rfl] at cc
  refine Z1 Tryz.func281 rfl ?_
  refine go tt [.o 3 49 4] rfl trivial ?_
  refine lp (S:=Nat) 1 (fun L1 i=>(7,.v (.one (.int .i64 (i:Int))))::(3,.v (.one (.orow 0 4 none)))::L1) (fun i=>[.row false 49 4 (Xl ((zp [1]).take i))]) (fun i=>1-i) (fun i=>i≤1) 0 (by decide) rfl (fun _ _=>rfl) rfl fun i hi=>?_
  rcases (show i=0∨i=1 by omega) with rfl | rfl
  · refine go tt [.t rfl,.x (l:=idl [1]) (i:=0) (xs:=[.int .i64 1]) rfl,.c [] (Oh (n:=1) (by decide)),.s (sz:=4) (Qlt _)] rfl (by simp [Qa,Xl]) ?_
    exact rd 1 (by omega) (by omega) rfl
  · exact en tt [.f rfl,.c [] cc] rfl rfl trivial
theorem Md {p:List Int} (hb:Bd 90000000 p) (hl:p.length≤1000000):Qc Tryz.prog 249 [pr p] [.one (rp (zp (trim p)))]:=by
  have hpl:(p.map Zq).length=p.length:=by simp
  have cc:=Sj (p:=zp p)
  rw [K0] at cc
  show Qc Tryz.prog 249 [.one (.row (p.map Zq))] _
  refine Z1 Tryz.func249 rfl ?_
  refine go tt [.o 3 49 4] rfl trivial ?_
  refine lp (S:=Nat) 1 (fun L1 i=>(7,.v (.one (.int .i64 (i:Int))))::(3,.v (.one (.orow 0 4 none)))::L1) (fun i=>[.row false 49 4 (Xl (zp (p.take i)))]) (fun i=>p.length-i) (fun i=>i≤p.length) 0 (Nat.zero_le _) rfl (fun _ _=>rfl) rfl fun i hi=>?_
  have hol:(Xl (zp (p.take i))).length=i:=by rw [Jp,Ym,List.length_take]; omega
  by_cases h:i<p.length
  · obtain ⟨z,hz⟩:∃ z,p[i]? = some z:=⟨_,List.getElem?_eq_getElem h⟩
    have hzb:=hb z (List.mem_of_getElem? hz)
    have hg:Xl (zp (p.take (i+1)))=Xl (zp (p.take i))++[fr (z:Rat)]:=by
      rw [List.take_succ,hz]; simp [Xl,zp]
    refine go tt [.t (decide_eq_true (by omega)),.x (Zm (f:=Zq) hz),.c [] (Of (z:=z) (by omega)),.c [] (W3 (n:=1) (by decide)),.c [] (Vm (n:=z)),.s (sz:=4) (Qlt _)] rfl (by simp [Qa,hol,-List.getD_eq_getElem?_getD]; omega) ?_
    exact rd (i+1) (by omega) h (by rw [hg]; rfl)
  · have e:i=p.length:=by omega
    rw [e,List.take_length]
    exact en tt [.f (decide_eq_false (by omega)),.c [] cc] rfl rfl trivial
theorem Q46 {p:List Int} (hb:Bd 90000000 p) (hl:p.length≤1000000):Qc Tryz.prog 277 [.one (rp (zp p))] [pr p]:=by
  have hpl:(Xl (zp p)).length=p.length:=by rw [Jp,Ym]
  show Qc Tryz.prog 277 [.one (rp (zp p))] [.one (.row (p.map Zq))]
  refine Z1 Tryz.func277 rfl ?_
  refine go tt [.o 3 29 2] rfl trivial ?_
  refine lp (S:=Nat) 1 (fun L1 i=>(7,.v (.one (.int .i64 (i:Int))))::(3,.v (.one (.orow 0 2 none)))::L1) (fun i=>[.row false 29 2 ((p.take i).map Zq)]) (fun i=>p.length-i) (fun i=>i≤p.length) 0 (Nat.zero_le _) rfl (fun _ _=>rfl) rfl fun i hi=>?_
  have hol:((p.take i).map Zq).length=i:=by rw [List.length_map,List.length_take]; omega
  by_cases h:i<p.length
  · obtain ⟨z,hz⟩:∃ z,p[i]? = some z:=⟨_,List.getElem?_eq_getElem h⟩
    have hzb:=hb z (List.mem_of_getElem? hz)
    have hq:∀ c∈[Zq z],c.length=2:=fun c hc=>by rw [List.mem_singleton.1 hc]; rfl
    have hg:(p.take (i+1)).map Zq=(p.take i).map Zq++[Zq z]:=by
      rw [List.take_succ,hz]; simp
    refine go tt [.t (decide_eq_true (by omega)),.x (Ff (Q0c hz)),.c [] (Qq8 (z:=z) (by omega)),.s (sz:=2) hq] rfl (by simp [Qa]; omega) ?_
    exact rd (i+1) (by omega) h (by rw [hg]; rfl)
  · have e:i=p.length:=by omega
    rw [e,List.take_length]
    exact en tt [.f (decide_eq_false (by omega))] rfl rfl trivial
theorem Qu0 {p q:List Rat} (hp:Rb 20000000 p) (hq:Rb 20000000 q) (hlp:p.length≤1000000) (hlq:q.length≤1000000):Qc Tryz.prog 255 [.one (rp p),.one (rp q)] [.one (rp (Qso p q))]:=by
  have h1:=Jp p
  have h2:=Jp q
  obtain ⟨M,hM⟩:∃ M,M=max p.length q.length:=⟨_,rfl⟩
  have cc:=Sj (p:=Tw (fun i=>p.getD i 0+q.getD i 0) M)
  unfold Qso
  rw [←hM]
  refine Z1 Tryz.func255 rfl ?_
  refine go tt [.o 5 49 4] rfl trivial ?_
  refine lp (S:=Nat) 1 (fun L1 i=>(6,.v (.one (.int .i64 (i:Int))))::(5,.v (.one (.orow 0 4 none)))::L1) (fun i=>[.row false 49 4 (Xl (Tw (fun i=>p.getD i 0+q.getD i 0) i))]) (fun i=>M-i) (fun i=>i≤M) 0 (Nat.zero_le _) rfl (fun _ _=>rfl) rfl fun i hi=>?_
  have hol:(Xl (Tw (fun i=>p.getD i 0+q.getD i 0) i)).length=i:=by rw [Jp,Dq]
  by_cases h:i<M
  · refine go tt [.r 12 (eI (b:=(M:Int)) (by omega)),.t (decide_eq_true (by omega)),.c [] (Q47 (p:=p) (i:=i) (by omega)),.c [] (Q47 (p:=q) (i:=i) (by omega)),.c [] (Qtn (hp.getD (by decide) i) (hq.getD (by decide) i)),.s (sz:=4) (Qlt _)] rfl (by simp [Qa,hol,-List.getD_eq_getElem?_getD]; omega) ?_
    exact rd (i+1) (by omega) h (by rw [Qea,Qc6]; rfl)
  · have e:i=M:=by omega
    rw [e]
    exact en tt [.r 12 (eI (b:=(M:Int)) (by omega)),.f (decide_eq_false (by omega)),.c [] cc] rfl rfl trivial
theorem Hj {p:List Rat} {c:Rat} (hp:Rb 40000000 p) (hc:Qs 40000000 c) (hlp:p.length≤1000000):Qc Tryz.prog 248 [.one (rp p),.agg (fr c)] [.one (rp (Vk p c))]:=by
  have h1:=Jp p
  have cc:=Sj (p:=Tw (fun i=>p.getD i 0*c) p.length)
  unfold Vk
  refine Z1 Tryz.func248 rfl ?_
  refine go tt [.o 5 49 4] rfl trivial ?_
  refine lp (S:=Nat) 2 (fun L1 i=>(9,.v (.one (.int .i64 (i:Int))))::(5,.v (.one (.orow 1 4 none)))::L1) (fun i=>[.blk 49 (fr c),.row false 49 4 (Xl (Tw (fun i=>p.getD i 0*c) i))]) (fun i=>p.length-i) (fun i=>i≤p.length) 0 (Nat.zero_le _) rfl (fun _ _=>rfl) rfl fun i hi=>?_
  have hol:(Xl (Tw (fun i=>p.getD i 0*c) i)).length=i:=by rw [Jp,Dq]
  by_cases h:i<p.length
  · have hg:p[i]? = some (p.getD i 0):=by rw [List.getD_eq_getElem?_getD,List.getElem?_eq_getElem h]; rfl
    refine go tt [.t (decide_eq_true (by omega)),.x (Ff hg),.c [] (Qty (hp.getD (by decide) i) hc),.s (sz:=4) (Qlt _)] rfl (by simp [Qa,hol,-List.getD_eq_getElem?_getD]; omega) ?_
    exact rd (i+1) (by omega) h (by rw [Qea,Qc6]; rfl)
  · have e:i=p.length:=by omega
    rw [e]
    exact en tt [.f (decide_eq_false (by omega)),.c [] cc] rfl rfl trivial
theorem Qkw {p:List Rat} (hp:Rb 40000000 p) (hlp:p.length≤1000000):Qc Tryz.prog 253 [.one (rp p)] [.one (rp (Qf9 p))]:=by
  have cs:=Hj (p:=p) (c:=-1) hp ⟨by decide,by decide⟩ hlp
  have co:=Oh (n:=-1) (by decide)
  rw [show ((-1:Int):Rat)=-1 from rfl] at co
  exact w tt Tryz.func253 rfl [.c [] co,.c [] cs] rfl rfl trivial
theorem Q3n {s t:Nat} {a b:Rat} (ha:Qs s a) (hb:Qs t b):Qs (s+t+1) (a*b):=by
  rw [←Qdl]
  unfold Zy
  rw [if_neg (Int.mul_ne_zero (We a) (We b))]
  have h1:=Q0 a.num b.num
  have h2:=Q0 (a.den:Int) (b.den:Int)
  have:=ha.1; have:=ha.2; have:=hb.1; have:=hb.2
  exact Qs.divInt (by omega) (by omega) (by omega)
theorem Qyq {s:Nat} {p:List Rat} (hp:Rb s p):Rb (s+2) (Qf9 p):=by
  unfold Qf9 Vk
  refine Rb.trim (Q4f fun i hi=>?_)
  have h1:Qs (s+0) (p.getD i 0):=by
    have hi:i<p.length:=hi
    rw [List.getD_eq_getElem?_getD,List.getElem?_eq_getElem hi]
    exact hp _ (List.getElem_mem hi)
  have:=Q3n h1 (show Qs 1 (-1:Rat) from ⟨by decide,by decide⟩)
  exact this.mono (by omega)
theorem Qjk (p:List Rat):(Qf9 p).length≤p.length:=by
  unfold Qf9 Vk
  exact Nat.le_trans (Qd3 _) (by rw [Dq]; exact Nat.le_refl _)
theorem Q6s {p q:List Rat} (hp:Rb 19000000 p) (hq:Rb 19000000 q) (hlp:p.length≤1000000) (hlq:q.length≤1000000):Qc Tryz.prog 208 [.one (rp p),.one (rp q)] [.one (rp (Qy3 p q))] :=
  w tt Tryz.func208 rfl [.c [] (Qkw (hq.mono (by decide)) hlq),.c [] (Qu0 (hp.mono (by decide)) ((Qyq hq).mono (by decide)) hlp (Nat.le_trans (Qjk q) hlq))] rfl rfl trivial
end Orr

namespace Orr
open Go Go.Proofs
set_option maxRecDepth 10000
theorem Qtz {a b:Int} (ha:Qn a≤40000000) (hb:Qn b≤40000000):Qc Tryz.prog 279 [.agg (fr (a:Rat)),.agg (fr (b:Rat))] [.agg (fr ((a*b:Int):Rat))]:=by
  have h:=Qty (Uk ha (by decide)) (Uk hb (by decide))
  rw [←Rat.intCast_mul] at h; exact h
theorem Q6e {a b:Int} (ha:Qn a≤20000000) (hb:Qn b≤20000000):Qc Tryz.prog 285 [.agg (fr (a:Rat)),.agg (fr (b:Rat))] [.agg (fr ((a+b:Int):Rat))]:=by
  have h:=Qtn (Uk ha (by decide)) (Uk hb (by decide))
  rw [←Rat.intCast_add] at h; exact h
theorem Qh5 (l:List Int) (i:Nat) (z:Int):(Xl (zp l)).set i (fr (z:Rat))=Xl (zp (l.set i z)):=by simp [Xl,zp,List.map_set]
theorem Q0d {p:List Int} {i:Nat} (h:i<p.length):(zp p)[i]? = some ((p.getD i 0:Int):Rat):=Q0c (Xm h)
theorem Je {p:List Int} {i:Nat} (h:i<p.length):(Xl (zp p))[i]? = some (fr ((p.getD i 0:Int):Rat)):=Ff (Q0d h)
theorem Aw (p:List Int):(Xl (zp p)).length=p.length:=by rw [Jp,Ym]
abbrev zR:List LV:=[.nils,.bool false,.nils,.bool false]
theorem Qe5 {n i:Nat} (h:i<n):(List.replicate i (fr 0)++List.replicate (n-i) zR).set i (fr 0)=List.replicate (i+1) (fr 0)++List.replicate (n-(i+1)) zR:=by
  rw [List.set_append_right _ _ (by simp),List.length_replicate,Nat.sub_self,show n-i=n-(i+1)+1 by omega,List.replicate_succ (n:=n-(i+1)),List.set_cons_zero,List.replicate_succ' (n:=i),List.append_assoc]; rfl
theorem Qbv (n:Nat):List.replicate n (fr 0)++List.replicate (n-n) zR=Xl (zp (List.replicate n 0)):=by simp [zp,Xl]
theorem Qu2 {p q:List Int} {s t:Nat} (hlp:p.length≤1000000) (hlq:q.length≤1000000) (hp:Bd s p) (hq:Bd t q) (hst:s+t≤19000000):Qc Tryz.prog 283 [.one (rp (zp p)),.one (rp (zp q))] [.one (rp (zp (Zt p q)))]:=by
  have hpl:=Aw p
  have hql:=Aw q
  rcases Nat.eq_zero_or_pos p.length with h0 | h0
  · have e:Zt p q=[]:=by unfold Zt; rw [if_pos (.inl h0)]
    rw [e]
    exact w tt Tryz.func283 rfl [.g 12 true (decide_eq_true (by omega)),.t rfl] rfl rfl trivial
  rcases Nat.eq_zero_or_pos q.length with h1 | h1
  · have e:Zt p q=[]:=by unfold Zt; rw [if_pos (.inr h1)]
    rw [e]
    exact w tt Tryz.func283 rfl [.g 12 false (decide_eq_false (by omega)),.t (decide_eq_true (by omega))] rfl rfl trivial
  have e:Zt p q=trim (Kn p q (List.replicate (p.length+q.length-1) 0) p.length):=by unfold Zt; rw [if_neg (by omega)]
  rw [e]
  obtain ⟨N,hN⟩:∃ N,N=p.length+q.length-1:=⟨_,rfl⟩
  rw [←hN]
  obtain ⟨o,ho⟩:∃ o,o=List.replicate N (0:Int):=⟨_,rfl⟩
  rw [←ho]
  have hol:o.length=N:=by rw [ho]; simp
  have ho0:∀ m,o.getD m 0=0:=fun m=>by rw [ho]; exact Jz N m
  have cc:=Sj (p:=zp (Kn p q o p.length))
  rw [K0] at cc
  refine Z1 Tryz.func283 rfl ?_
  refine go tt [.g 12 false (decide_eq_false (by omega)),.f (decide_eq_false (by omega)),.r 22 (eI (b:=(N:Int)) (by omega)),.i N,.i N,.r 25 (eI (b:=(N:Int)) (by simp))] rfl (by simp [Qa]; omega) ?_
  refine lp (S:=Nat) 1 (fun L1 i=>(26,.v (.one (.int .i64 (i:Int))))::L1) (fun i=>[.row false 49 4 (List.replicate i (fr 0)++List.replicate (N-i) zR)]) (fun i=>N-i) (fun i=>i≤N) 0 (Nat.zero_le _) rfl (fun _ _=>rfl) rfl fun i hi=>?_
  by_cases hlt:i<N
  · refine go tt [.t (decide_eq_true (by omega)),.c [] Qup,.i i] rfl (by simp [Qa]; omega) ?_
    rw [Qe5 hlt]
    exact rd (i+1) (by omega) hlt rfl
  have hiN:i=N:=by omega
  rw [hiN,Qbv,←ho]
  clear hiN hlt hi
  refine go tt [.f (decide_eq_false (by omega))] rfl trivial ?_
  refine lp (S:=Nat) 1 (fun L1 i=>(36,.v (.one (.int .i64 (i:Int))))::L1) (fun i=>[.row false 49 4 (Xl (zp (Kn p q o i)))]) (fun i=>p.length-i) (fun i=>i≤p.length) 0 (Nat.zero_le _) rfl (fun _ _=>rfl) rfl fun i hi=>?_
  by_cases hlt:i<p.length
  · refine go tt [.t (decide_eq_true (by omega))] rfl trivial ?_
    refine lp (S:=Nat) 1 (fun L1 k=>(41,.v (.one (.int .i64 (k:Int))))::L1) (fun k=>[.row false 49 4 (Xl (zp (Hx (p.getD i 0) q i (Kn p q o i) k)))]) (fun k=>q.length-k) (fun k=>k≤q.length) 0 (Nat.zero_le _) rfl (fun _ _=>rfl) rfl fun k hk=>?_
    by_cases hk2:k<q.length
    · have hm1:Qn ((Hx (p.getD i 0) q i (Kn p q o i) k).getD (i+k) 0)≤20000000:=Nat.le_trans (Gz (t:=39) (Qfo (by rw [Ko]; omega) (Qfn (fun j hj=>by omega) ho0 (fun i j=>Vq (Qq hp i) (Qq hq j))) (fun j=>Vq (Qq hp i) (Qq hq j)) (i+k)) (Nat.lt_of_lt_of_eq (show i+1<549755813888 by omega) (by decide))) (by omega)
      have hm2:Qn (p.getD i 0*q.getD k 0)≤20000000:=Nat.le_trans (Q0 _ _) (by have:=Qq hp i; have:=Qq hq k; omega)
      have hml:(Hx (p.getD i 0) q i (Kn p q o i) k).length=N:=by rw [Hy,Ko,hol]
      have cm:=Qtz (a:=p.getD i 0) (b:=q.getD k 0) (Nat.le_trans (Qq hp i) (by omega)) (Nat.le_trans (Qq hq k) (by omega))
      have hfl:=Aw (Hx (p.getD i 0) q i (Kn p q o i) k)
      refine go tt [.t (decide_eq_true (by omega)),.i (i+k),.x (Je (p:=Hx (p.getD i 0) q i (Kn p q o i) k) (i:=i+k) (by omega)),.x (Je hlt),.x (Je hk2),.c [] cm,.c [] (Q6e hm1 hm2),.i (i+k)] rfl (by simp [Qa,hfl,-List.getD_eq_getElem?_getD] <;> omega) ?_
      rw [Qh5]
      exact rd (k+1) (by omega) hk2 rfl
    · obtain rfl:k=q.length:=by omega
      exact go tt [.f (decide_eq_false (by omega))] rfl (by simp [Qa]; omega) (rd (i+1) (by omega) hlt rfl)
  · obtain rfl:i=p.length:=by omega
    exact en tt [.f (decide_eq_false (by omega)),.c [] cc] rfl rfl trivial
def Qhz (p:List Int) (n:Nat):List Int:=(List.range n).map fun k=>p.getD (k+1) 0*((k+1:Nat):Int)
theorem Qv0 (p:List Int) (n:Nat):(Qhz p n).length=n:=by simp [Qhz]
theorem Qrw (p:List Int) (n:Nat):Qhz p (n+1)=Qhz p n++[p.getD (n+1) 0*((n+1:Nat):Int)]:=by simp [Qhz,List.range_succ]
theorem Qgy (p:List Int) (z:Int):Xl (zp (p++[z]))=Xl (zp p)++[fr (z:Rat)]:=by simp [Xl,zp]
theorem Qku {p:List Int} (hp:Bd 40000000 p) (hl:p.length≤1000000):Qc Tryz.prog 252 [.one (rp (zp p))] [.one (rp (zp (Zj p)))]:=by
  have hpl:=Aw p
  have cc:=Sj (p:=zp (Qhz p (p.length-1)))
  rw [K0] at cc
  refine Z1 Tryz.func252 rfl ?_
  refine go tt [.o 3 49 4] rfl trivial ?_
  refine lp (S:=Nat) 1 (fun L1 j=>(4,.v (.one (.int .i64 ((j+1:Nat):Int))))::(3,.v (.one (.orow 0 4 none)))::L1) (fun j=>[.row false 49 4 (Xl (zp (Qhz p j)))]) (fun j=>p.length-j) (fun j=>j≤p.length-1) 0 (Nat.zero_le _) rfl (fun _ _=>rfl) rfl fun j hj=>?_
  have hfl:=Aw (Qhz p j)
  rw [Qv0] at hfl
  by_cases h:j+1<p.length
  · have hk:Qn ((j+1:Nat):Int)≤40000000:=Nat.le_trans (Qff (t:=38) (k:=j+1) (Nat.lt_of_lt_of_eq (show j+1<274877906944 by omega) (by decide))) (by decide)
    refine go tt [.t (decide_eq_true (by omega)),.x (Je h),.c [] (Oh (n:=((j+1:Nat):Int)) (by omega)),.c [] (Qtz (Qq hp (j+1)) hk),.s (sz:=4) (Qlt _)] rfl (by simp [Qa,hfl,-List.getD_eq_getElem?_getD] <;> omega) ?_
    exact rd (j+1) (by omega) (by omega) (by rw [Qrw,Qgy]; rfl)
  · have e:j=p.length-1:=by omega
    rw [e]
    exact en tt [.f (decide_eq_false (by omega)),.c [] cc] rfl rfl trivial
theorem Q69 (z:Int):fr (z:Rat)=[nd z.natAbs,sg z,.row [[.int .i64 1]],.bool false]:=by
  have e:Qz 1=[1]:=by rw [Rv (by decide),show 1 / 10000=0 from rfl,Z3]
  show [nd z.natAbs,sg z,nd 1,sg 1]=_
  unfold nd dl
  rw [e]; rfl
theorem Qu4 {p:List Int} (hl:p.length≤1000000):Qc Tryz.prog 345 [.one (rp (zp p))] [.one (.bool true)]:=by
  have hpl:=Aw p
  refine Z1 Tryz.func345 rfl ?_
  refine go tt [] rfl trivial ?_
  refine lp (S:=Nat) 0 (fun L1 i=>(6,.v (.one (.int .i64 (i:Int))))::L1) (fun _=>[]) (fun i=>p.length-i) (fun i=>i≤p.length) 0 (Nat.zero_le _) rfl (fun _ _=>rfl) rfl fun i hi=>?_
  by_cases h:i<p.length
  · have hg:=Je h
    rw [Q69] at hg
    refine go tt [.t (decide_eq_true (by omega)),.x hg,.g 17 false rfl,.x hg,.x (l:=[[.int .i64 1]]) (i:=0) (xs:=[.int .i64 1]) rfl,.f rfl] rfl (by simp [Qa]; omega) ?_
    exact rd (i+1) (by omega) h rfl
  · exact en tt [.f (decide_eq_false (by omega))] rfl rfl trivial
theorem Qp6:[LV.nils,LV.bool false].map Ay=ri 0:=by
  show _=[nd 0,sg 0]
  unfold nd dl
  rw [Z3]; rfl
theorem Ql3 (p:List Int) (q:Rat):Int.sign (Vf p q.num q.den p.length).1=Z0 p q:=by
  unfold Z0 Q3l Kd
  generalize (Vf p q.num q.den p.length).1=z
  rcases Int.lt_trichotomy z 0 with h | h | h
  · rw [if_pos h,Int.sign_eq_neg_one_of_neg h]
  · subst h; rfl
  · rw [if_neg (by omega),if_pos h,Int.sign_eq_one_of_pos h]
theorem Qn0 {p:List Int} {q:Rat} (hp:Bd 30000000 p) (hl:p.length≤64) (hq:Qs 1000000 q):Qc Tryz.prog 338 [.one (rp (zp p)),.agg (fr q)] [.one (.int .i64 (Z0 p q))]:=by
  have hpl:=Aw p
  refine Z1 Tryz.func338 rfl ?_
  refine go tt [.c [] (Qu4 (p:=p) (by omega)),.f rfl,.c [] (W3 (n:=1) (by decide)),.r 19 (eI (b:=(p.length:Int)-1-((0:Nat):Int)) (by simp; omega))] rfl (by simp [Qa]; omega) ?_
  refine nlb 1 rfl rfl rfl ?_
  rw [Qp6]
  refine lp (S:=Nat) 3 (fun L1 j=>(7,.v (.one (.int .i64 ((p.length:Int)-1-(j:Int)))))::L1) (fun j=>[.blk 49 (fr q),.blk 47 (ri (Vf p q.num q.den j).1),.blk 47 (ri (Vf p q.num q.den j).2)]) (fun j=>p.length-j) (fun j=>j≤p.length) 0 (Nat.zero_le _) rfl (fun _ _=>rfl) rfl fun j hj=>?_
  have hv:=Qgs (k:=j) hp hq.1 hq.2
  have hjl:j*(1000000+1)≤p.length*(1000000+1):=Nat.mul_le_mul_right _ (by omega)
  by_cases h:j<p.length
  · have hc:=Qq hp (p.length-1-j)
    have hq1:=hq.1
    have hq2:=hq.2
    have hm1:Qn ((Vf p q.num q.den j).1*q.num)≤200000000:=Nat.le_trans (Q0 _ _) (by omega)
    have hm2:Qn (p.getD (p.length-1-j) 0*(Vf p q.num q.den j).2)≤200000000:=Nat.le_trans (Q0 _ _) (by omega)
    refine go tt [.t (decide_eq_true (by omega)),.c [] (Yj (a:=(Vf p q.num q.den j).1) (b:=q.num) (by omega) (by omega)),.r 29 (eI (b:=((p.length-1-j:Nat):Int)) (by omega)),.x (Je (p:=p) (i:=p.length-1-j) (by omega)),.c [] (Yj (a:=p.getD (p.length-1-j) 0) (b:=(Vf p q.num q.den j).2) (by omega) (by omega)),.c [] (Qkr hm1 hm2),.c [] (Yj (a:=(Vf p q.num q.den j).2) (b:=(q.den:Int)) (by omega) (by omega)),.r 23 (eI (b:=(p.length:Int)-1-((j+1:Nat):Int)) (by omega))] rfl (by simp [Qa] <;> omega) ?_
    exact rd (j+1) (by omega) h rfl
  · obtain rfl:j=p.length:=by omega
    exact en tt [.f (decide_eq_false (by omega)),.c [] Qnv] rfl (by rw [Ql3]) trivial
end Orr

namespace Orr
def Zc (p:List Int):Int:=p.getD (p.length-1) 0
def Pz (a b:List Int):Int:=if Zc b<0 then -(Zc a) else Zc a
def G7 (a b:List Int) (i:Nat):Int:=a.getD i 0*((Zc b).natAbs:Int)-(if a.length-b.length≤i then Pz a b*b.getD (i-(a.length-b.length)) 0 else 0)
def Qd1 (a b:List Int):List Int:=Vi a.length (G7 a b)
inductive RRun (b:List Int):Nat→List Int→List Int→Prop
  | stop {a:List Int}:a.length<b.length→RRun b 0 a a
  | step {k:Nat} {a r:List Int}:b.length≤a.length→a.length≤1000→Bd 9000000 a→Bd 9000000 b→RRun b k (Qd1 a b) r→RRun b (k+1) a r
def Hl (p:List Int):Nat→Nat
  | 0=>0
  | i+1=>Int.gcd (Hl p i:Nat) (p.getD i 0)
def M7 (p:List Int):Nat:=Hl p p.length
theorem Lj (p:List Int):∀ {i j:Nat},j<i→((Hl p i:Nat):Int)∣p.getD j 0
  | 0,_,h=>absurd h (Nat.not_lt_zero _)
  |
   i+1,j,h=>by
   simp only [Hl]
   rcases Nat.lt_or_ge j i with h1 | h1
   · exact Int.dvd_trans (Int.gcd_dvd_left ..) (Lj p h1)
   · rw [show j=i by omega]; exact Int.gcd_dvd_right ..
theorem Qhm (p:List Int) (j:Nat):((M7 p:Nat):Int)∣p.getD j 0:=by
  rcases Nat.lt_or_ge j p.length with h | h
  · exact Lj p h
  · rw [List.getD_eq_getElem?_getD,List.getElem?_eq_none h]; exact Int.dvd_zero _
theorem Sl {s:Nat} {p:List Int} (h:Bd s p):∀ i,Qn ((Hl p i:Nat):Int)≤s
  | 0=>by simp [Hl,Vo]
  |
   i+1=>by
   simp only [Hl]
   by_cases h0:p.getD i 0=0
   · rw [h0,Int.gcd_zero_right]; exact Sl h i
   · have h1:=Int.gcd_dvd_right (Hl p i:Nat) (p.getD i 0)
     have h2:(Int.gcd (Hl p i:Nat) (p.getD i 0))≤(p.getD i 0).natAbs:=Nat.le_of_dvd (by omega) (by simpa using Int.natAbs_dvd_natAbs.2 h1)
     have h3:=Qq h i
     rw [J0] at h3 ⊢
     simp only [Int.natAbs_natCast]
     omega
theorem Qrm {p:List Int} {j i:Nat} (hj:j<i) (h:p.getD j 0≠0):0<Hl p i:=by
  have:=Lj p hj
  rcases Nat.eq_zero_or_pos (Hl p i) with h0 | h0
  · rw [h0] at this
    exact absurd (Int.zero_dvd.1 this) h
  · exact h0
theorem Qhn {p:List Int} (ht:Qk p) (h:0<p.length):0<M7 p:=Qrm (j:=p.length-1) (by omega) (Xc ht h)
def V5 (p:List Int):Int:=if Zc p<0 then -((M7 p:Nat):Int) else ((M7 p:Nat):Int)
def Xv (p:List Int):List Int:=Vi p.length fun i=>p.getD i 0 / V5 p
def Vj (p:List Int):List Int:=if Zc p<0 then Y9 (Xv p) else Xv p
theorem Qry (p:List Int) (j:Nat):V5 p∣p.getD j 0:=by
  unfold V5
  split
  · exact Int.neg_dvd.2 (Qhm p j)
  · exact Qhm p j
theorem Qwc {p:List Int} (ht:Qk p) (h:0<p.length):V5 p≠0:=by
  have:=Qhn ht h
  unfold V5
  split <;> omega
theorem Qcv {s:Nat} {p:List Int} (h:Bd s p):Qn (V5 p)≤s:=by
  unfold V5
  split
  · rw [Z8]; exact Sl h _
  · exact Sl h _
theorem Qmi {p:List Int} {c:Int} (hc:c≠0) (hd:∀ j,c∣p.getD j 0):Vk (zp p) (1 / (c:Rat))=zp (Vi p.length fun i=>p.getD i 0 / c):=by
  unfold Vk Vi
  rw [I4 (g:=fun i=>p.getD i 0 / c) _ fun i _=>?_,K0,Ym]
  obtain ⟨k,hk⟩:=hd i
  have hc':(c:Rat)≠0:=fun e=>hc (by exact_mod_cast e)
  rw [D4,hk,Int.mul_ediv_cancel_left _ hc,Rat.intCast_mul]
  grind
theorem Oc {s:Nat} {p:List Int} (h:Bd s p):Bd s (Xv p):=Mb fun i _=>Nat.le_trans (S7 _ _) (Qq h i)
theorem Ec (p:List Int):(Xv p).length≤p.length:=Hn _ _
theorem Qqw {s:Nat} {p:List Int} (h:Bd s p):Bd s (Vj p):=by
  unfold Vj
  split
  · exact A8 (Oc h)
  · exact Oc h
theorem Qlg (p:List Int):(Vj p).length≤p.length:=by
  unfold Vj
  split
  · exact Nat.le_trans (S9 _) (Ec p)
  · exact Ec p
inductive GRun:Nat→List Int→List Int→List Int→Prop
  | stop (a:List Int):GRun 0 a [] a
  | step {k m:Nat} {a b r g:List Int}:0<b.length→b.length≤1000→Bd 9000000 b→RRun b m a r→r.length≤1000→Bd 9000000 r→Qk r→GRun k b (Xv r) g→GRun (k+1) a b g
theorem GRun.inv {k:Nat} {a b g:List Int} (h:GRun k a b g):(k=0∧b.length=0∧a=g)∨∃ j m r,k=j+1∧0<b.length∧b.length≤1000∧Bd 9000000 b∧RRun b m a r∧r.length≤1000∧Bd 9000000 r∧Qk r∧GRun j b (Xv r) g:=by
  cases h with
  | stop=>exact .inl ⟨rfl,rfl,rfl⟩
  | step h1 h2 h3 h4 h5 h6 h7 h8=>exact .inr ⟨_,_,_,rfl,h1,h2,h3,h4,h5,h6,h7,h8⟩
def Fw (k:Nat) (p:List Int):List Int:=List.replicate k 0++p
theorem Qml (k:Nat) (p:List Int):(Fw k p).length=k+p.length:=by simp [Fw]
theorem Qqx {s k:Nat} {p:List Int} (h:Bd s p):Bd s (Fw k p):=fun z hz=>by
  rcases List.mem_append.1 hz with h1 | h1
  · rw [List.eq_of_mem_replicate h1,Vo]; exact Nat.zero_le _
  · exact h z h1
inductive DRun (b:List Int):Nat→List Int→List Int→List Int→List Int→Prop
  | stop {a q:List Int}:a.length<b.length→DRun b 0 a q q a
  | step {k:Nat} {a q qf r:List Int}:b.length≤a.length→a.length≤1000→Bd 9000000 a→Zc b≠0→Zc b∣Zc a→a.length-b.length<q.length →
      DRun b k (Vz a (Fw (a.length-b.length) (Qx b (Zc a / Zc b)))) (q.set (a.length-b.length) (Zc a / Zc b)) qf r→DRun b (k+1) a q qf r
theorem DRun.inv {b a q qf r:List Int} {k:Nat} (h:DRun b k a q qf r):(k=0∧q=qf∧a=r∧a.length<b.length)∨∃ j,k=j+1∧b.length≤a.length∧a.length≤1000∧Bd 9000000 a∧Zc b≠0∧Zc b∣Zc a∧a.length-b.length<q.length ∧
    DRun b j (Vz a (Fw (a.length-b.length) (Qx b (Zc a / Zc b)))) (q.set (a.length-b.length) (Zc a / Zc b)) qf r:=by
  cases h with
  | stop h=>exact .inl ⟨rfl,rfl,rfl,h⟩
  | step h1 h2 h3 h4 h5 h6 h7=>exact .inr ⟨_,rfl,h1,h2,h3,h4,h5,h6,h7⟩
def Vg (l:List (List Int)):List Int:=l.getD (l.length-1) []
inductive LRun:Nat→List (List Int)→List (List Int)→Prop
  | stop {l:List (List Int)}:(Vg l).length≤1→LRun 0 l l
  | step {k m:Nat} {l f:List (List Int)} {g:List Int}:1<(Vg l).length→(Vg l).length≤1000→Qk (Vg l)→Bd 9000000 (Vg l)→Bd 9000000 (Zj (Vg l))→GRun m (Xv (Vg l)) (Xv (Zj (Vg l))) g→l.length≤1000→LRun k (l++[g]) f→LRun (k+1) l f
theorem LRun.inv {k:Nat} {l f:List (List Int)} (h:LRun k l f):(k=0∧l=f∧(Vg l).length≤1)∨∃ j m g,k=j+1∧1<(Vg l).length∧(Vg l).length≤1000∧Qk (Vg l)∧Bd 9000000 (Vg l)∧Bd 9000000 (Zj (Vg l))∧GRun m (Xv (Vg l)) (Xv (Zj (Vg l))) g∧l.length≤1000∧LRun j (l++[g]) f:=by
  cases h with
  | stop h=>exact .inl ⟨rfl,rfl,h⟩
  | step h1 h2 h3 h4 h5 h6 h7 h8=>exact .inr ⟨_,_,_,rfl,h1,h2,h3,h4,h5,h6,h7,h8⟩
def DOk (a b q:List Int):Prop:=0<b.length∧b.length≤1000∧a.length≤1000∧Bd 9000000 b∧∃ qf r n,Bd 9000000 qf∧qf.length≤1000∧DRun b n a (List.replicate (a.length+1-b.length) 0) qf r∧q=trim qf
theorem DOk.bd {a b q:List Int} (h:DOk a b q):Bd 9000000 q:=by
  obtain ⟨_,_,_,_,qf,r,n,h1,_,_,rfl⟩:=h
  exact Jk h1
theorem DOk.len {a b q:List Int} (h:DOk a b q):q.length≤1000:=by
  obtain ⟨_,_,_,_,qf,r,n,_,h1,_,rfl⟩:=h
  exact Nat.le_trans (Xf _) h1
theorem DOk.trim {a b q:List Int} (h:DOk a b q):Qk q:=by
  obtain ⟨_,_,_,_,qf,r,n,_,_,_,rfl⟩:=h
  exact Xt _
def Q89 (a b c f:List Int):Prop:=∃ x y z,DOk a b x∧DOk b c y∧DOk (Xv x) (Xv y) z∧f=Xv z
structure FRun (a:List Int) (m:Nat) (f:Nat→List Int):Prop where
  run:∃ n l,LRun n [Xv a] l∧l.length=m+1∧∀ k,k<m→Q89 ((l++[[1]]).getD k []) ((l++[[1]]).getD (k+1) []) ((l++[[1]]).getD (k+2) []) (f k)
  small:m≤1000
def Qbs (f:Nat→List Int) (n:Nat):List (List Int):=(List.range n).map f
theorem Qjs (f:Nat→List Int) (n:Nat):(Qbs f n).length=n:=by simp [Qbs]
theorem Qsz (f:Nat→List Int) (n:Nat):Qbs f (n+1)=Qbs f n++[f n]:=by simp [Qbs,List.range_succ]
theorem Qzv {f:Nat→List Int} {n i:Nat} (h:i<n):(Qbs f n)[i]? = some (f i):=by simp [Qbs,List.getElem?_range h]
theorem Qlb {l:List (List Int)} {i:Nat} (h:i<l.length):l[i]? = some (l.getD i []):=by
  rw [List.getD_eq_getElem?_getD,List.getElem?_eq_getElem h]; rfl
def H6 (f:Nat→List Int):Nat→List Int
  | 0=>[1]
  | i+1=>Zt (H6 f i) (f i)
def Q88 (m:Nat) (f:Nat→List Int):Prop:=∀ i,i<m→Bd 9000000 (H6 f i)∧(H6 f i).length≤1000∧Bd 9000000 (f i)∧(f i).length≤1000
inductive CRun:Nat→List (List Int)→List Int→List (List Int)→Prop
  | stop {l:List (List Int)} {g:List Int}:g.length=0→CRun 0 l g l
  | step {k m:Nat} {l f:List (List Int)} {g r:List Int}:0<g.length→g.length≤1000→Bd 9000000 g→RRun g m (Vg l) r→Qk r→Bd 9000000 r→r.length≤1000→0<l.length→l.length≤1000→CRun k (l++[g]) (Y9 (Vj r)) f→CRun (k+1) l g f
theorem CRun.inv {k:Nat} {l f:List (List Int)} {g:List Int} (h:CRun k l g f):(k=0∧l=f∧g.length=0)∨∃ j m r,k=j+1∧0<g.length∧g.length≤1000∧Bd 9000000 g∧RRun g m (Vg l) r∧Qk r∧Bd 9000000 r∧r.length≤1000∧0<l.length∧l.length≤1000∧CRun j (l++[g]) (Y9 (Vj r)) f:=by
  cases h with
  | stop h=>exact .inl ⟨rfl,rfl,h⟩
  | step h1 h2 h3 h4 h5 h6 h7 h8 h9 h10=>exact .inr ⟨_,_,_,rfl,h1,h2,h3,h4,h5,h6,h7,h8,h9,h10⟩
structure ChRun (a:List Int) (sq:List Int) (c:List (List Int)):Prop where
  fac:∃ m f,FRun a m f∧Q88 m f∧sq=H6 f m
  Hk:∃ n,CRun n [sq] (Vj (Zj sq)) c
  bd:Bd 8000000 sq
  len:sq.length≤1000
  small:c.length≤1000
def Qm5 (q:Rat) (c:List (List Int)):Prop:=∃ sq,ChRun [-q.num,(q.den:Int)] sq c
end Orr

namespace Orr
open Go Go.Proofs
set_option maxRecDepth 10000
theorem RRun.inv {b a r:List Int} {k:Nat} (h:RRun b k a r):(k=0∧a=r∧a.length<b.length)∨(∃ j,k=j+1∧b.length≤a.length∧a.length≤1000∧Bd 9000000 a∧Bd 9000000 b∧RRun b j (Qd1 a b) r):=by
  cases h with
  | stop h=>exact .inl ⟨rfl,rfl,h⟩
  | step h1 h2 h3 h4 h5=>exact .inr ⟨_,rfl,h1,h2,h3,h4,h5⟩
theorem Q3x {a b:List Int} (ha:Bd 9000000 a):Qn (Pz a b)≤9000000:=by
  unfold Pz; split
  · rw [Z8]; exact Qq ha _
  · exact Qq ha _
theorem Q3t (n:Nat):ri (n:Int)=[nd n,.bool false]:=by
  show [nd n,sg (n:Int)]=_
  unfold sg
  rw [decide_eq_false (by omega)]
def Qgb (a b:List Int) (n:Nat):List Int:=(List.range n).map (G7 a b)
theorem Qy4 (a b:List Int) (n:Nat):(Qgb a b n).length=n:=by simp [Qgb]
theorem Qd2 (a b:List Int) (n:Nat):Qgb a b (n+1)=Qgb a b n++[G7 a b n]:=by simp [Qgb,List.range_succ]
theorem Qn2 {a0 b res:List Int} {n:Nat} (hb0:0<b.length) (hb1:b.length≤1000) (hbb0:Bd 9000000 b) (hrun:RRun b n a0 res):Qc Tryz.prog 254 [.one (rp (zp a0)),.one (rp (zp b))] [.one (rp (zp res))]:=by
  have hbl:=Aw b
  have hle:Qn (((Zc b).natAbs:Nat):Int)≤9000000:=Qq hbb0 _
  refine Z1 Tryz.func254 rfl ?_
  refine go tt [.r 15 (eI (b:=((b.length-1:Nat):Int)) (by omega)),.x (Je (p:=b) (i:=b.length-1) (by omega))] rfl (by simp [Qa]; omega) ?_
  refine sb [(0,.v (.one (rp (zp a0)))),(1,.v (.one (rp (zp b)))),(5,.v (.one (.ow 0 0))),(6,.v (.one (.ow 1 0)))] [.blk 47 (ri (Zc b)),.blk 47 [nd (Zc b).natAbs,.bool false]] rfl rfl ?_
  refine lp (S:=Nat×List Int) 2 (fun L1 s=>(0,.v (.one (rp (zp s.2))))::L1) (fun _=>[.blk 47 (ri (Zc b)),.blk 47 [nd (Zc b).natAbs,.bool false]]) (fun s=>s.1) (fun s=>RRun b s.1 s.2 res) (n,a0) hrun rfl (fun _ _=>rfl) rfl fun ⟨k,a⟩ hs=>?_
  have hal:=Aw a
  have hs:RRun b k a res:=hs
  rcases RRun.inv hs with ⟨rfl,rfl,h1⟩ | ⟨j,rfl,h1,h2,ha,hb,hr⟩
  · exact en tt [.f (decide_eq_false (by dsimp only; omega))] rfl rfl trivial
  obtain ⟨K,hK⟩:∃ K,K=a.length-b.length:=⟨_,rfl⟩
  have htb:=Q3x (b:=b) ha
  have cc:=Sj (p:=zp (Qgb a b a.length))
  rw [K0,show trim (Qgb a b a.length)=Qd1 a b from rfl] at cc
  refine go tt [.t (decide_eq_true (by dsimp only; omega)),.r 30 (eI (b:=(K:Int)) (by dsimp only; omega)),.r 34 (eI (b:=((a.length-1:Nat):Int)) (by dsimp only; omega)),.x (Je (p:=a) (i:=a.length-1) (by omega))] rfl (by simp [Qa]; omega) ?_
  refine ct 1 (S:=Unit) (fun _=>[(0,.v (.one (rp (zp a)))),(1,.v (.one (rp (zp b)))),(5,.v (.one (.ow 0 0))),(6,.v (.one (.ow 1 0))),(7,.v (.one (.int .i64 (K:Int)))),(8,.v (.one (.ow 2 0)))]) (fun _=>[.blk 47 (ri (Zc b)),.blk 47 [nd (Zc b).natAbs,.bool false],.blk 47 (ri (Pz a b))]) (fun _=>True) rfl ?_ (fun _ _=>?_)
  · by_cases hn:Zc b<0
    · have e:Pz a b=-(Zc a):=if_pos hn
      rw [e]
      exact go tt [.t (decide_eq_true hn),.c [] (Rp (z:=Zc a))] rfl trivial (rc () trivial rfl)
    · have e:Pz a b=Zc a:=if_neg hn
      rw [e]
      exact go tt [.f (decide_eq_false hn)] rfl trivial (rc () trivial rfl)
  refine go tt [.o 9 49 4] rfl trivial ?_
  refine lp (S:=Nat) 4 (fun L1 i=>(44,.v (.one (.int .i64 (i:Int))))::(9,.v (.one (.orow 3 4 none)))::L1) (fun i=>[.blk 47 (ri (Zc b)),.blk 47 [nd (Zc b).natAbs,.bool false],.blk 47 (ri (Pz a b)),.row false 49 4 (Xl (zp (Qgb a b i)))]) (fun i=>a.length-i) (fun i=>i≤a.length) 0 (Nat.zero_le _) rfl (fun _ _=>rfl) rfl fun i hi=>?_
  have hfl:=Aw (Qgb a b i)
  rw [Qy4] at hfl
  by_cases h:i<a.length
  · have cm:=Yj (a:=a.getD i 0) (b:=(((Zc b).natAbs:Nat):Int)) (Nat.le_trans (Qq ha i) (by decide)) (by omega)
    have hm:=Q0 (a.getD i 0) (((Zc b).natAbs:Nat):Int)
    have hai:=Qq ha i
    rw [Q3t (Zc b).natAbs] at cm
    by_cases hk:K≤i
    · have hbi:=Qq hb (i-K)
      have hm2:=Q0 (Pz a b) (b.getD (i-K) 0)
      have e:G7 a b i=a.getD i 0*(((Zc b).natAbs:Nat):Int)-Pz a b*b.getD (i-K) 0:=by unfold G7; rw [if_pos (by omega),hK]
      refine go tt [.t (decide_eq_true (by omega)),.x (Je h),.c [] cm,.t (decide_eq_true (by omega)),.r 62 (eI (b:=((i-K:Nat):Int)) (by omega)),.x (Je (p:=b) (i:=i-K) (by omega)),.c [] (Yj (a:=Pz a b) (b:=b.getD (i-K) 0) (by omega) (by omega)),.c [] (Quq (by omega) (by omega)),.c [] (W3 (n:=1) (by decide)),.c [] (Vm (n:=a.getD i 0*(((Zc b).natAbs:Nat):Int)-Pz a b*b.getD (i-K) 0)),.s (sz:=4) (Qlt _)] rfl (by simp [Qa,hfl,-List.getD_eq_getElem?_getD] <;> omega) ?_
      exact rd (i+1) (by omega) h (by rw [Qd2,Qgy,e]; rfl)
    · have e:G7 a b i=a.getD i 0*(((Zc b).natAbs:Nat):Int):=by unfold G7; rw [if_neg (by omega),Int.sub_zero]
      refine go tt [.t (decide_eq_true (by omega)),.x (Je h),.c [] cm,.f (decide_eq_false (by omega)),.c [] (W3 (n:=1) (by decide)),.c [] (Vm (n:=a.getD i 0*(((Zc b).natAbs:Nat):Int))),.s (sz:=4) (Qlt _)] rfl (by simp [Qa,hfl,-List.getD_eq_getElem?_getD] <;> omega) ?_
      exact rd (i+1) (by omega) h (by rw [Qd2,Qgy,e]; rfl)
  · have e:i=a.length:=by omega
    rw [e]
    exact go tt [.f (decide_eq_false (by omega)),.c [] cc] rfl trivial (rd (j,Qd1 a b) (by omega) hr rfl)
theorem Q6q:Qc Tryz.prog 47 [.agg (ri 1),.agg (ri 1)] [.agg (ri 1)]:=Yj (a:=1) (b:=1) (by decide) (by decide)
theorem Q1m:Qc Tryz.prog 141 [.agg (ri 1),.agg (ri 1)] [.agg (ri 1)]:=On (a:=1) (b:=1) (by decide) (by decide)
theorem Q01 {z:Int} (hz:Qn z≤90000000):Qc Tryz.prog 47 [.agg (ri z),.agg (ri 1)] [.agg (ri z)]:=by
  have h:=Yj (a:=z) (b:=1) (by omega) (by decide)
  rwa [Int.mul_one] at h
theorem Qnl {z:Int} (hz:Qn z≤90000000):Qc Tryz.prog 142 [.agg (ri z),.agg (ri 1)] [.agg (ri z)]:=by
  have h:=Lf (a:=z) (b:=1) hz (by decide) (by decide) (Int.emod_one z)
  rwa [Int.ediv_one] at h
theorem Qt0 {z:Int}:Qc Tryz.prog 206 [.agg (fr (z:Rat))] [.agg (fr ((-z:Int):Rat))]:=by
  have h:=Q6i (a:=(z:Rat))
  rwa [←Rat.intCast_neg] at h
theorem Q72 {c:Int} (hc:c≠0) (hs:Qn c≤9000000):Qs 40000000 (((1:Int):Rat) / (c:Rat)):=by
  have h0:(c:Rat)≠0:=fun e=>hc (by exact_mod_cast e)
  rw [←Qdv h0]
  unfold Zy
  rw [if_neg (Int.mul_ne_zero (We _) (fun e=>hc (by simpa using e)))]
  refine Qs.divInt (by show Qn (1*1)≤_; decide) ?_ (by decide)
  show Qn (1*c)≤_
  rw [Int.one_mul]; omega
theorem Qko {p:List Int} {c:Int} (hc:c≠0) (hs:Qn c≤9000000) (hd:∀ j,c∣p.getD j 0) (hp:Bd 9000000 p) (hl:p.length≤1000):Qc Tryz.prog 248 [.one (rp (zp p)),.agg (fr (((1:Int):Rat) / (c:Rat)))] [.one (rp (zp (Vi p.length fun i=>p.getD i 0 / c)))]:=by
  have h:=Hj ((Nh hp (by omega)).mono (by omega)) (Q72 hc hs) (by rw [Ym]; omega)
  rwa [show ((1:Int):Rat)=1 from rfl,Qmi hc hd] at h
theorem Rr {p:List Int} (tp:Qk p) (hp:Bd 9000000 p) (hl:p.length≤1000):Qc Tryz.prog 284 [.one (rp (zp p))] [.agg (fr ((V5 p:Int):Rat)),.one (rp (zp (Xv p)))]:=by
  have hpl:=Aw p
  rcases Nat.eq_zero_or_pos p.length with h0 | h0
  · have e:=List.eq_nil_of_length_eq_zero h0
    subst e
    exact w tt Tryz.func284 rfl [.t rfl,.c [] Qup] rfl rfl trivial
  have hc:=Qwc tp h0
  refine Z1 Tryz.func284 rfl ?_
  refine go tt [.f (decide_eq_false (by omega)),.c [] (W3 (n:=1) (by decide))] rfl trivial ?_
  refine lp (S:=Nat) 2 (fun L1 i=>(16,.v (.one (.int .i64 (i:Int))))::L1) (fun i=>[.blk 49 [.nils,.bool false,.nils,.bool false],.blk 47 (ri 1)]) (fun i=>p.length-i) (fun i=>i≤p.length) 0 (Nat.zero_le _) rfl (fun _ _=>rfl) rfl fun i hi=>?_
  by_cases h:i<p.length
  · refine go tt [.t (decide_eq_true (by omega)),.x (Je h),.c [] Q6q,.x (Je h),.c [] Q1m,.c [] (Qnl (z:=1) (by decide))] rfl (by simp [Qa]; omega) ?_
    exact rd (i+1) (by omega) h rfl
  refine go tt [.f (decide_eq_false (by omega))] rfl trivial ?_
  clear h hi
  refine nlb 2 rfl rfl rfl ?_
  rw [Qp6]
  refine lp (S:=Nat) 3 (fun L1 i=>(37,.v (.one (.int .i64 (i:Int))))::L1) (fun i=>[.blk 49 [.nils,.bool false,.nils,.bool false],.blk 47 (ri 1),.blk 47 (ri ((Hl p i:Nat):Int))]) (fun i=>p.length-i) (fun i=>i≤p.length) 0 (Nat.zero_le _) rfl (fun _ _=>rfl) rfl fun i hi=>?_
  by_cases h:i<p.length
  · have hb:=Qq hp i
    have hg:=Sl hp i
    refine go tt [.t (decide_eq_true (by omega)),.x (Je h),.c [] (Q01 (z:=p.getD i 0) (by omega)),.x (Je h),.c [] (Qnl (z:=p.getD i 0) (by omega)),.c [] (On (a:=((Hl p i:Nat):Int)) (b:=p.getD i 0) (by omega) (by omega))] rfl (by simp [Qa]; omega) ?_
    exact rd (i+1) (by omega) h rfl
  have e:i=p.length:=by omega
  rw [e]
  have co:=Oh (n:=1) (by decide)
  have cs:=Qko hc (Qcv hp) (Qry p) hp hl
  by_cases hn:Zc p<0
  · have e2:V5 p=-((M7 p:Nat):Int):=if_pos hn
    rw [show (fun i=>p.getD i 0 / V5 p)=fun i=>p.getD i 0 / V5 p from rfl] at cs
    have cn:=Qt0 (z:=((M7 p:Nat):Int))
    rw [←e2] at cn
    exact en tt [.f (decide_eq_false (by omega)),.c [] (Vm (n:=((M7 p:Nat):Int))),.r 62 (eI (b:=((p.length-1:Nat):Int)) (by omega)),.x (Je (p:=p) (i:=p.length-1) (by omega)),.t (decide_eq_true hn),.c [] cn,.c [] co,.c [] (Qkn (a:=((1:Int):Rat)) (b:=((V5 p:Int):Rat)) ⟨by decide,by decide⟩ (Uk (by have:=Qcv hp; omega) (by decide)) (fun e=>hc (by exact_mod_cast e))),.c [] cs] rfl rfl (by simp [Qa]; omega)
  · have e2:V5 p=((M7 p:Nat):Int):=if_neg hn
    have cm:=Vm (n:=V5 p)
    rw [e2] at cm cs hc ⊢
    exact en tt [.f (decide_eq_false (by omega)),.c [] cm,.r 62 (eI (b:=((p.length-1:Nat):Int)) (by omega)),.x (Je (p:=p) (i:=p.length-1) (by omega)),.f (decide_eq_false hn),.c [] co,.c [] (Qkn (a:=((1:Int):Rat)) (b:=((((M7 p:Nat):Int):Int):Rat)) ⟨by decide,by decide⟩ (Uk (by have:=Sl hp p.length; unfold M7; omega) (by decide)) (fun e=>hc (by exact_mod_cast e))),.c [] cs] rfl (by unfold Xv; rw [e2]; rfl) (by simp [Qa]; omega)
theorem Rq {p:List Int} (tp:Qk p) (hp:Bd 9000000 p) (hl:p.length≤1000):Qc Tryz.prog 305 [.one (rp (zp p))] [.one (rp (zp (Xv p)))] :=
  w tt Tryz.func305 rfl [.c [] (Rr tp hp hl)] rfl rfl trivial
theorem Qcw {p:List Int} (tp:Qk p):V5 p<0↔Zc p<0:=by
  unfold V5
  rcases Nat.eq_zero_or_pos p.length with h0 | h0
  · have:=List.eq_nil_of_length_eq_zero h0; subst this; decide
  · have:=Qhn tp h0
    split <;> omega
theorem Quy {p:List Int} (hp:Bd 9000000 p) (hl:p.length≤1000000):Qc Tryz.prog 253 [.one (rp (zp p))] [.one (rp (zp (Y9 p)))]:=by
  have h:=Qkw ((Nh hp (by decide)).mono (by decide)) (by rw [Ym]; exact hl)
  rwa [Qp7] at h
theorem Qhe {p:List Int} (tp:Qk p) (hp:Bd 9000000 p) (hl:p.length≤1000):Qc Tryz.prog 251 [.one (rp (zp p))] [.one (rp (zp (Vj p)))]:=by
  by_cases hn:Zc p<0
  · have e:Vj p=Y9 (Xv p):=if_pos hn
    rw [e]
    exact w tt Tryz.func251 rfl [.c [] (Rr tp hp hl),.t (decide_eq_true ((Qcw tp).2 hn)),.c [] (Quy (Oc hp) (Nat.le_trans (Ec p) (by omega)))] rfl rfl trivial
  · have e:Vj p=Xv p:=if_neg hn
    rw [e]
    exact w tt Tryz.func251 rfl [.c [] (Rr tp hp hl),.f (decide_eq_false fun h=>hn ((Qcw tp).1 h))] rfl rfl trivial
end Orr

namespace Orr
theorem Ho (f:Nat→Int):Vi 1 f=trim [f 0]:=rfl
theorem Qab (f:Nat→Int):Vi 2 f=trim [f 0,f 1]:=rfl
theorem Du (x:Int):trim [x]=if x=0 then [] else [x]:=rfl
theorem Qec (x y:Int):trim [x,y]=if y=0 then trim [x] else [x,y]:=by
  simp only [trim]; split <;> split <;> simp_all
theorem bd1 {s:Nat} {x:Int} (h:Qn x≤s):Bd s [x]:=fun z hz=>by simp at hz; subst hz; exact h
theorem bd2 {s:Nat} {x y:Int} (h:Qn x≤s) (h':Qn y≤s):Bd s [x,y]:=fun z hz=>by
  simp only [List.mem_cons,List.not_mem_nil,or_false] at hz
  rcases hz with rfl | rfl <;> assumption
section
variable {x d:Int} (hd:0<d) (hg:Int.gcd x d=1) (hx:Qn x≤1000000) (hs:Qn d≤1000000)
theorem b1 {s:Nat} (h:1≤s):Bd s [1]:=bd1 (Nat.le_trans (show Qn 1≤1 by decide) h)
include hd in
theorem C9 (hg:Int.gcd x d=1):Xv [x,d]=[x,d]:=by
  have hc:V5 [x,d]=1:=by
    have h1:M7 [x,d]=1:=by
      show Int.gcd (Int.gcd ((0:Nat):Int) x:Nat) d=1
      rw [show Int.gcd ((0:Nat):Int) x=x.natAbs by simp,show Int.gcd ((x.natAbs:Nat):Int) d=Int.gcd x d by simp [Int.gcd],hg]
    unfold V5
    rw [if_neg (show ¬Zc [x,d]<0 from by show ¬d<0; omega),h1]; rfl
  unfold Xv
  rw [hc]
  show Vi 2 _=_
  rw [Qab,Qec]
  show (if d / 1=0 then _ else [x / 1,d / 1])=_
  rw [Int.ediv_one,if_neg (by omega),Int.ediv_one]
theorem Qx7:Xv [1]=[1]:=by decide
include hd in
theorem Qbh:Xv [d]=[1]:=by
  have hc:V5 [d]=d:=by
    have h1:((M7 [d]:Nat):Int)=d:=by
      show ((Int.gcd ((0:Nat):Int) d:Nat):Int)=d
      simp; omega
    unfold V5
    rw [if_neg (show ¬Zc [d]<0 from by show ¬d<0; omega),h1]
  unfold Xv
  rw [hc]
  show Vi 1 _=_
  rw [Ho,Du]
  show (if d / d=0 then _ else [d / d])=_
  rw [Int.ediv_self (by omega)]; rfl
include hd in
theorem Qex:Zj [x,d]=[d]:=by
  show Vi 1 _=_
  rw [Ho,Du]
  show (if d*1=0 then _ else [d*1])=_
  rw [Int.mul_one,if_neg (by omega)]
include hd hx hs in
theorem Qjj:∃ m,RRun [1] m [x,d] []:=by
  have h1:Qd1 [x,d] [1]=trim [x]:=by
    show Vi 2 _=_
    rw [Qab,Qec]
    have e1:G7 [x,d] [1] 1=0:=by
      show d*1-(if 1≤1 then Pz [x,d] [1]*1 else 0)=0
      have:Pz [x,d] [1]=d:=by unfold Pz; rw [if_neg (by decide)]; rfl
      rw [this]; simp
    have e0:G7 [x,d] [1] 0=x:=by
      show x*1-(if 1≤0 then _ else 0)=x
      simp
    rw [e1,if_pos rfl,e0]
  have hb:Bd 9000000 [x,d]:=bd2 (by omega) (by omega)
  by_cases h0:x=0
  · refine ⟨1,.step (by show 1≤2; decide) (by show 2≤1000; decide) hb (b1 (by decide)) ?_⟩
    rw [h1,h0]
    exact .stop (by decide)
  · refine ⟨2,.step (by show 1≤2; decide) (by show 2≤1000; decide) hb (b1 (by decide)) ?_⟩
    rw [h1,Du,if_neg h0]
    refine .step (Nat.le_refl 1) (by show 1≤1000; decide) (bd1 (by omega)) (b1 (by decide)) ?_
    have h2:Qd1 [x] [1]=[]:=by
      show Vi 1 _=_
      rw [Ho,Du]
      have e0:G7 [x] [1] 0=0:=by
        show x*1-(if 0≤0 then Pz [x] [1]*1 else 0)=0
        have:Pz [x] [1]=x:=by unfold Pz; rw [if_neg (by decide)]; rfl
        rw [this]; simp
      rw [e0,if_pos rfl]
    rw [h2]
    exact .stop (by decide)
include hd hx hs in
theorem Qww:∃ m,GRun m [x,d] [1] [1]:=by
  obtain ⟨m,h⟩:=Qjj hd hx hs
  exact ⟨1,.step (by decide) (by decide) (b1 (by decide)) h (by decide) Sb rfl (by rw [show Xv []=[] by decide]; exact .stop _)⟩
theorem Qsk (c:Int):Vz [c] [c]=[]:=by
  show Vi 1 _=_
  rw [Ho,Du]
  show (if c-c=0 then _ else _)=_
  rw [if_pos (by omega)]
include hd hx hs in
theorem Qok:DOk [x,d] [1] [x,d]:=by
  refine ⟨by decide,by decide,by show 2≤1000; decide,b1 (by decide),[x,d],[],?_⟩
  have hpl:Zc [x,d] / Zc [1]=d:=by show d / 1=d; rw [Int.ediv_one]
  have hsc:Qx [1] d=[d]:=by
    show Vi 1 _=_
    rw [Ho,Du]
    show (if 1*d=0 then _ else [1*d])=_
    rw [Int.one_mul,if_neg (by omega)]
  have hsub:Vz [x,d] (Fw 1 [d])=trim [x]:=by
    show Vi 2 _=_
    rw [Qab,Qec]
    show (if d-d=0 then trim [x-0] else _)=_
    rw [if_pos (by omega),Int.sub_zero]
  have hb:Bd 9000000 [x,d]:=bd2 (by omega) (by omega)
  have ht:trim [x,d]=[x,d]:=by rw [Qec,if_neg (by omega)]
  by_cases h0:x=0
  · refine ⟨1,hb,by show 2≤1000; decide,?_,ht.symm⟩
    refine .step (by show 1≤2; decide) (by show 2≤1000; decide) hb (by decide) (by show (1:Int)∣d; exact Int.one_dvd d) (by show 1<2; decide) ?_
    rw [hpl,hsc,show [x,d].length-[(1:Int)].length=1 from rfl,hsub,Du,if_pos h0]
    show DRun [1] 0 [] [0,d] [x,d] []
    rw [h0]; exact .stop (by decide)
  · refine ⟨2,hb,by show 2≤1000; decide,?_,ht.symm⟩
    refine .step (by show 1≤2; decide) (by show 2≤1000; decide) hb (by decide) (by show (1:Int)∣d; exact Int.one_dvd d) (by show 1<2; decide) ?_
    rw [hpl,hsc,show [x,d].length-[(1:Int)].length=1 from rfl,hsub,Du,if_neg h0]
    refine .step (by show 1≤1; decide) (by show 1≤1000; decide) (bd1 (by omega)) (by decide) (by show (1:Int)∣x; exact Int.one_dvd x) (by show 0<2; decide) ?_
    have hpl2:Zc [x] / Zc [1]=x:=by show x / 1=x; rw [Int.ediv_one]
    have hsc2:Qx [1] x=[x]:=by
      show Vi 1 _=_
      rw [Ho,Du]
      show (if 1*x=0 then _ else [1*x])=_
      rw [Int.one_mul,if_neg h0]
    rw [hpl2,hsc2,show [x].length-[(1:Int)].length=0 from rfl,show Fw 0 [x]=[x] from rfl,Qsk]
    exact .stop (by decide)
theorem div_one:DOk [1] [1] [1]:=by
  refine ⟨by decide,by decide,by decide,b1 (by decide),[1],[],1,b1 (by decide),by decide,?_,by decide⟩
  refine .step (by decide) (by decide) (b1 (by decide)) (by decide) (by decide) (by decide) ?_
  exact .stop (by decide)
include hd hg hx hs in
theorem Qwf:FRun [x,d] 1 (fun _=>[x,d]):=by
  obtain ⟨m,hm⟩:=Qww (x:=x) hd hx hs
  refine ⟨⟨1,[[x,d],[1]],?_,rfl,?_⟩,by decide⟩
  · rw [C9 hd hg]
    refine .step (by show 1<2; decide) (by show 2≤1000; decide) (by show trim [x,d]=[x,d]; rw [Qec,if_neg (by omega)]) (by show Bd 9000000 [x,d]; exact bd2 (by omega) (by omega)) ?_ ?_ (by show 1≤1000; decide) (m:=m) (g:=[1]) ?_
    · show Bd 9000000 (Zj [x,d])
      rw [Qex hd]; exact bd1 (by omega)
    · show GRun m (Xv [x,d]) (Xv (Zj [x,d])) [1]
      rw [C9 hd hg,Qex hd,Qbh hd]; exact hm
    · exact .stop (by show 1≤1; decide)
  · intro k hk
    have:k=0:=by omega
    subst this
    exact ⟨[x,d],[1],[x,d],Qok hd hx hs,div_one,by rw [C9 hd hg,Qx7]; exact Qok hd hx hs,(C9 hd hg).symm⟩
theorem Qsa {p:List Int} (hp:Qk p) (h0:0<p.length):Zt [1] p=p:=by
  refine Sv (Z2 _ _) hp fun k=>?_
  unfold Zt
  rw [if_neg (by
   rintro (h | h); · cases h
   · omega),U8]
  show (Kn [1] p (List.replicate (1+p.length-1) 0) 1).getD k 0=_
  simp only [Kn]
  rw [Eh _ _ _ _ _ _ (by simp),Jz]
  split
  · show 0+1*p.getD (k-0) 0=_
    rw [Nat.sub_zero]; omega
  · rename_i h
    rw [List.getD_eq_getElem?_getD,List.getElem?_eq_none (by omega)]; rfl
include hd hg hx hs in
theorem Qrk:ChRun [x,d] [x,d] [[x,d],[1]]:=by
  obtain ⟨m,hm⟩:=Qjj (x:=x) hd hx hs
  have ht:Qk [x,d]:=by show trim [x,d]=_; rw [Qec,if_neg (by omega)]
  refine ⟨⟨1,fun _=>[x,d],Qwf hd hg hx hs,?_,?_⟩,⟨1,?_⟩,bd2 (by omega) (by omega),by show 2≤1000; decide,by show 2≤1000; decide⟩
  · intro i hi
    have:i=0:=by omega
    subst this
    exact ⟨b1 (by decide),by show 1≤1000; decide,bd2 (by omega) (by omega),by show 2≤1000; decide⟩
  · show [x,d]=Zt [1] [x,d]
    rw [Qsa ht (by show 0<2; decide)]
  · have hz:Vj (Zj [x,d])=[1]:=by
      rw [Qex hd]
      unfold Vj
      rw [if_neg (show ¬Zc [d]<0 from by show ¬d<0; omega),Qbh hd]
    rw [hz]
    refine .step (by decide) (by decide) (b1 (by decide)) (m:=m) (r:=[]) hm rfl Sb (by decide) (by show 0<1; decide) (by show 1≤1000; decide) ?_
    exact .stop (by decide)
end
theorem Zaj {q:Rat} (h:Qs 1000000 q):Qm5 q [[-q.num,(q.den:Int)],[1]]:=by
  refine ⟨[-q.num,(q.den:Int)],Qrk (den_pos q) ?_ (by rw [Z8]; exact h.1) h.2⟩
  rw [Int.neg_gcd]
  have:=q.reduced
  unfold Nat.Coprime at this
  simpa [Int.gcd] using this
end Orr

namespace Orr
open Go Go.Proofs
set_option maxRecDepth 10000
theorem Q6r {a b g:List Int} {n:Nat} (ta:Qk a) (tb:Qk b) (ha:Bd 9000000 a) (hb:Bd 9000000 b) (la:a.length≤1000) (lb:b.length≤1000) (hrun:GRun n (Xv a) (Xv b) g):Qc Tryz.prog 306 [.one (rp (zp a)),.one (rp (zp b))] [.one (rp (zp g))]:=by
  refine Z1 Tryz.func306 rfl ?_
  refine go tt [.c [] (Rq ta ha la),.c [] (Rq tb hb lb)] rfl trivial ?_
  refine sb [(0,.v (.one (rp (zp (Xv a))))),(1,.v (.one (rp (zp (Xv b)))))] [] rfl rfl ?_
  refine lp (S:=Nat×List Int×List Int) 0 (fun L1 s=>(0,.v (.one (rp (zp s.2.1))))::(1,.v (.one (rp (zp s.2.2))))::L1) (fun _=>[]) (fun s=>s.1) (fun s=>GRun s.1 s.2.1 s.2.2 g) (n,Xv a,Xv b) hrun rfl (fun _ _=>rfl) rfl fun ⟨k,x,y⟩ hs=>?_
  have hs:GRun k x y g:=hs
  have hyl:=Aw y
  rcases hs.inv with ⟨hk,hy0,hxg⟩ | ⟨j,m2,r,hk,hy0,hy1,hyb,hrr,hrl,hrb,hrt,hgr⟩
  · rw [←hxg]
    exact en tt [.f (decide_eq_false (by dsimp only; omega))] rfl rfl trivial
  · subst hk
    refine go tt [.t (decide_eq_true (by dsimp only; omega)),.c [] (Qn2 (a0:=x) (b:=y) (res:=r) hy0 hy1 hyb hrr),.c [] (Rq (p:=r) hrt hrb hrl)] rfl trivial ?_
    exact rd (j,y,Xv r) (by dsimp only; omega) hgr rfl
theorem Q03 {x y:Int} (hx:Qn x≤9000000) (hy:Qn y≤9000000) (h0:y≠0) (hd:y∣x):Qc Tryz.prog 309 [.agg (fr (x:Rat)),.agg (fr (y:Rat))] [.agg (fr ((x / y:Int):Rat))]:=by
  have hy0:(y:Rat)≠0:=fun e=>h0 (by exact_mod_cast e)
  have h:=Qkn (Uk (s:=40000000) (z:=x) (by omega) (by omega)) (Uk (s:=40000000) (z:=y) (by omega) (by omega)) hy0
  obtain ⟨k,rfl⟩:=hd
  rw [Int.mul_ediv_cancel_left _ h0]
  rwa [show (((y*k:Int):Rat)) / (y:Rat)=(k:Rat) by rw [Rat.intCast_mul]; grind] at h
theorem Qre {p:List Int} {c:Int} (hp:Bd 40000000 p) (hc:Qn c≤40000000) (hl:p.length≤1000000):Qc Tryz.prog 248 [.one (rp (zp p)),.agg (fr (c:Rat))] [.one (rp (zp (Qx p c)))]:=by
  have h:=Hj (Nh hp (by omega)) (Uk hc (by omega)) (by rw [Ym]; exact hl)
  rwa [Qd0] at h
theorem Q38 (k:Nat) (p:List Int):Xl (zp (List.replicate k 0))++Xl (zp p)=Xl (zp (Fw k p)):=by simp [zp,Fw,Xl]
theorem Qr1 (l:List Int) (i:Nat) (z:Int):(Xl (zp l)).set i [nd ((z:Rat)).num.natAbs,sg ((z:Rat)).num,nd (((z:Rat)).den:Int).natAbs,sg (((z:Rat)).den:Int)]=Xl (zp (l.set i z)):=Qh5 l i z
theorem Q1p {p q:List Int} (hp:Bd 18000000 p) (hq:Bd 18000000 q) (hlp:p.length≤1000000) (hlq:q.length≤1000000):Zw Tryz.prog 208 [.one (rp (zp p)),.one (.orow 0 4 none)] [.row false 49 4 (Xl (zp q))] [.one (rp (zp (Vz p q)))] [.gone]:=by
  have hn:=Qkw ((Nh hq (by decide)).mono (by decide)) (by rw [Ym]; exact hlq)
  have ha:=Qu0 (p:=zp p) (q:=Qf9 (zp q)) ((Nh hp (by decide)).mono (by decide)) ((Qyq (Nh hq (by decide))).mono (by decide)) (by rw [Ym]; exact hlp) (Nat.le_trans (Qjk _) (by rw [Ym]; exact hlq))
  have e:Qso (zp p) (Qf9 (zp q))=zp (Vz p q):=Qqc p q
  rw [e] at ha
  refine Z1 Tryz.func208 rfl ?_
  exact ed tt [] [0] [.c [] hn,.c [] ha] rfl trivial
theorem Qrf {a0 b qf rem:List Int} {n:Nat} (hb0:0<b.length) (hb1:b.length≤1000) (hl0:a0.length≤1000) (hbb:Bd 9000000 b) (hqb:Bd 9000000 qf) (hrun:DRun b n a0 (List.replicate (a0.length+1-b.length) 0) qf rem):Qc Tryz.prog 307 [.one (rp (zp a0)),.one (rp (zp b))] [.one (rp (zp (trim qf))),.one (rp (zp rem))]:=by
  have h0l:=Aw a0
  have hbl:=Aw b
  obtain ⟨N,hN⟩:∃ N,N=a0.length+1-b.length:=⟨_,rfl⟩
  rw [←hN] at hrun
  have cc:=Sj (p:=zp qf)
  rw [K0] at cc
  refine Z1 Tryz.func307 rfl ?_
  refine go tt [.r 18 (eI (b:=(N:Int)) (by omega)),.i N,.i N,.r 21 (eI (b:=(N:Int)) (by simp))] rfl (by simp [Qa]; omega) ?_
  refine lp (S:=Nat) 1 (fun L1 i=>(22,.v (.one (.int .i64 (i:Int))))::L1) (fun i=>[.row false 49 4 (List.replicate i (fr 0)++List.replicate (N-i) zR)]) (fun i=>N-i) (fun i=>i≤N) 0 (Nat.zero_le _) rfl (fun _ _=>rfl) rfl fun i hi=>?_
  by_cases hlt:i<N
  · refine go tt [.t (decide_eq_true (by omega)),.c [] Qup,.i i] rfl (by simp [Qa]; omega) ?_
    rw [Qe5 hlt]
    exact rd (i+1) (by omega) hlt rfl
  have hiN:i=N:=by omega
  rw [hiN,Qbv]
  clear hiN hlt hi
  refine go tt [.f (decide_eq_false (by omega))] rfl trivial ?_
  refine sb [(0,.v (.one (rp (zp a0)))),(1,.v (.one (rp (zp b)))),(6,.v (.one (.orow 0 4 none)))] [.row false 49 4 (Xl (zp (List.replicate N 0)))] rfl rfl ?_
  refine lp (S:=Nat×List Int×List Int) 1 (fun L1 s=>(0,.v (.one (rp (zp s.2.1))))::L1) (fun s=>[.row false 49 4 (Xl (zp s.2.2))]) (fun s=>s.1) (fun s=>DRun b s.1 s.2.1 s.2.2 qf rem∧s.2.2.length=N) (n,a0,List.replicate N 0) ⟨hrun,List.length_replicate⟩ rfl (fun _ _=>rfl) rfl fun ⟨k,a,q⟩ ⟨hr0,hr1⟩=>?_
  have hr0:DRun b k a q qf rem:=hr0
  have hr1:q.length=N:=hr1
  have hal:=Aw a
  have hql:=Aw q
  rcases hr0.inv with ⟨hk,hqf,har,hlt⟩ | ⟨j,hk,hba,hal2,hab,hpb,hpd,hkq,hrj⟩
  · subst hqf; subst har
    exact en tt [.f (decide_eq_false (by dsimp only; omega)),.c [] cc] rfl rfl trivial
  subst hk
  obtain ⟨K,hK⟩:∃ K,K=a.length-b.length:=⟨_,rfl⟩
  rw [←hK] at hrj hkq
  have hla:Qn (Zc a)≤9000000:=Qq hab _
  have hlb:Qn (Zc b)≤9000000:=Qq hbb _
  obtain ⟨c,hc⟩:∃ c,c=Zc a / Zc b:=⟨_,rfl⟩
  have cq:=Q03 hla hlb hpb hpd
  have hcs:Qn (Zc a / Zc b)≤9000000:=Nat.le_trans (S7 _ _) hla
  rw [←hc] at cq hcs hrj
  have hsl:=Q8 b c
  have hqs:∀ x,(q.set K x).length=N:=fun x=>by rw [List.length_set]; exact hr1
  dsimp only
  refine go tt [.t (decide_eq_true (by omega)),.r 39 (eI (b:=(K:Int)) (by omega)),.r 43 (eI (b:=((a.length-1:Nat):Int)) (by omega)),.x (Je (p:=a) (i:=a.length-1) (by omega)),.r 49 (eI (b:=((b.length-1:Nat):Int)) (by omega)),.x (Je (p:=b) (i:=b.length-1) (by omega)),.c [] cq,.i K,.i K,.i K,.r 60 (eI (b:=(K:Int)) (by simp))] rfl (by simp [Qa,hql] <;> omega) ?_
  rw [Qr1]
  refine lp (S:=Nat) 3 (fun L1 i=>(61,.v (.one (.int .i64 (i:Int))))::L1) (fun i=>[.row false 49 4 (Xl (zp (q.set K c))),.blk 49 (fr (c:Rat)),.row false 49 4 (List.replicate i (fr 0)++List.replicate (K-i) zR)]) (fun i=>K-i) (fun i=>i≤K) 0 (Nat.zero_le _) rfl (fun _ _=>rfl) rfl fun i hi=>?_
  by_cases hlt:i<K
  · refine go tt [.t (decide_eq_true (by omega)),.c [] Qup,.i i] rfl (by simp [Qa]; omega) ?_
    rw [Qe5 hlt]
    exact rd (i+1) (by omega) hlt rfl
  have hiK:i=K:=by omega
  rw [hiK,Qbv]
  clear hiK hlt hi
  have hzl:=Aw (List.replicate K 0)
  rw [List.length_replicate] at hzl
  have hpl:=Aw (Qx b c)
  refine go tt [.f (decide_eq_false (by omega))] rfl trivial ?_
  refine sb [(10,.v (.one (.orow 2 4 none))),(9,.v (.one (.ow 1 0))),(0,.v (.one (rp (zp a)))),(1,.v (.one (rp (zp b)))),(6,.v (.one (.orow 0 4 none)))] [.row false 49 4 (Xl (zp (q.set K c))),.blk 49 (fr (c:Rat)),.row false 49 4 (Xl (zp (List.replicate K 0)))] rfl rfl ?_
  have p2:=Q1p (p:=a) (q:=Fw K (Qx b c)) (Qd hab (by decide)) (Qd (Qqx (Zn hbb hcs)) (by decide)) (by omega) (by rw [Qml]; omega)
  rw [←Q38] at p2
  refine go tt [.c [] (Qre (c:=c) (Qd hbb (by decide)) (by omega) (by omega)),.s (sz:=4) (Lu (zp (Qx b c))),.c [2] p2] rfl (by simp [Qa,hzl,hpl]; omega) ?_
  exact rd (j,Vz a (Fw K (Qx b c)),q.set K c) (by dsimp only; omega) ⟨hrj,hqs c⟩ rfl
end Orr

namespace Orr
open Go Go.Proofs
set_option maxRecDepth 10000
def zls (l:List (List Int)):List (List LV):=l.map fun p=>[rp (zp p)]
theorem M6 (l:List (List Int)):(zls l).length=l.length:=by simp [zls]
theorem D3 (l:List (List Int)) (g:List Int):zls l++[[rp (zp g)]]=zls (l++[g]):=by simp [zls]
theorem M5 {l:List (List Int)} {i:Nat} (h:i<l.length):(zls l)[i]? = some [rp (zp (l.getD i []))]:=Zm (Qlb h)
theorem Q3a (x:LV):∀ c∈[[x]],c.length=1:=fun c hc=>by rw [List.mem_singleton.1 hc]; rfl
theorem Oq {a b q:List Int} (h:DOk a b q):∃ r,Qc Tryz.prog 307 [.one (rp (zp a)),.one (rp (zp b))] [.one (rp (zp q)),.one (rp (zp r))]:=by
  obtain ⟨h1,h2,h3,h4,qf,r,n,h5,h6,h7,rfl⟩:=h
  exact ⟨r,Qrf h1 h2 h3 h4 h5 h7⟩
theorem Qkv {a:List Int} {mf:Nat} {f:Nat→List Int} (ta:Qk a) (ha:Bd 9000000 a) (la:a.length≤1000) (h2:2≤a.length) (hF:FRun a mf f):Qc Tryz.prog 282 [.one (rp (zp a))] [.one (.row (zls (Qbs f mf)))]:=by
  obtain ⟨⟨n,ls,hrun,hlen,hq⟩,hms⟩:=hF
  have hal:=Aw a
  refine Z1 Tryz.func282 rfl ?_
  refine go tt [.f (decide_eq_false (by omega)),.c [] (Rq ta ha la),.o 3 99 1,.lo] rfl trivial ?_
  refine sb [(3,.v (.one (.orow 0 1 none))),(4,.v (.one (.orow 1 1 none)))] [.row false 99 1 [],.row false 99 1 (zls [Xv a])] rfl rfl ?_
  refine lp (S:=Nat×List (List Int)) 2 (fun L1 s=>(4,.v (.one (.orow 1 1 none)))::L1) (fun s=>[.row false 99 1 [],.row false 99 1 (zls s.2)]) (fun s=>s.1) (fun s=>LRun s.1 s.2 ls∧0<s.2.length∧s.2.length≤1001) (n,[Xv a]) ⟨hrun,by show 0<1; decide,by show 1≤1001; decide⟩ rfl (fun _ _=>rfl) rfl fun ⟨k,l⟩ ⟨hs1,hs2,hs3⟩=>?_
  have hs1:LRun k l ls:=hs1
  have hs2:0<l.length:=hs2
  have hs3:l.length≤1001:=hs3
  have hll:=M6 l
  have hlast:(zls l)[l.length-1]? = some [rp (zp (Vg l))]:=M5 (by omega)
  have hpl:=Aw (Vg l)
  dsimp only
  rcases hs1.inv with ⟨hk,hlf,hl1⟩ | ⟨j,m2,g,hk,hg1,hg2,hg3,hg4,hg5,hg6,hg7,hlr⟩
  · have hlm:l.length=mf+1:=by rw [hlf]; exact hlen
    rw [←hlf] at hq
    have hl2:=M6 (l++[[1]])
    have hl3:(l++[[1]]).length=mf+2:=by simp [hlm]
    refine go tt [.r 23 (eI (b:=((l.length-1:Nat):Int)) (by omega)),.i (l.length-1),.x hlast,.f (decide_eq_false (by omega)),.c [] Qu3,.s (sz:=1) (Q3a _)] rfl (by simp [Qa,hll]; omega) ?_
    rw [D3]
    refine lp (S:=Nat) 2 (fun L1 i=>(6,.v (.one (.int .i64 (i:Int))))::(3,.v (.one (.orow 0 1 none)))::L1) (fun i=>[.row false 99 1 (zls (Qbs f i)),.row false 99 1 (zls (l++[[1]]))]) (fun i=>mf-i) (fun i=>i≤mf) 0 (Nat.zero_le _) rfl (fun _ _=>rfl) rfl fun i hi=>?_
    have htl:=M6 (Qbs f i)
    rw [Qjs] at htl
    by_cases h:i<mf
    · obtain ⟨x,y,z,hx,hy,hz,hf⟩:=hq i h
      obtain ⟨rx,hdx⟩:=Oq hx
      obtain ⟨ry,hdy⟩:=Oq hy
      obtain ⟨rz,hdz⟩:=Oq hz
      refine go tt [.t (decide_eq_true (by omega)),.i i,.x (M5 (by omega)),.i (i+1),.x (M5 (by omega)),.c [] hdx,.i (i+1),.x (M5 (by omega)),.i (i+2),.x (M5 (by omega)),.c [] hdy,.c [] (Rq hx.trim hx.bd hx.len),.c [] (Rq hy.trim hy.bd hy.len),.c [] hdz,.c [] (Rq hz.trim hz.bd hz.len),.s (sz:=1) (Q3a _)] rfl (by simp [Qa,hl2,htl]; omega) ?_
      exact rd (i+1) (by omega) h (by rw [D3,Qsz,hf]; rfl)
    · have e:i=mf:=by omega
      rw [e]
      exact en tt [.f (decide_eq_false (by omega))] rfl rfl (by simp [Qa]; omega)
  · subst hk
    refine go tt [.r 23 (eI (b:=((l.length-1:Nat):Int)) (by omega)),.i (l.length-1),.x hlast,.t (decide_eq_true (by omega)),.r 31 (eI (b:=((l.length-1:Nat):Int)) (by omega)),.i (l.length-1),.x hlast,.c [] (Qku (Qd hg4 (by decide)) (by omega)),.c [] (Q6r hg3 (Za _ _) hg4 hg5 hg2 (Nat.le_trans (Yu _) (by omega)) hg6),.s (sz:=1) (Q3a _)] rfl (by simp [Qa,hll]; omega) ?_
    exact rd (j,l++[g]) (by dsimp only; omega) ⟨hlr,by simp,by simp; omega⟩ (by rw [D3]; rfl)
theorem Qrg {a:List Int} {mf:Nat} {f:Nat→List Int} (ta:Qk a) (ha:Bd 9000000 a) (la:a.length≤1000) (h2:2≤a.length) (hF:FRun a mf f) (hP:Q88 mf f):Qc Tryz.prog 250 [.one (rp (zp a))] [.one (rp (zp (H6 f mf)))]:=by
  have hms:=hF.small
  have hal:=Aw a
  have htl:=M6 (Qbs f mf)
  rw [Qjs] at htl
  refine Z1 Tryz.func250 rfl ?_
  refine go tt [.f (decide_eq_false (by omega)),.c [] Qu3,.c [] (Qkv ta ha la h2 hF)] rfl trivial ?_
  refine lp (S:=Nat) 0 (fun L1 i=>(15,.v (.one (.int .i64 (i:Int))))::(3,.v (.one (rp (zp (H6 f i)))))::L1) (fun _=>[]) (fun i=>mf-i) (fun i=>i≤mf) 0 (Nat.zero_le _) rfl (fun _ _=>rfl) rfl fun i hi=>?_
  by_cases h:i<mf
  · obtain ⟨g1,g2,g3,g4⟩:=hP i h
    refine go tt [.t (decide_eq_true (by omega)),.x (Zm (f:=fun p=>[rp (zp p)]) (Qzv h)),.c [] (Qu2 (p:=H6 f i) (q:=f i) (by omega) (by omega) g1 g3 (by decide))] rfl (by simp [Qa]; omega) ?_
    exact rd (i+1) (by omega) h rfl
  · have e:i=mf:=by omega
    rw [e]
    exact en tt [.f (decide_eq_false (by omega))] rfl rfl trivial
theorem Qr7 {l:List (List Int)} (g:List Int) (h:0<l.length):(zls l++[[rp (zp g)]])[l.length-1]? = some [rp (zp (Vg l))]:=by
  rw [List.getElem?_append_left (by rw [M6]; omega)]
  exact M5 (by omega)
theorem Qu1 {a sq:List Int} {c:List (List Int)} (ta:Qk a) (ha:Bd 9000000 a) (la:a.length≤1000) (h2:2≤a.length) (hC:ChRun a sq c):Qc Tryz.prog 207 [.one (rp (zp a))] [.one (.row (zls c))]:=by
  obtain ⟨⟨mf,f,hF,hP,rfl⟩,⟨n,hcr⟩,hbd,hle,hsm⟩:=hC
  refine Z1 Tryz.func207 rfl ?_
  refine go tt [.c [] (Qrg ta ha la h2 hF hP),.lo,.c [] (Qku (p:=H6 f mf) (Qd hbd (by decide)) (by omega)),.c [] (Qhe (p:=Zj (H6 f mf)) (Za _ _) (Qd (A7 (t:=10) hbd (by omega)) (by decide)) (Nat.le_trans (Yu _) (by omega)))] rfl trivial ?_
  refine sb [(5,.v (.one (rp (zp (Vj (Zj (H6 f mf))))))),(4,.v (.one (.orow 0 1 none)))] [.row false 99 1 (zls [H6 f mf])] rfl rfl ?_
  refine lp (S:=Nat×List (List Int)×List Int) 1 (fun L1 s=>(5,.v (.one (rp (zp s.2.2))))::(4,.v (.one (.orow 0 1 none)))::L1) (fun s=>[.row false 99 1 (zls s.2.1)]) (fun s=>s.1) (fun s=>CRun s.1 s.2.1 s.2.2 c∧0<s.2.1.length∧s.2.1.length≤1001) (n,[H6 f mf],Vj (Zj (H6 f mf))) ⟨hcr,by show 0<1; decide,by show 1≤1001; decide⟩ rfl (fun _ _=>rfl) rfl fun ⟨k,l,g⟩ ⟨hs1,hs2,hs3⟩=>?_
  have hs1:CRun k l g c:=hs1
  have hs2:0<l.length:=hs2
  have hs3:l.length≤1001:=hs3
  have hll:=M6 l
  have hgl:=Aw g
  dsimp only
  rcases hs1.inv with ⟨hk,hlf,hg0⟩ | ⟨j,m2,r,hk,hg1,hg2,hg3,hrr,hrt,hrb,hrl,hl0,hl1,hcj⟩
  · subst hlf
    exact en tt [.f (decide_eq_false (by omega))] rfl rfl trivial
  · subst hk
    refine go tt [.t (decide_eq_true (by omega)),.s (sz:=1) (Q3a _),.r 23 (eI (b:=((l.length-1:Nat):Int)) (by simp; omega)),.i (l.length-1),.x (Qr7 g hl0),.c [] (Qn2 (a0:=Vg l) (b:=g) (res:=r) hg1 hg2 hg3 hrr),.c [] (Qhe (p:=r) hrt hrb hrl),.c [] (Quy (p:=Vj r) (Qqw hrb) (Nat.le_trans (Qlg r) (by omega)))] rfl (by simp [Qa,hll]; omega) ?_
    exact rd (j,l++[g],Y9 (Vj r)) (by dsimp only; omega) ⟨hcj,by simp,by simp; omega⟩ (by rw [D3]; rfl)
theorem Q9e {q:Rat} (h1:Qn q.num≤1000000) (h2:Qn (q.den:Int)≤1000000):Bd 9000000 [-q.num,(q.den:Int)]:=fun z hz=>by
  simp only [List.mem_cons,List.not_mem_nil,or_false] at hz
  rcases hz with rfl | rfl
  · rw [Z8]; omega
  · omega
abbrev aq (q:Rat) (c:List (List Int)):List LV:=[rp (zp [-q.num,(q.den:Int)]),.row (zls c)]++fr q++fr q
theorem Qhd {q:Rat} {c:List (List Int)} (hq:Qs 1000000 q) (hC:Qm5 q c):Qc Tryz.prog 147 [.agg (fr q)] [.agg (aq q c)]:=by
  obtain ⟨sq,hch⟩:=hC
  have co:=W3 (n:=1) (by decide)
  exact w tt Tryz.func147 rfl [.c [] co,.c [] (Vm (n:=q.num)),.c [] (Qt0 (z:=q.num)),.c [] co,.c [] (Vm (n:=(q.den:Int))),.c [] (Qu1 (a:=[-q.num,(q.den:Int)]) (Qql q) (Q9e hq.1 hq.2) (by show 2≤1000; decide) (Nat.le_refl 2) hch)] rfl rfl trivial
theorem Qhf {q:Rat} {c:List (List Int)} (hq:Qs 1000000 q):Qc Tryz.prog 337 [.agg (aq q c)] [.one (.bool true)]:=by
  have cr:=Q1k (a:=q) (b:=q) (hq.mono (by decide)) (hq.mono (by decide))
  rw [Wd] at cr
  exact w tt Tryz.func337 rfl [.c [] cr] rfl rfl trivial
theorem Qsi {p:List Int} (h:p.length=0) (q:Rat):Z0 p q=0:=by rw [List.eq_nil_of_length_eq_zero h]; rfl
theorem Qn1 {p:List Int} {q:Rat} {c:List (List Int)} (hp:Bd 30000000 p) (hl:p.length≤64) (hq:Qs 1000000 q):Qc Tryz.prog 336 [.one (rp (zp p)),.agg (aq q c)] [.one (.bool (decide (Z0 p q=0)))]:=by
  have hpl:=Aw p
  rcases Nat.eq_zero_or_pos p.length with h0 | h0
  · rw [decide_eq_true (Qsi h0 q)]
    exact w tt Tryz.func336 rfl [.t (decide_eq_true (by omega))] rfl rfl trivial
  · exact w tt Tryz.func336 rfl [.f (decide_eq_false (by omega)),.c [] (Qhf hq),.t rfl,.c [] (Qn0 hp hl hq)] rfl rfl trivial
theorem Qci {p:List Int} {q:Rat} {c:List (List Int)} (hp:Bd 30000000 p) (hl:p.length≤64) (hq:Qs 1000000 q):Qc Tryz.prog 327 [.one (rp (zp p)),.agg (aq q c)] [.one (.int .i64 (Z0 p q))]:=by
  by_cases h0:Z0 p q=0
  · have cz:=Qn1 (c:=c) hp hl hq
    rw [h0] at cz ⊢
    exact w tt Tryz.func327 rfl [.c [] cz,.t rfl] rfl rfl trivial
  · exact w tt Tryz.func327 rfl [.c [] (Qn1 hp hl hq),.f (decide_eq_false h0),.c [] (Qhf hq),.g 11 true rfl,.t rfl,.c [] (Qn0 hp hl hq)] rfl rfl trivial
theorem B5 {p:List Int} {q:Rat} {c:List (List Int)} (hp:Bd 20000000 p) (hl:p.length≤64) (hq:Qs 1000000 q):Qc Tryz.prog 315 [.one (rp (zp p)),.agg (aq q c)] [.one (.int .i64 (S0 p q))]:=by
  refine Z1 Tryz.func315 rfl ?_
  refine go tt [] rfl trivial ?_
  refine lp (S:=List Int) 1 (fun L1 r=>(0,.v (.one (rp (zp r))))::L1) (fun _=>[.blk 102 (aq q c)]) (fun r=>r.length) (fun r=>r.length≤64∧Bd (25000000-30*r.length) r∧J7 (fun p=>Z0 p q) r.length r=S0 p q) p ⟨hl,Qd hp (by omega),rfl⟩ rfl (fun _ _=>rfl) rfl fun r ⟨hr0,hr1,hr2⟩=>?_
  have hrl:=Aw r
  rcases Nat.eq_zero_or_pos r.length with h0 | h0
  · rw [Aa _ h0] at hr2
    exact en tt [.f (decide_eq_false (by omega))] rfl (by rw [←hr2]) trivial
  by_cases hs:Z0 r q=0
  · have hd:=Yu r
    refine go tt [.t (decide_eq_true (by omega)),.c [] (Qci (p:=r) (c:=c) (Qd hr1 (by omega)) hr0 hq),.f (decide_eq_false (fun h=>h hs)),.c [] (Qku (p:=r) (Qd hr1 (by omega)) (by omega))] rfl trivial ?_
    exact rd (Zj r) (by omega) ⟨by omega,Qd (A7 (t:=6) hr1 (by omega)) (by omega),by rw [←hr2,E9 _ h0 hs]⟩ rfl
  · exact en tt [.t (decide_eq_true (by omega)),.c [] (Qci (p:=r) (c:=c) (Qd hr1 (by omega)) hr0 hq),.t (decide_eq_true hs)] rfl (by rw [←hr2,E8 _ h0 hs]) trivial
end Orr

namespace Orr
def Bp (p:List Int) (d:Int):List Rat:=p.map fun (z:Int)=>(z:Rat) / (d:Rat)
theorem Gq (p:List Int) (d:Int):(Bp p d).length=p.length:=List.length_map _
theorem Q3z {p:List Int} {i:Nat} {z:Int} {d:Int} (h:p[i]? = some z):(Bp p d)[i]? = some ((z:Rat) / (d:Rat)):=by simp [Bp,h]
theorem Qy6 (p:List Int) (d:Int) (i:Nat):(Bp p d).getD i 0=((p.getD i 0:Int):Rat) / (d:Rat):=by
  simp only [List.getD_eq_getElem?_getD,Bp,List.getElem?_map]
  cases p[i]? with
  | none=>simp; grind
  | some z=>rfl
theorem Rw (z d:Int):(z:Rat) / (d:Rat)=Rat.divInt z d:=by
  by_cases h:d=0
  · subst h; simp; grind
  · rw [Rat.div_def]
    have e1:(z:Rat)=Rat.divInt z 1:=by have:=Rat.num_divInt_den (z:Rat); simpa using this.symm
    have e2:(d:Rat)⁻¹=Rat.divInt 1 d:=by
      have:(d:Rat)=Rat.divInt d 1:=by have:=Rat.num_divInt_den (d:Rat); simpa using this.symm
      rw [this,Rat.inv_divInt]
    rw [e1,e2,Rat.divInt_mul_divInt]
    simp
theorem Q16 {z d:Int} (hd:0<d):(((z:Rat) / (d:Rat)).den:Int)*(Int.gcd z d:Nat)=d:=by
  rw [Rw]
  have h:=(Qfl (n:=z) hd).2
  rw [←h,Ki,Int.gcd_comm]
  exact Int.ediv_mul_cancel (Int.gcd_dvd_right ..)
theorem Qw5 {d a b L:Nat} (hd:0<d) (ha:L*a=d) {D:Nat} (hb:D*b=d):L*D / Nat.gcd L D*Nat.gcd a b=d:=by
  have hL:0<L:=Nat.pos_of_ne_zero fun e=>by rw [e] at ha; omega
  have hD:0<D:=Nat.pos_of_ne_zero fun e=>by rw [e] at hb; omega
  have hg:0<Nat.gcd L D:=Nat.gcd_pos_of_pos_left _ hL
  show Nat.lcm L D*Nat.gcd a b=d
  rw [←Nat.gcd_mul_left]
  refine Nat.dvd_antisymm ?_ ?_
  · -- gcd (M a) (M b) | d
    obtain ⟨u,hu⟩:=Nat.gcd_dvd_left L D
    obtain ⟨v,hv⟩:=Nat.gcd_dvd_right L D
    have hM:Nat.lcm L D=Nat.gcd L D*(u*v):=by
      unfold Nat.lcm
      conv=>lhs; rw [show L*D=Nat.gcd L D*u*(Nat.gcd L D*v) by rw [←hu,←hv]]
      rw [show Nat.gcd L D*u*(Nat.gcd L D*v)=Nat.gcd L D*(Nat.gcd L D*(u*v)) by rw [Nat.mul_assoc,Nat.mul_left_comm u,]]
      exact Nat.mul_div_cancel_left _ hg
    have h1:Nat.lcm L D*a=v*d:=by
      rw [hM,←ha]
      conv=>rhs; rw [hu]
      simp [Nat.mul_comm,Nat.mul_left_comm,Nat.mul_assoc]
    have h2:Nat.lcm L D*b=u*d:=by
      rw [hM,←hb]
      conv=>rhs; rw [hv]
      simp [Nat.mul_comm,Nat.mul_left_comm,Nat.mul_assoc]
    have huv:Nat.gcd u v=1:=by
      have:=Nat.gcd_mul_left (Nat.gcd L D) u v
      rw [←hu,←hv] at this
      exact Nat.eq_of_mul_eq_mul_left hg (by omega)
    rw [h1,h2,Nat.gcd_mul_right,Nat.gcd_comm,huv,Nat.one_mul]
    exact Nat.dvd_refl d
  · refine Nat.dvd_gcd ?_ ?_
    · rw [←ha]; exact Nat.mul_dvd_mul_right (Nat.dvd_lcm_left L D) a
    · rw [←hb]; exact Nat.mul_dvd_mul_right (Nat.dvd_lcm_right L D) b
def lcd (z:List Int) (d:Int):Nat→Int
  | 0=>1
  | i+1=>lcd z d i*((((z.getD i 0:Int):Rat) / (d:Rat)).den:Int) / (Int.gcd (lcd z d i) ((((z.getD i 0:Int):Rat) / (d:Rat)).den:Int):Nat)
theorem Qlf {z:List Int} {d:Int} (hd:0<d):∀ i,i≤z.length→lcd z d i*((Z7 (d::z.take i):Nat):Int)=d
  |
   0,_=>by
   show 1*_=d
   have:((Z7 [d]:Nat):Int)=d:=by unfold Z7; simp; omega
   rw [List.take_zero,this,Int.one_mul]
  |
   i+1,hi=>by
   have ih:=Qlf (z:=z) hd i (by omega)
   have hz:z[i]? = some (z.getD i 0):=getD_some (l:=z) (by omega)
   have hstep:Z7 (d::z.take (i+1))=Nat.gcd (Z7 (d::z.take i)) (z.getD i 0).natAbs:=by
     have:=Qc7 (l:=d::z) (i:=i+1) (z:=z.getD i 0) (by simpa using hz)
     simpa using this
   have hdn:=Q16 (z:=z.getD i 0) hd
   simp only [lcd]
   generalize hL:lcd z d i=L at *
   generalize hD:(((z.getD i 0:Int):Rat) / (d:Rat)).den=D at *
   have hLp:0<L:=by
     rcases Int.lt_trichotomy L 0 with h | h | h
     · have:=Int.mul_nonneg (Int.neg_nonneg_of_nonpos (Int.le_of_lt h)) (Int.natCast_nonneg (Z7 (d::z.take i)))
       rw [Int.neg_mul] at this; omega
     · rw [h,Int.zero_mul] at ih; omega
     · exact h
   obtain ⟨l,rfl⟩:=Int.eq_ofNat_of_zero_le (Int.le_of_lt hLp)
   obtain ⟨e,rfl⟩:=Int.eq_ofNat_of_zero_le (Int.le_of_lt hd)
   have h1:l*Z7 (((e:Nat):Int)::z.take i)=e:=by exact_mod_cast ih
   have h2:D*Int.gcd (z.getD i 0) ((e:Nat):Int)=e:=by exact_mod_cast hdn
   have h3:=Qw5 (d:=e) (by omega) h1 h2
   have h4:Nat.gcd (Z7 (((e:Nat):Int)::z.take i)) (Int.gcd (z.getD i 0) ((e:Nat):Int))=Nat.gcd (Z7 (((e:Nat):Int)::z.take i)) (z.getD i 0).natAbs:=by
     have hge:Z7 (((e:Nat):Int)::z.take i)∣e:=⟨l,by rw [Nat.mul_comm]; exact h1.symm⟩
     show Nat.gcd _ (Nat.gcd (z.getD i 0).natAbs e)=_
     rw [Nat.gcd_comm (z.getD i 0).natAbs e,←Nat.gcd_assoc,Nat.gcd_eq_left hge]
   rw [hstep,←h4]
   rw [show Int.gcd ((l:Nat):Int) ((D:Nat):Int)=Nat.gcd l D by simp [Int.gcd]]
   exact_mod_cast h3
theorem Q2o {x y:List Int} {d:Int} (hd:0<d) (hg:Z7 (d::(x++y))=1):lcd (x++y) d (x++y).length=d:=by
  have:=Qlf (z:=x++y) hd (x++y).length (Nat.le_refl _)
  rw [List.take_length,hg] at this
  simpa using this
theorem Q2q {z:List Int} {d:Int} (hd:0<d) {i:Nat} (hi:i≤z.length):Qn (lcd z d i)≤Qn d:=by
  have h:=Qlf (z:=z) hd i hi
  refine X4 ?_
  have h0:Z7 (d::z.take i)≠0:=fun e=>by rw [e] at h; simp at h; omega
  have:d.natAbs=(lcd z d i).natAbs*Z7 (d::z.take i):=by
    conv=>lhs; rw [←h]
    rw [Int.natAbs_mul]; simp
  rw [this]
  exact Nat.le_mul_of_pos_right _ (Nat.pos_of_ne_zero h0)
end Orr
