/- N27 P1 -/
import Derived.Test.YtledghfgedoofaaGreatPart02
set_option linter.all false
namespace Orr
open Go
section
variable {F:Fr} {bl bl':Nat→OB} {U U':Nat→Prop} {E E':Vh} {M:Nat→Prop} {w:World}
theorem HS.renum (h:HS F bl U E M w) {ρ:Nat→Nat} (hi:∀ i j,ρ i=ρ j→i=j) (hb:∀ j,(bl' j).lv=true→bl (ρ j)=Uq ρ (bl' j)) (hU:∀ j,U' j→bl' j=.gone) (h1:∀ j,U' j→E' j=none) (h2:∀ j,¬U' j→E' j=E (ρ j)) (hids:∀ j,∀ i∈(bl' j).ids,¬U' i) (hJ:∀ j,F.J j→ρ j=j∧¬U' j):HS F bl' U' E' M w:=by
  have hlu:∀ j,(bl' j).lv=true→¬U' j:=fun j hj hu=>by rw [hU j hu] at hj; cases hj
  have hlv:∀ j,(bl' j).lv=true→(bl (ρ j)).lv=true:=fun j hj=>by rw [hb j hj,(Yl _).1]; exact hj
  exact {
    size:=h.size
    kept:=h.kept
    io:=h.io
    mlt:=h.mlt
    m0:=h.m0
    ids:=fun i hi=>by obtain ⟨e,hu⟩:=hJ i hi; rw [h2 i hu,e]; exact h.ids i hi
    nj:=fun i hi hj=>by
      have hl:(bl' i).lv=true:=by cases e:bl' i <;> rw [e] at hi <;> first | rfl | cases hi
      refine h.nj i ?_ hj
      have:=hb i hl
      rw [(hJ i hj).1] at this
      rw [this,(Yl _).2]; exact hi
    blk:=fun j=>by
      cases hl:(bl' j).lv with
      | false=>cases hbl:bl' j <;> rw [hbl] at hl <;> first | trivial | cases hl
      |
       true =>
       have:=h.blk (ρ j)
       rw [hb j hl] at this
       exact this.to (fun _=>h2 j (hlu j hl)) fun i hi _=>h2 i (hids j i hi)
    nk:=fun i g c m hl e=>h.nk (ρ i) g c m (hlv i hl) (by rw [←h2 i (hlu i hl)]; exact e)
    inj:=fun i j g c m c' m' hli hlj ei ej=>hi _ _ (h.inj (ρ i) (ρ j) g c m c' m' (hlv i hli) (hlv j hlj) (by rw [←h2 i (hlu i hli)]; exact ei) (by rw [←h2 j (hlu j hlj)]; exact ej))
    un:=fun i hi=>⟨h1 i hi,hU i hi⟩
    uj:=fun i hi hj=>(hJ i hj).2 hi }
end
variable {P:Program} {n:Nat} {L L':Sg} {B B':List OB} {Q:Exit→Sg→List OB→Prop}
def eqA:AV→AV→Option V4
  | .v t,.v u=>some [(.t t,.t u)]
  | .tup l,.tup r=>Qc2 l r
  | .cnd b t,.cnd c u=>some [(.t (.one (.bool b)),.t (.one (.bool c))),(.t t,.t u)]
  | _,_=>none
theorem Qzp {x y:AV} {q:V4} (h:eqA x y=some q) (hq:EqOk q):x=y:=by
  cases x <;> cases y <;> simp only [eqA] at h <;> first | (cases h; done) | skip
  · injection h with h; subst h; have e:=hq.hd; injection e with e; rw [e]
  · rw [Nn h hq]
  · injection h with h; subst h
    have e:=hq.hd; injection e with e; injection e with e; injection e with e
    have e2:=hq.tl.hd; injection e2 with e2
    rw [e,e2]
def Qw2 (nb:Nat) (L:Sg):Sg→Option V4
  | []=>some []
  |
   (t,x)::l=>match lk L t with
   |
    some y=>match eqA y x,Qw2 nb L l with
    |
     some q,some q2=>match Wn (Nat.blt · nb) x.ids with
     | true=>some (Hu q q2)
     | false=>none
    | _,_=>none
   | none=>none
theorem Ql1 {nb:Nat}:∀ {l:Sg} {q:V4},Qw2 nb L l=some q→EqOk q→∀ t x,lk l t=some x→lk L t=some x∧∀ i∈x.ids,i<nb
  | [],_,_,_,t,x,h=>by simp [lk] at h
  |
   (s,y)::l,q,h,hq,t,x,hx=>by
   simp only [Qw2] at h
   split at h
   · rename_i z hz
     split at h
     · rename_i q1 q2 h1 h2
       split at h
       · rename_i hi
         injection h with h; subst h
         rw [Yh] at hq
         obtain ⟨ha,hb⟩:=hq.app
         simp only [lk] at hx
         split at hx
         · rename_i e
           injection hx with hx; subst hx
           obtain rfl:=Nat.eq_of_beq_eq_true e
           refine ⟨by rw [hz,Qzp h1 ha],fun i hm=>?_⟩
           have:=X2 hi i hm
           rwa [Nat.blt_eq] at this
         · exact Ql1 h2 hb t x hx
       · cases h
     · cases h
   · cases h
def Bq:OB→Bool
  | .gone=>true
  | _=>false
def Qnl (nb:Nat):List OB→List OB→Option V4
  | _,[]=>some []
  |
   [],c::l=>match Bq c with
   | true=>Qnl nb [] l
   | false=>none
  |
   b::r,c::l=>match Qnl nb r l with
   |
    some q=>match Bq c with
    | true=>some q
    |
     false=>match Wn (Nat.blt · nb) c.ids with
     | true=>some ((.o b,.o c)::q)
     | false=>none
   | none=>none
theorem Lt {nb:Nat}:∀ {r l:List OB} {q:V4},Qnl nb r l=some q→EqOk q→∀ j,(ob l j).lv=true→ob r j=ob l j∧∀ i∈(ob l j).ids,i<nb
  | _,[],_,_,_,j,hj=>by simp [ob,OB.lv] at hj
  |
   [],c::l,q,h,hq,j,hj=>by
   simp only [Qnl] at h
   split at h
   · rename_i hg
     cases j with
     | zero=>cases c <;> simp [Bq] at hg; simp [ob,OB.lv] at hj
     |
      succ j =>
      have:=Lt h hq j (by simpa [ob] using hj)
      simpa [ob] using this
   · cases h
  |
   b::r,c::l,q,h,hq,j,hj=>by
   simp only [Qnl] at h
   split at h
   · rename_i q' hq'
     split at h
     · rename_i hg
       injection h with h; subst h
       cases j with
       | zero=>cases c <;> simp [Bq] at hg; simp [ob,OB.lv] at hj
       |
        succ j =>
        have:=Lt hq' hq j (by simpa [ob] using hj)
        simpa [ob] using this
     · split at h
       · rename_i hi
         injection h with h; subst h
         have e:=hq.hd; injection e with e
         cases j with
         |
          zero =>
          refine ⟨by simpa [ob] using e,fun i hm=>?_⟩
          have:=X2 hi i (by simpa [ob] using hm)
          rwa [Nat.blt_eq] at this
         |
          succ j =>
          have:=Lt hq' hq.tl j (by simpa [ob] using hj)
          simpa [ob] using this
       · cases h
   · cases h
def Qnm (k:Option Nat) (L:Sg) (B:List OB) (L2:Sg) (B2:List OB):Option V4:=match lenB B,lenB B2 with
  |
   some n1,some n2=>match (match Nat.ble n1 n2 with
     | true=>true
     |
      false=>match k with
      | some k=>Nat.ble k n2
      | none=>false) with
   |
    true=>match Qw2 n2 L L2,Qnl n2 B B2 with
    | some q,some q2=>some (Hu q q2)
    | _,_=>none
   | false=>none
  | _,_=>none
theorem Qwq:∀ b:OB,Uq id b=b
  |
   .blk T xs=>by
   have e:∀ ys:List LV,ys.map (Qce id)=ys:=fun ys=>by
     induction ys with
     | nil=>rfl
     | cons y ys ih=>simp only [List.map_cons,ih]; cases y <;> rfl
   have e2:∀ ys:List LV,ys.map (Pq id)=ys:=fun ys=>by
     induction ys with
     | nil=>rfl
     | cons y ys ih=>simp only [List.map_cons,ih]; cases y <;> simp [Pq,e]
   simp only [Uq,e2]
  | .gone=>rfl
  | .row .. => rfl
  | .mpb _=>rfl
theorem Lu {k:Option Nat} {L2:Sg} {B2:List OB} {q:V4} (h:Qnm k L B L2 B2=some q) (hq:EqOk q):Q1n k n L B L2 B2:=by
  unfold Qnm at h
  split at h
  · rename_i n1 n2 h1 h2
    obtain rfl:=Yw h1
    obtain rfl:=Yw h2
    split at h
    · rename_i hk
      split at h
      · rename_i q1 q2 hs hb
        injection h with h; subst h
        rw [Yh] at hq
        obtain ⟨ha,hbq⟩:=hq.app
        have hs:=Ql1 hs ha
        have hb:=Lt hb hbq
        intro F E M a w hF hsa
        have hJ:∀ j,F.J j→j<B2.length:=fun j hj=>by
          apply Classical.byContradiction
          intro hn
          split at hk
          · rename_i e
            have:=Nat.le_of_ble_eq_true e
            exact hsa.hs.uj j (by simp only [nw]; omega) hj
          · split at hk
            · have:=Nat.le_of_ble_eq_true hk
              exact hF j (by omega) hj
            · cases hk
        refine ⟨fun i=>if i<B2.length then E i else none,M,hsa.hs.renum (ρ:=id) (fun _ _ e=>e) (fun j hj=>?_) (fun j hj=>Z5 hj) (fun j hj=>if_neg (by simpa [nw] using hj)) (fun j hj=>if_pos (by simpa [nw] using hj)) (fun j i hi=>?_) (fun j hj=>⟨rfl,by have:=hJ j hj; simp only [nw]; omega⟩),hsa.size,hsa.defers,fun t x hx=>?_⟩
        · rw [Qwq]; exact (hb j hj).1
        · have hl:(ob B2 j).lv=true:=by cases e:ob B2 j <;> rw [e] at hi <;> first | rfl | simp [OB.ids] at hi
          have:=(hb j hl).2 i hi
          simp only [nw]; omega
        · obtain ⟨h1,h2⟩:=hs t x hx
          obtain ⟨v,h3,h4⟩:=hsa.slots t x h1
          exact ⟨v,h3,h4.keep (Le.refl _ _) fun i hi _=>if_pos (h2 i hi)⟩
      · cases h
    · cases h
  · cases h
def two:Option V4→Option (List Qv×List Qv)
  | some q=>some (q.map (·.1),q.map (·.2))
  | none=>none
theorem Py {o:Option V4} {as0:List Qv} (h:two o=some (as0,as0)):∃ q,o=some q∧EqOk q:=by
  cases o with
  | none=>cases h
  |
   some q =>
   injection h with h; injection h with e1 e2
   exact ⟨q,rfl,EqOk.of (e1.trans e2.symm)⟩
theorem sb {it:List It} (L2:Sg) (B2:List OB) {as0:List Qv} (hs:Jj it=true) (h:two (Qnm none L B L2 B2)=some (as0,as0)) (k:AK P n Q it L2 B2):AK P n Q it L B:=by
  obtain ⟨q,h1,h2⟩:=Py h
  exact AK.sub (fun F E M a w hsa=>Lu h1 h2 F E M a w trivial hsa) hs k
theorem pb (i:Nat) {it:List It} (hs:Jj it=true) (h:Qb9 L B i=some (L',B')) (k:AK P n Q it L' B'):AK P n Q it L B:=Qn1 hs h k
def Aw:LV→LV
  | .nils=>.row []
  | x=>x
theorem Qv3 {w:World} {M:Nat→Prop} {v:Value} {x:LV} (h:LRep w M v x):LRep w M v (Aw x):=by
  cases x <;> first | exact h | exact Rt h
theorem nl (
 i:Nat) {fx:Bool} {T:TypeId} {sz:Nat} {ls:List (List LV)} {it:List It} (hs:Jj it=true) (hb:Hl B i=some (.row fx T sz ls)) (hB:Gk B i (.row fx T sz (ls.map fun c=>c.map Aw))=some B') (k:AK P n Q it L B'):AK P n Q it L B:=by
  obtain ⟨rfl,hl⟩:=Ks hB
  have hbi:B[i]? = some (.row fx T sz ls):=J6 ▸ hb
  refine AK.sub (fun F E M a w h=>⟨E,M,?_,h.size,h.defers,h.slots⟩) hs k
  rw [Ax,B7 hbi]
  have hn:(ls.map fun c=>c.map Aw).length=ls.length:=by simp
  refine h.hs.re (fun j=>?_) (fun j=>?_) (fun j=>?_) fun j hj=>?_
  · by_cases e:j=i
    · subst e
      rw [Qq]
      obtain ⟨h0,h1,q,h2,h3⟩:=h.blk hb
      refine ⟨h0,fun c hc=>?_,q,by rw [hn]; exact h2,?_⟩
      · obtain ⟨c',hc',rfl⟩:=List.mem_map.1 hc
        rw [List.length_map]; exact h1 c' hc'
      · cases q with
        | none=>have h3:ls=[]:=h3; subst h3; rfl
        |
         some q =>
         obtain ⟨vss,ex,h4,h5,h6,h7⟩:=h3
         refine ⟨vss,ex,?_,h5,h6,by rw [hn]; exact h7⟩
         refine F2.of (by rw [hn]; exact h4.len) fun k v x hv hx=>?_
         rw [List.getElem?_map] at hx
         cases hy:ls[k]? with
         | none=>rw [hy] at hx; cases hx
         |
          some y =>
          rw [hy] at hx; injection hx with hx; subst hx
          have h8:=h4.get' hv hy
          refine F2.of (by rw [List.length_map]; exact h8.len) fun m u z hu hz=>?_
          rw [List.getElem?_map] at hz
          cases hy2:y[m]? with
          | none=>rw [hy2] at hz; cases hz
          | some y2=>rw [hy2] at hz; injection hz with hz; subst hz; exact Qv3 (h8.get' hu hy2)
    · rw [Q3 _ _ e]; exact h.hs.blk j
  · by_cases e:j=i
    · subst e; rw [Qq,X6 hbi]; rfl
    · rw [Q3 _ _ e]
  · by_cases e:j=i
    · subst e; rw [Qq,X6 hbi]; rfl
    · rw [Q3 _ _ e]
  · by_cases e:j=i
    · subst e; rw [X6 hbi] at hj; cases hj
    · rw [Q3 _ _ e]; exact hj
theorem Qv5 {w:World} {M:Nat→Prop} {E:Vh} {v:Value} {x:LV} (h:XRep w M E v x):XRep w M E v (Aw x):=by
  cases x <;> first | exact h | exact Rt h
theorem nlb (i:Nat) {T:TypeId} {xs:List LV} {it:List It} (hs:Jj it=true) (hb:Hl B i=some (.blk T xs)) (hB:Gk B i (.blk T (xs.map Aw))=some B') (k:AK P n Q it L B'):AK P n Q it L B:=by
  obtain ⟨rfl,hl⟩:=Ks hB
  have hbi:B[i]? = some (.blk T xs):=J6 ▸ hb
  refine AK.sub (fun F E M a w h=>⟨E,M,?_,h.size,h.defers,h.slots⟩) hs k
  rw [Ax,B7 hbi]
  refine h.hs.re (fun j=>?_) (fun j=>?_) (fun j=>?_) fun j hj=>?_
  · by_cases e:j=i
    · subst e
      rw [Qq]
      obtain ⟨g,c,m,h1,cs,h2,h3⟩:=h.blk hb
      refine ⟨g,c,m,h1,cs,h2,F2.of (by rw [List.length_map]; exact h3.len) fun k v x hv hx=>?_⟩
      rw [List.getElem?_map] at hx
      cases hy:xs[k]? with
      | none=>rw [hy] at hx; cases hx
      | some y=>rw [hy] at hx; injection hx with hx; subst hx; exact Qv5 (h3.get' hv hy)
    · rw [Q3 _ _ e]; exact h.hs.blk j
  · by_cases e:j=i
    · subst e; rw [Qq,X6 hbi]; rfl
    · rw [Q3 _ _ e]
  · by_cases e:j=i
    · subst e; rw [Qq,X6 hbi]; rfl
    · rw [Q3 _ _ e]
  · by_cases e:j=i
    · subst e; rw [X6 hbi] at hj; cases hj
    · rw [Q3 _ _ e]; exact hj
def Qdn:List It→Bool
  | .code _::_=>true
  | .ops _ (_::_)::_=>true
  | .ops _ []::r=>Qdn r
  | .blk _::r=>Qdn r
  | .pst _::r=>Qdn r
  | _=>false
theorem AK.fact {p:Prop} (hp:∀ F E M a w,SA F n L B E M a w→p):∀ {it:List It},Qdn it=true→(p→AK P n Q it L B)→AK P n Q it L B
  | .code _::_,_,k=>fun F E M a w hs=>k (hp F E M a w hs) F E M a w hs
  | .ops _ (_::_)::_,_,k=>fun F E M a w K Q hs hK=>k (hp F E M a w hs) F E M a w K Q hs hK
  | .ops _ []::r,hs,k=>AK.fact (it:=r) hp hs k
  | .blk _::r,hs,k=>AK.fact (it:=r) hp hs k
  | .pst _::r,hs,k=>AK.fact (it:=r) hp hs k
theorem ln (t:Nat) {l:List (List LV)} {it:List It} (hl:lk L t=some (.v (.one (.row l)))) (hs:Qdn it=true) (k:l.length<9223372036854775808→AK P n Q it L B):AK P n Q it L B :=
  AK.fact (fun F E M a w h=>by
    obtain ⟨v,_,h2⟩:=h.slots t _ hl
    have h2:LRep w M v (.row l):=h2
    cases h2 with
    | row A c sz b o l f hc hc63=>exact Nat.lt_of_le_of_lt hc hc63) hs k
def Qp3:List Oper→List Nat→List Nat
  | [],r=>r
  |
   o::l,r=>match o.dst with
   | some d=>d::Qp3 l r
   | none=>Qp3 l r
def Qf9:Code→List Nat→List Nat
  | .region _ arr _,r=>Qp3 arr.toList r
  | .seq a b,r=>Qf9 a (Qf9 b r)
  | .cond _ a b,r=>Qf9 a (Qf9 b r)
  | .block _ c,r=>Qf9 c r
  | .loop c,r=>Qf9 c r
  | .scope c,r=>Qf9 c r
  | _,r=>r
def prn (ks:List Nat):Sg→Option Sg
  | []=>some []
  |
   (t,v)::l=>match J3 t ks with
   | true=>prn ks l
   |
    false=>match prn (t::ks) l with
    | some r=>some ((t,v)::r)
    | none=>none
theorem lp {S:Type} {c:Code} {r:List It} {L1:Sg} (k:Nat) (st:Sg→S→Sg) (bs:S→List OB) (μ:S→Nat) (I:S→Prop) (s0:S) (h0:I s0) (hL:prn (Qf9 c []) L=some L1) (hk:∀ s,I s→(bs s).length=k) {as0:List Qv} (hs:two (Qnm none L B (st L1 s0) (bs s0))=some (as0,as0))
    (round:∀ s,I s→AK P n Q (.code c::.rnd (some k) (fun L B=>∃ s',μ s'<μ s∧I s'∧L=st L1 s'∧B=bs s')::r) (st L1 s) (bs s)):AK P n Q (.code (.loop c)::r) L B:=by
  obtain ⟨q,h1,h2⟩:=Py hs
  refine Qt6 (fun m L B=>∃ s,m=μ s∧I s∧L=st L1 s∧B=bs s) (m:=μ s0) (k:=k) (fun m L B ⟨s,_,hI,_,hB⟩=>by rw [hB,hk s hI]; exact Nat.le_refl _) ⟨_,_,fun F E M a w hsa=>Lu h1 h2 F E M a w trivial hsa,s0,rfl,h0,rfl,rfl⟩ fun m L B ⟨s,hm,hI,hL,hB⟩=>?_
  subst hm; subst hL; subst hB
  have:=round s hI
  have e:(fun (L:Sg) (B:List OB)=>∃ m',m'<μ s∧∃ s',m'=μ s'∧I s'∧L=st L1 s'∧B=bs s')=fun L B=>∃ s',μ s'<μ s∧I s'∧L=st L1 s'∧B=bs s':=by
    funext L B
    exact propext ⟨fun ⟨_,h1,s',e,h2⟩=>⟨s',e ▸ h1,h2⟩,fun ⟨s',h1,h2⟩=>⟨_,h1,s',rfl,h2⟩⟩
  rw [e]
  exact this
theorem rd {S:Type} {r:List It} {k:Option Nat} {st:S→Sg} {bs:S→List OB} {μ:S→Nat} {I:S→Prop} {m:Nat} (s':S) (hμ:μ s'<m) (hI:I s') {as0:List Qv} (hs:two (Qnm k L B (st s') (bs s'))=some (as0,as0)):AK P n Q (.rnd k (fun L B=>∃ s',μ s'<m∧I s'∧L=st s'∧B=bs s')::r) L B:=by
  obtain ⟨q,h1,h2⟩:=Py hs
  exact ⟨_,_,Lu h1 h2,s',hμ,hI,rfl,rfl⟩
theorem ct (j:Nat) {S:Type} {it:List It} (st:S→Sg) (bs:S→List OB) (I:S→Prop) (hs:Jj (it.drop j)=true) (hx:AK P n Q (it.take j++.rnd none (fun L B=>∃ s',I s'∧L=st s'∧B=bs s')::it.drop j) L B) (hy:∀ s,I s→AK P n Q (it.drop j) (st s) (bs s)):AK P n Q it L B :=
  Q2h j _ hx hs fun L B ⟨s,hI,hL,hB⟩=>by subst hL; subst hB; exact hy s hI
theorem rc {S:Type} {r:List It} {k:Option Nat} {st:S→Sg} {bs:S→List OB} {I:S→Prop} (s':S) (hI:I s') {as0:List Qv} (hs:two (Qnm k L B (st s') (bs s'))=some (as0,as0)):AK P n Q (.rnd k (fun L B=>∃ s',I s'∧L=st s'∧B=bs s')::r) L B:=by
  obtain ⟨q,h1,h2⟩:=Py hs
  exact ⟨_,_,Lu h1 h2,s',hI,rfl,rfl⟩
theorem Jb {f:FuncId} {fn:Func} {c:Code} {args res:List TV} {Bin Bout:List OB} (hf:P.funcs[f]? = some fn) (hh:(fn.body,fn.ntmps,(fn.name == "runtime.NumGoroutine"),Nat.ble args.length n)=(some c,n,false,true)) (h:AK P n (RQ P fn n Bin.length fun u B=>u=res∧B=Bout) [.code c] (Sp 0 args) Bin):Xt P f args Bin res Bout:=by
  injection hh with hb hh; injection hh with hn hh; injection hh with hnm hl
  exact ⟨⟨fn,hf,hnm,by rw [hb]; rfl⟩,fn_ hf hb hn hl h⟩
def enE (T:TT P) (n:Nat) (rs:List ResultVar) (it:List It) (L:Sg) (B:List OB) (hs:List (H P)):Option (List TV×List Qv×List Qv×List Prop):=match run T n 100000 it L B hs [] [] with
  |
   some (it,L,B,q,ob)=>match Ob it with
   |
    true=>match Qqe T 100 L B rs with
    |
     some us=>match Qeu ob with
     | some ob=>some (us,q.map (·.1),q.map (·.2),ob)
     | none=>none
    | none=>none
   | false=>none
  | none=>none
theorem en [Mo P] (T:TT P) {fn:Func} {res us:List TV} {it:List It} {as0:List Qv} {ob:List Prop} (hs:List (H P)) (h:enE T n fn.results.toList it L B hs=some (us,as0,as0,ob)) (he:us=res) (ho:Qa ob):AK P n (RQ P fn n 0 fun u B=>u=res∧B=[]) it L B:=by
  subst he
  unfold enE at h
  split at h
  · rename_i it L B q ob' hr
    split at h
    · rename_i hend
      split at h
      · rename_i us' hfin
        split at h <;> first | (cases h; done) | skip
        rename_i ob2 hnp
        obtain rfl:=Mq hnp
        injection h with h; injection h with e1 h; injection h with e2 h; injection h with e3 e4; subst e1; subst e4
        have hq:EqOk q:=EqOk.of (e2.trans e3.symm)
        obtain ⟨_,_,k⟩:=Qck (Q:=RQ P fn n 0 fun u B=>u=us'∧B=[]) T _ _ _ _ _ _ _ _ _ _ _ _ hr hq ho
        refine k ?_
        unfold Ob at hend
        split at hend
        · exact Qgg (E4 (.inl rfl) hfin)
        · exact E4 (.inr rfl) hfin
        · cases hend
      · cases h
    · cases h
  · cases h
def finD (T:TT P) (k:Nat) (L:Sg) (B:List OB) (rs:List ResultVar) (res:List TV) (Bout:List OB) (is:List Nat):Option V4:=match Qfm T L B rs,Xx (tvO (rnL is)) res,outB is B is Bout with
  |
   some us,some rs',some q2=>match Fb us with
   |
    some us=>match Qc2 us rs' with
    |
     some q=>match seqP k 0 is,ndp is,Nat.beq is.length Bout.length with
     | true,true,true=>some (Hu q q2)
     | _,_,_=>none
    | none=>none
   | none=>none
  | _,_,_=>none
where
  outB (
   is0:List Nat) (B:List OB):List Nat→List OB→Option V4
    |
     i::is,c::l=>match outB is0 B is l with
     |
      some q=>match Bq c with
      | true=>some q
      |
       false=>match Hl B i,Ru (rnL is0) c with
       | some b,some c'=>some ((.o b,.o c')::q)
       | _,_=>none
     | none=>none
    | _,_=>some []
  seqP:Nat→Nat→List Nat→Bool
    | 0,_,_=>true
    |
     k+1,j,i::l=>match Nat.beq i j with
     | true=>seqP k (j+1) l
     | false=>false
    | _+1,_,[]=>false
theorem Li {is0:List Nat} {c0:Nat}:∀ {is:List Nat} {l:List OB} {q:V4},finD.outB is0 B is l=some q→EqOk q→∀ (j:Nat) (i:Nat) (c:OB),is[j]? = some i→l[j]? = some c→c.lv=true→ob B i=Uq (No is0 c0) c∧∀ m∈c.ids,m<is0.length
  | [],l,_,_,_,j,i,c,h,_,_=>by simp at h
  | _::_,[],_,_,_,j,i,c,_,h,_=>by simp at h
  |
   x::is,d::l,q,h,hq,j,i,c,hi,hc,hl=>by
   simp only [finD.outB] at h
   split at h
   · rename_i q' hq'
     split at h
     · rename_i hg
       injection h with h; subst h
       cases j with
       | zero=>simp at hc; subst hc; cases d <;> simp [Bq,OB.lv] at hg hl
       | succ j=>exact Li hq' hq j i c (by simpa using hi) (by simpa using hc) hl
     · split at h
       · rename_i b c' hb hc'
         injection h with h; subst h
         cases j with
         |
          zero =>
          simp at hi hc; subst hi; subst hc
          have e:=hq.hd; injection e with e
          obtain ⟨h1,h2⟩:=Qh9 (c:=c0) (Pre.refl is0) hc'
          exact ⟨by rw [X6 (J6 ▸ hb),e,h1],h2⟩
         | succ j=>exact Li hq' hq.tl j i c (by simpa using hi) (by simpa using hc) hl
       · cases h
   · cases h
theorem Qcl:∀ {k j:Nat} {l:List Nat},finD.seqP k j l=true→∀ m,m<k→l[m]? = some (j+m)
  | 0,_,_,_,m,h=>by omega
  | k+1,j,[],h,_,_=>by simp [finD.seqP] at h
  |
   k+1,j,i::l,h,m,hm=>by
   simp only [finD.seqP] at h
   split at h
   · rename_i e
     cases m with
     | zero=>simp [Nat.eq_of_beq_eq_true e]
     |
      succ m =>
      have:=Qcl h m (by omega)
      rw [show j+(m+1)=j+1+m from by omega]
      simpa using this
   · cases h
theorem Qn9:∀ is:List Nat,∃ c,∀ i∈is,i<c
  | []=>⟨0,fun i hi=>by simp at hi⟩
  |
   x::is=>by
   obtain ⟨c,hc⟩:=Qn9 is
   refine ⟨c+x+1,fun i hi=>?_⟩
   rcases List.mem_cons.1 hi with rfl | hi
   · omega
   · have:=hc i hi; omega
theorem Qkd {T:TT P} {fn:Func} {k:Nat} {e:Exit} (he:e=.ret∨e=.normal) {res:List TV} {Bout:List OB} {is:List Nat} {q:V4} (h:finD T k L B fn.results.toList res Bout is=some q) (hq:EqOk q):RQ P fn n k (fun u B=>u=res∧B=Bout) e L B:=by
  unfold finD at h
  split at h
  · rename_i us rs' q2 h1 h2 h3
    split at h
    · rename_i us2 hf
      split at h
      · rename_i q1 hz
        split at h
        · rename_i hsp hnd hlen
          injection h with h; subst h
          rw [Yh] at hq
          obtain ⟨ha,hb⟩:=hq.app
          have hlen:=Nat.eq_of_beq_eq_true hlen
          refine ⟨he,fun F E M a w hs hJ=>?_⟩
          -- a Zj for all numbers
          obtain ⟨c,hc⟩:=Qn9 is
          have hrho:∀ i j,No is c i=No is c j→i=j:=fun i j e=>by
            simp only [No,Wv] at e
            cases hi:is[i]? with
            |
             none =>
             cases hj:is[j]? with
             | none=>simp only [hi,hj] at e; omega
             | some b=>simp only [hi,hj] at e; have:=hc b (List.mem_of_getElem? hj); omega
            |
             some a =>
             cases hj:is[j]? with
             | none=>simp only [hi,hj] at e; have:=hc a (List.mem_of_getElem? hi); omega
             | some b=>simp only [hi,hj] at e; subst e; exact Qby hnd i j a hi hj
          have hof:∀ j i,is[j]? = some i→No is c j=i:=fun j i h=>Ce (Pre.refl is) (by rw [Wv]; exact h)
          obtain ⟨hr1,hr2⟩:=Lq (c:=c) (Pre.refl is) h2
          obtain ⟨vs,h4,h5⟩:=Lo hs h1
          have h6:=Fu hf h4
          rw [Nn hz ha,hr1] at h6
          let E':Vh:=fun j=>if j<Bout.length then E (No is c j) else none
          have hE':∀ j,j<Bout.length→E' j=E (No is c j):=fun j hj=>if_pos hj
          have h7:F2 (TRep w M E') vs res:=F2.of (by rw [h6.len]; simp) fun j v t hv ht=>by
            have:=h6.get' (b:=Dq (No is c) t) hv (by simp [ht])
            exact this.to fun i hi _=>hE' i (by have:=hr2 t (List.mem_of_getElem? ht) i hi; omega)
          obtain ⟨r,h8,h9⟩:=Dh h5 h7
          have hkl:k≤Bout.length:=by
            cases k with
            | zero=>omega
            | succ k=>have:=(List.getElem?_eq_some_iff.1 (Qcl hsp k (by omega))).1; omega
          refine ⟨r,res,Bout,E',M,h8,⟨rfl,rfl⟩,hkl,hs.hs.renum (ρ:=No is c) hrho (fun j hj=>?_) (fun j hj=>Z5 hj) (fun j hj=>if_neg (by simpa [nw] using hj)) (fun j hj=>hE' j (by simpa [nw] using hj)) (fun j i hi=>?_) (fun j hj=>?_),h9⟩
          · have hjl:j<Bout.length:=by
              apply Classical.byContradiction
              intro hn
              rw [Z5 (by omega)] at hj; cases hj
            have g1:is[j]? = some is[j]:=List.getElem?_eq_getElem (by omega)
            have g2:=List.getElem?_eq_getElem hjl
            rw [X6 g2] at hj ⊢
            rw [hof j _ g1]
            exact (Li (c0:=c) h3 hb j _ _ g1 g2 hj).1
          · have hl:(ob Bout j).lv=true:=by cases e:ob Bout j <;> rw [e] at hi <;> first | rfl | simp [OB.ids] at hi
            have hjl:j<Bout.length:=by
              apply Classical.byContradiction
              intro hn
              rw [Z5 (by omega)] at hl; cases hl
            have g1:is[j]? = some is[j]:=List.getElem?_eq_getElem (by omega)
            have g2:=List.getElem?_eq_getElem hjl
            rw [X6 g2] at hl hi
            have:=(Li (c0:=c) h3 hb j _ _ g1 g2 hl).2 i hi
            simp only [nw]; omega
          · have hjk:j<k:=by
              apply Classical.byContradiction
              intro hn
              exact hJ j (by omega) hj
            have:=Qcl hsp j hjk
            rw [Nat.zero_add] at this
            exact ⟨hof j j this,by simp only [nw]; omega⟩
        · cases h
      · cases h
    · cases h
  · cases h
def Qsf:List Nat→Sg→List OB→Option (Sg×List OB)
  | [],L,B=>some (L,B)
  |
   i::l,L,B=>match Qb9 L B i with
   | some (L',B')=>Qsf l L' B'
   | none=>none
theorem Lk:∀ {l:List Nat} {L L':Sg} {B B':List OB},Qsf l L B=some (L',B')→Sub n L B L' B'
  | [],_,_,_,_,h=>by injection h with h; injection h with e1 e2; subst e1; subst e2; exact Sub.refl
  |
   i::l,L,L',B,B',h=>by
   simp only [Qsf] at h
   split at h
   · rename_i hp; exact (Ll hp).trans (Lk h)
   · cases h
theorem RQ.sub {fn:Func} {k:Nat} {Post:List TV→List OB→Prop} {e:Exit} (h:Sub n L B L' B') (hr:RQ P fn n k Post e L' B'):RQ P fn n k Post e L B:=⟨hr.1,fun F E M a w hs hJ=>by
  obtain ⟨E',M',h1⟩:=h F E M a w hs
  exact hr.2 F E' M' a w h1 hJ⟩
def edE (T:TT P) (n k:Nat) (rs:List ResultVar) (it:List It) (L:Sg) (B:List OB) (hs:List (H P)) (res:List TV) (Bout:List OB) (ps is:List Nat):Option (List Qv×List Qv×List Prop):=match run T n 100000 it L B hs [] [] with
  |
   some (it,L,B,q,ob)=>match Ob it with
   |
    true=>match Qsf ps L B with
    |
     some (L,B)=>match finD T k L B rs res Bout is with
     |
      some q2=>(match Qeu ob with
      | some ob=>some ((Hu q q2).map (·.1),(Hu q q2).map (·.2),ob)
      | none=>none)
     | none=>none
    | none=>none
   | false=>none
  | none=>none
theorem ed [Mo P] (T:TT P) {fn:Func} {k:Nat} {res:List TV} {Bout:List OB} {it:List It} {as0:List Qv} {ob:List Prop} (ps is:List Nat) (hs:List (H P)) (h:edE T n k fn.results.toList it L B hs res Bout ps is=some (as0,as0,ob)) (ho:Qa ob):AK P n (RQ P fn n k fun u B=>u=res∧B=Bout) it L B:=by
  unfold edE at h
  split at h
  · rename_i it L B q ob' hr
    split at h
    · rename_i hend
      split at h
      · rename_i L2 B2 hp
        split at h
        · rename_i q2 hfin
          split at h <;> first | (cases h; done) | skip
          rename_i ob2 hnp
          obtain rfl:=Mq hnp
          injection h with h; injection h with e2 h; injection h with e3 e4; subst e4
          have hq:EqOk (Hu q q2):=EqOk.of (e2.trans e3.symm)
          rw [Yh] at hq
          obtain ⟨ha,hb⟩:=hq.app
          obtain ⟨_,_,k⟩:=Qck (Q:=RQ P fn n k fun u B=>u=res∧B=Bout) T _ _ _ _ _ _ _ _ _ _ _ _ hr ha ho
          refine k ?_
          unfold Ob at hend
          split at hend
          · exact Qgg (RQ.sub (Lk hp) (Qkd (.inl rfl) hfin hb))
          · exact RQ.sub (Lk hp) (Qkd (.inr rfl) hfin hb)
          · cases hend
        · cases h
      · cases h
    · cases h
  · cases h
end Orr

namespace Orr
open Go
def Cut (l:List Nat) (m:Nat):Prop:=m≤l.length∧(∀ j,m≤j→j<l.length→l[j]? = some 0)∧(0<m→∃ x,l[m-1]? = some x∧x≠0)
def val:List Nat→Nat
  | []=>0
  | x::l=>x+4294967296*val l
def Nrm (l:List Nat):Prop:=(∀ x∈l,x<4294967296)∧(l≠[]→∃ x,l[l.length-1]? = some x∧x≠0)
def sz (x:Nat):Nat:=if x=0 then 0 else x.log2+1
theorem Kc {x k:Nat}:sz x≤k↔x<2^k:=by
  unfold sz
  split
  · rename_i h; subst h; simp [Nat.pow_pos]
  · rename_i h
    rw [Nat.succ_le_iff,Nat.log2_lt h]
theorem Ar (x:Nat):x<2^sz x:=Kc.1 (Nat.le_refl _)
theorem Ym {x y:Nat} (h:x≤y):sz x≤sz y:=Kc.2 (Nat.lt_of_le_of_lt h (Ar y))
theorem Q01 (x y:Nat):sz (x+y)≤max (sz x) (sz y)+1:=by
  rw [Kc,Nat.pow_succ]
  have h1:x<2^max (sz x) (sz y):=Kc.1 (Nat.le_max_left _ _)
  have h2:y<2^max (sz x) (sz y):=Kc.1 (Nat.le_max_right _ _)
  omega
theorem Qtg (x y:Nat):sz (x*y)≤sz x+sz y:=by
  rw [Kc,Nat.pow_add]
  rcases Nat.eq_zero_or_pos y with h | h
  · subst h; simp [Nat.pow_pos]
  · exact Nat.mul_lt_mul_of_lt_of_le (Ar x) (Nat.le_of_lt (Ar y)) (by exact Nat.pow_pos (by decide))
theorem Q03 {x:Nat} (h:0<x):0<sz x:=by
  unfold sz; split
  · omega
  · omega
theorem Y7 (l r:List Nat):val (l++r)=val l+4294967296^l.length*val r:=by
  induction l with
  | nil=>simp [val]
  | cons x l ih=>simp only [List.cons_append,val,List.length_cons,ih,Nat.pow_succ]; grind
theorem Cj (k:Nat):val (List.replicate k 0)=0:=by
  induction k with
  | zero=>rfl
  | succ k ih=>simp [List.replicate_succ,val,ih]
theorem Wg (l:List Nat) (h:∀ x∈l,x<4294967296):val l<4294967296^l.length:=by
  induction l with
  | nil=>simp [val]
  |
   cons x l ih =>
   have h1:=h x (List.mem_cons_self ..)
   have h2:=ih fun y hy=>h y (List.mem_cons_of_mem _ hy)
   simp only [val,List.length_cons,Nat.pow_succ]
   omega
theorem Q6 (l:List Nat) (i x:Nat) (h:l[i]? = some x):val (l.take (i+1))=val (l.take i)+4294967296^i*x:=by
  have hi:i<l.length:=(List.getElem?_eq_some_iff.1 h).1
  rw [List.take_add_one,h,Y7]
  simp only [Option.toList,List.length_take,Nat.min_eq_left (Nat.le_of_lt hi),val]
  simp
theorem Qmt {l:List Nat} {m:Nat} (h:Cut l m):l.drop m=List.replicate (l.length-m) 0:=by
  apply List.ext_getElem?
  intro i
  rw [List.getElem?_drop,List.getElem?_replicate]
  split
  · rename_i hi
    exact h.2.1 (m+i) (by omega) (by omega)
  · rw [List.getElem?_eq_none (by have:=h.1; omega)]
theorem Qvc {l:List Nat} {m:Nat} (h:Cut l m):val (l.take m)=val l:=by
  have:l=l.take m++l.drop m:=(List.take_append_drop m l).symm
  conv=>rhs; rw [this,Qmt h,Y7,Cj]
  simp
theorem Qvb {l:List Nat} {m:Nat} (h:Cut l m) (hl:∀ x∈l,x<4294967296):Nrm (l.take m):=by
  refine ⟨fun x hx=>hl x (List.mem_of_mem_take hx),fun hne=>?_⟩
  have hm:0<m:=by
    rcases Nat.eq_zero_or_pos m with e | e
    · subst e; simp at hne
    · exact e
  obtain ⟨x,hx,hx0⟩:=h.2.2 hm
  have hlen:(l.take m).length=m:=by rw [List.length_take]; have:=h.1; omega
  refine ⟨x,?_,hx0⟩
  rw [hlen,List.getElem?_take,if_pos (by omega),hx]
theorem Mr {l:List Nat} (h:Nrm l) (hne:l≠[]):4294967296^(l.length-1)≤val l:=by
  obtain ⟨x,hx,hx0⟩:=h.2 hne
  have hlen:0<l.length:=List.length_pos_iff.2 hne
  have:=Q6 l (l.length-1) x hx
  rw [show l.length-1+1=l.length from by omega,List.take_length] at this
  rw [this]
  calc 4294967296^(l.length-1)=4294967296^(l.length-1)*1:=by rw [Nat.mul_one]
    _≤4294967296^(l.length-1)*x:=Nat.mul_le_mul_left _ (by omega)
    _≤_:=Nat.le_add_left _ _
theorem Qv7 {l:List Nat} (h:Nrm l):32*l.length≤sz (val l)+31:=by
  rcases l with _ | ⟨x,l⟩
  · simp
  · have h1:=Mr h (by simp)
    have h2:=Ar (val (x::l))
    have h3:(4294967296:Nat)^((x::l).length-1)<2^sz (val (x::l)):=Nat.lt_of_le_of_lt h1 h2
    rw [show (4294967296:Nat)=2^32 from by decide,←Nat.pow_mul] at h3
    have:=(Nat.pow_lt_pow_iff_right (by decide:1<2)).1 h3
    omega
theorem Ms {l:List Nat} (h:Nrm l):val l=0↔l=[]:=by
  constructor
  · intro h0
    apply Classical.byContradiction
    intro hne
    have:=Mr h hne
    have:0<4294967296^(l.length-1):=Nat.pow_pos (by decide)
    omega
  · rintro rfl; rfl
theorem Qla:∀ {l r:List Nat},Nrm l→Nrm r→val l=val r→l=r
  | [],r,_,hr,h=>((Ms hr).1 h.symm).symm
  | x::l,[],hl,_,h=>(Ms hl).1 h
  |
   x::l,y::r,hl,hr,h=>by
   have hx:=hl.1 x (List.mem_cons_self ..)
   have hy:=hr.1 y (List.mem_cons_self ..)
   simp only [val] at h
   have h1:x=y:=by omega
   have h2:val l=val r:=by omega
   have tail:∀ {z:Nat} {l:List Nat},Nrm (z::l)→Nrm l:=fun {z l} hl=>⟨fun u hu=>hl.1 u (List.mem_cons_of_mem _ hu),fun hne=>by
     obtain ⟨u,hu,hu0⟩:=hl.2 (by simp)
     refine ⟨u,?_,hu0⟩
     have:=List.length_pos_iff.2 hne
     rw [List.length_cons,show l.length+1-1=(l.length-1)+1 from by omega,List.getElem?_cons_succ] at hu
     exact hu⟩
   rw [h1,Qla (tail hl) (tail hr) h2]
theorem Kq {l r:List Nat} (hl:Nrm l) (hr:Nrm r) (h:l.length<r.length):val l<val r:=by
  have h1:=Wg l hl.1
  have h2:=Mr hr (by rintro rfl; simp at h)
  have:(4294967296:Nat)^l.length≤4294967296^(r.length-1):=Nat.pow_le_pow_right (by decide) (by omega)
  omega
theorem Gp (l:List Nat) (k x:Nat) (hx:l[k]? = some x):val l=val (l.take k)+4294967296^k*(x+4294967296*val (l.drop (k+1))):=by
  have hk:k<l.length:=(List.getElem?_eq_some_iff.1 hx).1
  have e:l=l.take k++(x::l.drop (k+1)):=by
    have h2:l[k]=x:=(List.getElem?_eq_some_iff.1 hx).2
    rw [←h2,←List.drop_eq_getElem_cons hk,List.take_append_drop]
  have h1:(l.take k).length=k:=by rw [List.length_take]; omega
  conv=>lhs; rw [e,Y7,h1]
  rfl
theorem Ql8 {l r:List Nat} {k x y:Nat} (hl:∀ x∈l,x<4294967296) (hd:l.drop (k+1)=r.drop (k+1)) (hx:l[k]? = some x) (hy:r[k]? = some y) (h:x<y):val l<val r:=by
  rw [Gp l k x hx,Gp r k y hy,hd]
  have h1:=Wg (l.take k) (fun x hx=>hl x (List.mem_of_mem_take hx))
  have h2:(l.take k).length≤k:=by rw [List.length_take]; omega
  have h3:(4294967296:Nat)^(l.take k).length≤4294967296^k:=Nat.pow_le_pow_right (by decide) h2
  have h4:4294967296^k*(x+1+4294967296*val (r.drop (k+1)))≤4294967296^k*(y+4294967296*val (r.drop (k+1))):=Nat.mul_le_mul_left _ (by omega)
  rw [show x+1+4294967296*val (r.drop (k+1))=(x+4294967296*val (r.drop (k+1)))+1 from by omega,Nat.mul_add,Nat.mul_one] at h4
  omega
theorem Qmw {l r:List Nat} {k x:Nat} (hd:l.drop (k+1)=r.drop (k+1)) (hx:l[k]? = some x) (hy:r[k]? = some x):l.drop k=r.drop k:=by
  obtain ⟨h1,e1⟩:=List.getElem?_eq_some_iff.1 hx
  obtain ⟨h2,e2⟩:=List.getElem?_eq_some_iff.1 hy
  rw [List.drop_eq_getElem_cons h1,List.drop_eq_getElem_cons h2,hd,e1,e2]
def Nz (x y:Nat):Int:=if x<y then -1 else if y<x then 1 else 0
theorem Qjx {x y:Nat} (h:x<y):Nz x y=-1:=by unfold Nz; rw [if_pos h]
theorem Qjw {x y:Nat} (h:y<x):Nz x y=1:=by unfold Nz; rw [if_neg (by omega),if_pos h]
theorem Qu5 {x y:Nat} (h:x=y):Nz x y=0:=by unfold Nz; rw [if_neg (by omega),if_neg (by omega)]
theorem Q0j {k q:Nat} (hq:q<4294967296):(4294967296*k) ||| q=4294967296*k+q:=by
  have:=Nat.two_pow_add_eq_or_of_lt (i:=32) (b:=q) (by omega) k
  simpa using this.symm
theorem Yu (o:List Nat) (i v:Nat):(o.set i v).take i=o.take i:=by
  apply List.ext_getElem?
  intro j
  rw [List.getElem?_take,List.getElem?_take]
  split
  · rw [List.getElem?_set_ne (by omega)]
  · rfl
theorem Hk (o:List Nat) (i v:Nat) (h:i<o.length):val ((o.set i v).take (i+1))=val (o.take i)+4294967296^i*v:=by
  rw [Q6 (o.set i v) i v (by rw [List.getElem?_set_self h]),Yu]
theorem Qir (r:List Nat) (i:Nat) (h:r.length≤i):r.take (i+1)=r.take i:=by
  rw [List.take_of_length_le (by omega),List.take_of_length_le h]
theorem Qf7 {r:List Nat} {i y:Nat} (hy:r[i]? = some y∨(r.length≤i∧y=0)):val (r.take (i+1))=val (r.take i)+4294967296^i*y:=by
  rcases hy with hy | ⟨h,rfl⟩
  · exact Q6 r i y hy
  · rw [Qir r i h]; omega
theorem Qc7 {o l r:List Nat} {i x y s cy:Nat} (ho:i<o.length) (hx:l[i]? = some x) (hy:r[i]? = some y∨(r.length≤i∧y=0))
    (h:val (o.take i)+cy*4294967296^i=val (l.take i)+val (r.take i)) (hs:s=x+cy+y) :
    val ((o.set i (s % 4294967296)).take (i+1))+(s / 4294967296)*4294967296^(i+1)=val (l.take (i+1))+val (r.take (i+1)):=by
  rw [Hk o i _ ho,Q6 l i x hx,Qf7 hy,Nat.pow_succ]
  have e:s=4294967296*(s / 4294967296)+s % 4294967296:=(Nat.div_add_mod s 4294967296).symm
  generalize s / 4294967296=q at *
  generalize s % 4294967296=m at *
  generalize 4294967296^i=p at *
  grind
theorem Y6 {o:List Nat} (h:∀ x∈o,x<4294967296) (i v:Nat) (hv:v<4294967296):∀ x∈o.set i v,x<4294967296:=by
  intro x hx
  rcases List.mem_or_eq_of_mem_set hx with h' | h'
  · exact h x h'
  · omega
theorem Qtf {o l r:List Nat} {i x y s b:Nat} (ho:i<o.length) (hx:l[i]? = some x) (hy:r[i]? = some y∨(r.length≤i∧y=0)) (hxb:x<4294967296) (hyb:y<4294967296) (hb:b≤1)
    (h:val (o.take i)+val (r.take i)=val (l.take i)+b*4294967296^i) (hs:s=(x+18446744073709551616-b-y) % 18446744073709551616) :
    val ((o.set i (s % 4294967296)).take (i+1))+val (r.take (i+1))=val (l.take (i+1))+(s / 9223372036854775808)*4294967296^(i+1)∧s / 9223372036854775808≤1:=by
  rw [Hk o i _ ho,Q6 l i x hx,Qf7 hy,Nat.pow_succ]
  by_cases hlt:x<b+y
  · have e1:s=18446744073709551616+x-b-y:=by omega
    have e2:s / 9223372036854775808=1:=by omega
    have e3:s % 4294967296+b+y=x+4294967296:=by omega
    rw [e2]
    generalize s % 4294967296=m at *
    generalize 4294967296^i=p at *
    exact ⟨by grind,by omega⟩
  · have e1:s=x-b-y:=by omega
    have e2:s / 9223372036854775808=0:=by omega
    have e3:s % 4294967296+b+y=x:=by omega
    rw [e2]
    generalize s % 4294967296=m at *
    generalize 4294967296^i=p at *
    exact ⟨by grind,by omega⟩
theorem Ik (o:List Nat) (i v z:Nat) (hz:o[i]? = some z):val (o.set i v)+4294967296^i*z=val o+4294967296^i*v:=by
  have hi:i<o.length:=(List.getElem?_eq_some_iff.1 hz).1
  have h1:=Gp o i z hz
  have h2:=Gp (o.set i v) i v (by rw [List.getElem?_set_self hi])
  have e:(o.set i v).drop (i+1)=o.drop (i+1):=by
    apply List.ext_getElem?
    intro j
    rw [List.getElem?_drop,List.getElem?_drop,List.getElem?_set_ne (by omega)]
  rw [Yu,e] at h2
  rw [h1,h2]
  generalize 4294967296^i=p
  grind
theorem Rr {x y:Nat} (hx:x<4294967296) (hy:y<4294967296):x*y≤18446744065119617025:=by
  have:=Nat.mul_le_mul (show x≤4294967295 by omega) (show y≤4294967295 by omega)
  omega
theorem Qrn {o' r:List Nat} {i k x y z s cy V:Nat} (hz:o'[i+k]? = some z) (hy:r[k]? = some y)
    (h:val o'+cy*4294967296^(i+k)=V+4294967296^i*x*val (r.take k)) (hs:s=x*y+z+cy) :
    val (o'.set (i+k) (s % 4294967296))+(s / 4294967296)*4294967296^(i+(k+1))=V+4294967296^i*x*val (r.take (k+1)):=by
  have h1:=Ik o' (i+k) (s % 4294967296) z hz
  rw [Q6 r k y hy,show i+(k+1)=(i+k)+1 from by omega,Nat.pow_succ]
  have e:s=4294967296*(s / 4294967296)+s % 4294967296:=(Nat.div_add_mod s 4294967296).symm
  have hp:(4294967296:Nat)^(i+k)=4294967296^i*4294967296^k:=Nat.pow_add _ _ _
  generalize s / 4294967296=q at *
  generalize s % 4294967296=m at *
  generalize val (o'.set (i+k) m)=A at *
  rw [hp] at h h1 ⊢
  clear hz hy hp
  generalize val (r.take k)=R at *
  generalize val o'=O at *
  generalize (4294967296:Nat)^i=pi at *
  generalize (4294967296:Nat)^k=pk at *
  grind
theorem Qrm {o' l r:List Nat} {i x cy V:Nat} (hz:o'[i+r.length]? = some 0) (hx:l[i]? = some x) (hcy:cy<4294967296) (hV:V=val (l.take i)*val r)
    (h:val o'+cy*4294967296^(i+r.length)=V+4294967296^i*x*val (r.take r.length)) :
    val (o'.set (i+r.length) (cy % 4294967296))=val (l.take (i+1))*val r:=by
  have h1:=Ik o' (i+r.length) (cy % 4294967296) 0 hz
  rw [Nat.mod_eq_of_lt hcy] at *
  rw [List.take_length] at h
  rw [Q6 l i x hx]
  clear hz hx
  generalize (4294967296:Nat)^(i+r.length)=p at *
  generalize (4294967296:Nat)^i=pi at *
  grind
end Orr
namespace Orr
theorem Nj (l:List Nat) (k x:Nat) (hx:l[k]? = some x):val (l.drop k)=x+4294967296*val (l.drop (k+1)):=by
  obtain ⟨h,e⟩:=List.getElem?_eq_some_iff.1 hx
  rw [List.drop_eq_getElem_cons h,e]; rfl
theorem Ew (o:List Nat) (i v k:Nat) (h:i<k):(o.set i v).drop k=o.drop k:=by
  apply List.ext_getElem?
  intro j
  rw [List.getElem?_drop,List.getElem?_drop,List.getElem?_set_ne (by omega)]
theorem Qrx {l o:List Nat} {k x w r s:Nat} (hx:l[k]? = some x) (hxb:x<4294967296) (ho:k<o.length) (hw:0<w) (hr:r<w)
    (h:val (l.drop (k+1))=w*val (o.drop (k+1))+r) (hs:s=r*4294967296+x) :
    s / w<4294967296∧s % w<w∧val (l.drop k)=w*val ((o.set k (s / w % 4294967296)).drop k)+s % w:=by
  have h1:s<w*4294967296:=by
    have:(r+1)*4294967296≤w*4294967296:=Nat.mul_le_mul_right _ hr
    omega
  have h2:s / w<4294967296:=Nat.div_lt_of_lt_mul h1
  refine ⟨h2,Nat.mod_lt _ hw,?_⟩
  rw [Nat.mod_eq_of_lt h2,Nj l k x hx,Nj (o.set k (s / w)) k (s / w) (List.getElem?_set_self ho),Ew o k _ (k+1) (by omega),h]
  have e:=Nat.div_add_mod s w
  generalize s / w=q at *
  generalize s % w=m at *
  clear hx h
  grind
theorem Qmx {B X Y q top nx Yr h3 Xr p:Nat} (hY:Y=(top*B+nx)*p+Yr) (hX:X=h3*p+Xr) (hXr:Xr<p) (hq:q*Y≤X) {head x2:Nat} (h3e:h3=head*B+x2) (hx2:x2<B) (ht:0<top) :
    q≤head / top:=by
  rw [Nat.le_div_iff_mul_le ht]
  rcases Nat.lt_or_ge head (q*top) with h | h
  · exfalso
    have h1:(head+1)*B*p≤q*top*B*p:=Nat.mul_le_mul_right _ (Nat.mul_le_mul_right _ h)
    have h2:q*top*B*p≤q*Y:=by
      rw [hY,Nat.mul_add]
      have:q*((top*B+nx)*p)=q*top*B*p+q*nx*p:=by grind
      omega
    have h4:h3*p+p≤(head+1)*B*p:=by
      have:(h3+1)*p≤(head+1)*B*p:=Nat.mul_le_mul_right _ (by rw [h3e,Nat.succ_mul]; omega)
      have e:(h3+1)*p=h3*p+p:=by grind
      omega
    omega
  · exact h
theorem Qqb {B X Y q top nx Yr h3 Xr p g r head x2:Nat} (hY:Y=(top*B+nx)*p+Yr) (hX:X=h3*p+Xr) (hXr:Xr<p) (hq:q*Y≤X) (h3e:h3=head*B+x2) (hg:g*top+r=head)
    (hc:g*nx>r*B+x2) (hle:q≤g):q≤g-1:=by
  rcases Nat.eq_or_lt_of_le hle with h | h
  · exfalso
    subst h
    have h1:h3+1≤q*(top*B+nx):=by
      have e:q*(top*B+nx)=q*top*B+q*nx:=by grind
      have e2:head*B=q*top*B+r*B:=by rw [←hg]; grind
      rw [h3e,e,e2]; omega
    have h2:(h3+1)*p≤q*(top*B+nx)*p:=Nat.mul_le_mul_right _ h1
    have h4:q*(top*B+nx)*p≤q*Y:=by
      have:q*((top*B+nx)*p)=q*(top*B+nx)*p:=by grind
      rw [hY,Nat.mul_add q ((top*B+nx)*p) Yr,this]; exact Nat.le_add_right _ _
    have e:(h3+1)*p=h3*p+p:=by grind
    omega
  · omega
theorem Qvi {B X Y top nx Yr h3 Xr p g r head x2:Nat} (hY:Y=(top*B+nx)*p+Yr) (hYr:Yr<p) (hX:X=h3*p+Xr) (h3e:h3=head*B+x2) (hg:g*top+r=head) (ht:0<top)
    (hc:g*nx≤r*B+x2) (hgB:g≤B):(g-1)*Y≤X:=by
  rcases Nat.eq_zero_or_pos g with h0 | h0
  · subst h0; simp
  · obtain ⟨k,rfl⟩:∃ k,g=k+1:=⟨g-1,by omega⟩
    simp only [Nat.add_sub_cancel]
    have h1:(k+1)*(top*B+nx)≤h3:=by
      have e:(k+1)*(top*B+nx)=(k+1)*top*B+(k+1)*nx:=by grind
      have e2:head*B=(k+1)*top*B+r*B:=by rw [←hg]; grind
      rw [h3e,e,e2]; omega
    have h2:(k+1)*(top*B+nx)*p≤h3*p:=Nat.mul_le_mul_right _ h1
    have h3':k*Yr≤k*p:=Nat.mul_le_mul_left _ (by omega)
    have h5:B≤top*B:=Nat.le_mul_of_pos_left _ ht
    have h4:k*p≤(top*B+nx)*p:=Nat.mul_le_mul_right _ (by omega)
    have e1:k*Y=k*(top*B+nx)*p+k*Yr:=by rw [hY]; grind
    have e2:(k+1)*(top*B+nx)*p=k*(top*B+nx)*p+(top*B+nx)*p:=by grind
    omega
theorem Qer {o x y:List Nat} {i u w g c b p s:Nat} (ho:i<o.length) (hu:x[i]? = some u) (hw:y[i]? = some w) (hub:u<4294967296) (hb:b≤1)
    (h:val (o.take i)+g*val (y.take i)=val (x.take i)+(c+b)*4294967296^i) (hp:p=g*w+c)
    (hs:s=((u+18446744073709551616-p % 4294967296) % 18446744073709551616+18446744073709551616-b) % 18446744073709551616) :
    val ((o.set i (s % 4294967296)).take (i+1))+g*val (y.take (i+1))=val (x.take (i+1))+(p / 4294967296+s / 9223372036854775808)*4294967296^(i+1)∧s / 9223372036854775808≤1:=by
  rw [Hk o i _ ho,Q6 x i u hu,Q6 y i w hw,Nat.pow_succ]
  have ep:p=4294967296*(p / 4294967296)+p % 4294967296:=(Nat.div_add_mod p 4294967296).symm
  have Mg:p % 4294967296<4294967296:=Nat.mod_lt _ (by decide)
  generalize p / 4294967296=ph at *
  generalize p % 4294967296=pl at *
  have key:s % 4294967296+pl+b=u+(s / 9223372036854775808)*4294967296∧s / 9223372036854775808≤1:=by omega
  refine ⟨?_,key.2⟩
  have k1:=key.1
  generalize s % 4294967296=m at *
  generalize s / 9223372036854775808=b' at *
  generalize (4294967296:Nat)^i=P at *
  clear hs hub hu hw ho Mg key
  have e1:g*(val (y.take i)+P*w)=g*val (y.take i)+P*(g*w):=by grind
  have e2:g*w+c=4294967296*ph+pl:=by omega
  have e3:P*(g*w)+P*c=P*(4294967296*ph)+P*pl:=by rw [←Nat.mul_add,←Nat.mul_add,e2]
  have e4:P*m+P*pl+P*b=P*u+P*(b'*4294967296):=by rw [←Nat.mul_add,←Nat.mul_add,←Nat.mul_add,k1]
  grind
theorem Qbx {o x y:List Nat} {i u w g c b:Nat} (ho:i<o.length) (hu:x[i]? = some u) (hw:y[i]? = some w) (hub:u<4294967296) (hb:b≤1)
    (h:val (o.take i)+g*val (y.take i)=val (x.take i)+(c+b)*4294967296^i) {p s:Nat} (hp:p=g*w+c)
    (hs:s=((u+18446744073709551616-p % 4294967296) % 18446744073709551616+18446744073709551616-b) % 18446744073709551616) :
    val ((o.set i (s % 4294967296)).take (i+1))+g*val (y.take (i+1))=val (x.take (i+1))+(p / 2^32+s / 2^63)*4294967296^(i+1)∧s / 2^63≤1 :=
  Qer ho hu hw hub hb h hp hs
theorem V3 {l:List Nat} {k c:Nat} (hl:l.length=k+1) (hc:l[k]? = some c):val l=val (l.take k)+4294967296^k*c:=by
  rw [←Q6 l k c hc,List.take_of_length_le (by omega)]
theorem Vg {l:List Nat} (hb:∀ u∈l,u<4294967296) {k:Nat} (hk:k≤l.length):val (l.take k)<4294967296^k:=by
  have:=Wg (l.take k) (fun u hu=>hb u (List.mem_of_mem_take hu))
  rwa [List.length_take,Nat.min_eq_left hk] at this
theorem P9 {o x:List Nat} {i:Nat} (h:o.drop i=x.drop i):o[i]? = x[i]? := by
  have:=congrArg (·[0]?) h
  simpa using this
theorem I9 {o x:List Nat} {i v:Nat} (h:o.drop i=x.drop i):(o.set i v).drop (i+1)=x.drop (i+1):=by
  rw [Ew o i v (i+1) (by omega)]
  have:=congrArg (List.drop 1) h
  simpa [List.drop_drop] using this
structure Dig (x l:List Nat) (n top nx xn x1 x2:Nat):Prop where
  hn:2≤n
  hl:l.length=n
  hx:x.length=n+1
  lb:∀ u∈l,u<4294967296
  xb:∀ u∈x,u<4294967296
  ltop:l[n-1]? = some top
  lnx:l[n-2]? = some nx
  xn:x[n]? = some xn
  x1:x[n-1]? = some x1
  x2:x[n-2]? = some x2
  top0:0<top
  lt:val x<val l*4294967296
section
variable {x l:List Nat} {n top nx xn x1 x2:Nat} (D:Dig x l n top nx xn x1 x2)
include D
theorem Dig.parts:∃ p Yr Xr,val l=(top*4294967296+nx)*p+Yr∧Yr<p∧val x=((xn*2^32+x1)*4294967296+x2)*p+Xr∧Xr<p:=by
  obtain ⟨hn,hl,hx,lb,xb,ltop,lnx,exn,ex1,ex2,_,_⟩:=D
  obtain ⟨k,rfl⟩:∃ k,n=k+2:=⟨n-2,by omega⟩
  simp only [show k+2-1=k+1 from by omega,Nat.add_sub_cancel] at *
  refine ⟨4294967296^k,val (l.take k),val (x.take k),?_,Vg lb (by omega),?_,Vg xb (by omega)⟩
  · rw [V3 hl ltop,Q6 l k nx lnx,Nat.pow_succ]
    generalize (4294967296:Nat)^k=p
    grind
  · have Ui:(2:Nat)^32=4294967296:=by decide
    have q1:(4294967296:Nat)^(k+1)=4294967296^k*4294967296:=Nat.pow_succ _ _
    have q2:(4294967296:Nat)^(k+2)=4294967296^k*4294967296*4294967296:=by rw [←q1]; exact Nat.pow_succ _ _
    rw [V3 hx exn,Q6 x (k+1) x1 ex1,Q6 x k x2 ex2,q1,q2,Ui]
    clear q1 q2
    generalize (4294967296:Nat)^k=p
    grind
theorem Dig.Ypos:0<val l:=by
  obtain ⟨p,Yr,Xr,hY,hYr,_,_⟩:=D.parts
  have h1:0<top*4294967296+nx:=by have:=D.top0; omega
  have:=Nat.mul_pos h1 (show 0<p by omega)
  omega
theorem Dig.qlt:val x / val l<4294967296:=Nat.div_lt_of_lt_mul D.lt
theorem Dig.qle:val x / val l*val l≤val x:=Nat.div_mul_le_self _ _
theorem Dig.bnd:top<4294967296∧nx<4294967296∧xn<4294967296∧x1<4294967296∧x2<4294967296 :=
  ⟨D.lb _ (List.mem_of_getElem? D.ltop),D.lb _ (List.mem_of_getElem? D.lnx),D.xb _ (List.mem_of_getElem? D.xn),D.xb _ (List.mem_of_getElem? D.x1),D.xb _ (List.mem_of_getElem? D.x2)⟩
theorem Dig.head_le:xn*2^32+x1<top*4294967296+4294967296:=by
  obtain ⟨p,Yr,Xr,hY,hYr,hX,hXr⟩:=D.parts
  have hlt:=D.lt
  have hb:=D.bnd
  have Ui:(2:Nat)^32=4294967296:=by decide
  rw [Ui] at hX ⊢
  rcases Nat.lt_or_ge xn (top+1) with h | h
  · omega
  · exfalso
    have h1:val l<(top+1)*4294967296*p:=by
      have h2:(top*4294967296+nx+1)*p≤(top+1)*4294967296*p:=Nat.mul_le_mul_right _ (by omega)
      have e:(top*4294967296+nx+1)*p=(top*4294967296+nx)*p+p:=by grind
      omega
    have h3:(top+1)*4294967296*4294967296*p≤((xn*4294967296+x1)*4294967296+x2)*p:=Nat.mul_le_mul_right _ (by omega)
    have h4:val l*4294967296<(top+1)*4294967296*p*4294967296:=Nat.mul_lt_mul_of_pos_right h1 (by decide)
    have e2:(top+1)*4294967296*p*4294967296=(top+1)*4294967296*4294967296*p:=by
      generalize (4294967296:Nat)=B; grind
    omega
theorem Dig.start:val x / val l≤(xn*2^32+x1) / top:=by
  obtain ⟨p,Yr,Xr,hY,hYr,hX,hXr⟩:=D.parts
  exact Qmx hY hX hXr D.qle rfl D.bnd.2.2.2.2 D.top0
theorem Dig.fin {g r:Nat} (hg:g*top+r=xn*2^32+x1) (hc:g*nx≤r*2^32+x2) (hB:g≤4294967296):(g-1)*val l≤val x:=by
  obtain ⟨p,Yr,Xr,hY,hYr,hX,hXr⟩:=D.parts
  have Ui:(2:Nat)^32=4294967296:=by decide
  rw [Ui] at hc
  exact Qvi hY hYr hX rfl hg D.top0 hc hB
theorem Dig.round {g r:Nat} (hg:g*top+r=xn*2^32+x1) (hq:val x / val l≤g) (hc:4294967296≤g∨r*2^32+x2<g*nx) :
    1≤g∧val x / val l≤g-1∧(g-1)*top+(r+top)=xn*2^32+x1∧(4294967296≤r+top→(g-1-1)*val l≤val x∧g-1≤4294967296):=by
  have Ui:(2:Nat)^32=4294967296:=by decide
  have hb:=D.bnd
  have h1:1≤g:=by
    rcases hc with h | h
    · omega
    · rcases Nat.eq_zero_or_pos g with h0 | h0
      · subst h0; simp at h
      · exact h0
  have h2:val x / val l≤g-1:=by
    rcases hc with h | h
    · have:=D.qlt; omega
    · obtain ⟨p,Yr,Xr,hY,hYr,hX,hXr⟩:=D.parts
      rw [Ui] at h
      exact Qqb hY hX hXr D.qle rfl hg h hq
  obtain ⟨k,rfl⟩:∃ k,g=k+1:=⟨g-1,by omega⟩
  simp only [Nat.add_sub_cancel] at h2 ⊢
  have h3:k*top+(r+top)=xn*2^32+x1:=by rw [←hg,Nat.succ_mul]; omega
  refine ⟨h1,h2,h3,fun hr=>?_⟩
  have hk:k<4294967296:=by
    have hh:=D.head_le
    rcases Nat.lt_or_ge k 4294967296 with h | h
    · exact h
    · have:=Nat.mul_le_mul_right top h
      omega
  refine ⟨D.fin h3 ?_ (by omega),by omega⟩
  have h4:=Rr hk hb.2.1
  rw [Ui]
  have h5:4294967296*4294967296≤(r+top)*4294967296:=Nat.mul_le_mul_right _ hr
  omega
theorem Dig.fin0 {o:List Nat} {g c b s:Nat} (ho:o.length=n+1) (hc:c<4294967296) (hb:b≤1) (hq:val x / val l≤g)
    (h:val (o.take n)+g*val l=val (x.take n)+(c+b)*4294967296^n)
    (hs:s=((xn+18446744073709551616-c) % 18446744073709551616+18446744073709551616-b) % 18446744073709551616) (Io:s / 2^63=0) :
    g % 4294967296=val x / val l∧val (o.set n (s % 4294967296))=val x % val l:=by
  have hbd:=D.bnd
  have e63:(2:Nat)^63=9223372036854775808:=by decide
  rw [e63] at Io
  have hs1:s=xn-c-b∧c+b≤xn:=by omega
  have hsB:s % 4294967296=xn-c-b:=by omega
  have hset:(o.set n (s % 4294967296))[n]? = some (s % 4294967296):=by rw [List.getElem?_set_self (by omega)]
  have ev:val (o.set n (s % 4294967296))=val (o.take n)+4294967296^n*(xn-c-b):=by
    rw [V3 (by rw [List.length_set]; exact ho) hset,Yu,hsB]
  have eX:=V3 D.hx D.xn
  have key:val (o.set n (s % 4294967296))+g*val l=val x:=by
    rw [ev,eX]
    obtain ⟨m,rfl⟩:∃ m,xn=m+(c+b):=⟨xn-(c+b),by omega⟩
    rw [show m+(c+b)-c-b=m from by omega]
    generalize (4294967296:Nat)^n=p at *
    have:p*(m+(c+b))=p*m+(c+b)*p:=by grind
    omega
  have hg:g≤val x / val l:=by
    rw [Nat.le_div_iff_mul_le D.Ypos]; omega
  have hgq:g=val x / val l:=by omega
  have hgB:=D.qlt
  have hdm:=Nat.div_add_mod (val x) (val l)
  rw [←hgq] at hdm hgB ⊢
  refine ⟨Nat.mod_eq_of_lt hgB,?_⟩
  rw [Nat.mul_comm] at hdm
  omega
theorem Dig.fin1 {o:List Nat} {g c b s:Nat} (ho:o.length=n+1) (hob:∀ u∈o,u<4294967296) (hc:c<4294967296) (hb:b≤1) (hg1:(g-1)*val l≤val x)
    (h:val (o.take n)+g*val l=val (x.take n)+(c+b)*4294967296^n)
    (hs:s=((xn+18446744073709551616-c) % 18446744073709551616+18446744073709551616-b) % 18446744073709551616) (Io:¬s / 2^63=0) :
    g=val x / val l+1∧val (o.set n (s % 4294967296))+val l=val x % val l+4294967296^n*4294967296:=by
  have hbd:=D.bnd
  have e63:(2:Nat)^63=9223372036854775808:=by decide
  rw [e63] at Io
  have hsB:s % 4294967296+(c+b)=xn+4294967296:=by omega
  have hset:(o.set n (s % 4294967296))[n]? = some (s % 4294967296):=by rw [List.getElem?_set_self (by omega)]
  have hm:s % 4294967296<4294967296:=Nat.mod_lt _ (by decide)
  have ev:val (o.set n (s % 4294967296))=val (o.take n)+4294967296^n*(s % 4294967296):=by
    rw [V3 (by rw [List.length_set]; exact ho) hset,Yu]
  have eX:=V3 D.hx D.xn
  have hlt:val (o.take n)<4294967296^n:=Vg hob (by omega)
  have key:val (o.set n (s % 4294967296))+g*val l=val x+4294967296^n*4294967296:=by
    rw [ev,eX]
    generalize (4294967296:Nat)^n=p at *
    have e1:p*(s % 4294967296+(c+b))=p*(xn+4294967296):=by rw [hsB]
    rw [Nat.mul_add p (s % 4294967296) (c+b),Nat.mul_add p xn,Nat.mul_comm p (c+b)] at e1
    omega
  have hvlt:val (o.set n (s % 4294967296))<4294967296^n*4294967296:=by
    have:=Wg (o.set n (s % 4294967296)) (Y6 hob _ _ hm)
    rwa [List.length_set,ho,Nat.pow_succ] at this
  have hq1:g-1≤val x / val l:=(Nat.le_div_iff_mul_le D.Ypos).2 hg1
  have hq2:val x / val l<g:=by
    rw [Nat.div_lt_iff_lt_mul D.Ypos]; omega
  have hgq:g=val x / val l+1:=by omega
  refine ⟨hgq,?_⟩
  have hdm:=Nat.div_add_mod (val x) (val l)
  rw [hgq,Nat.succ_mul] at key
  rw [Nat.mul_comm] at hdm
  omega
theorem Dig.fin2 {o1 o2:List Nat} {v bk:Nat} (h1:o1.length=n+1) (h1b:∀ u∈o1,u<4294967296) (h2:o2.length=n+1) (h2b:∀ u∈o2,u<4294967296) (hv:o1[n]? = some v) (hbk:bk≤1)
    (hk:val o1+val l=val x % val l+4294967296^n*4294967296) (h:val (o2.take n)+bk*4294967296^n=val (o1.take n)+val l) :
    val (o2.set n ((v+bk) % 4294967296))=val x % val l:=by
  have hset:(o2.set n ((v+bk) % 4294967296))[n]? = some ((v+bk) % 4294967296):=by rw [List.getElem?_set_self (by omega)]
  rw [V3 (by rw [List.length_set]; exact h2) hset,Yu]
  rw [V3 h1 hv] at hk
  have hvb:=h1b _ (List.mem_of_getElem? hv)
  have hlt:val (o2.take n)<4294967296^n:=Vg h2b (by omega)
  have hY:val l<4294967296^n:=by have:=Wg l D.lb; rwa [D.hl] at this
  have hR:val x % val l<val l:=Nat.mod_lt _ D.Ypos
  generalize (4294967296:Nat)^n=p at *
  have e:val (o2.take n)+p*(v+bk)=val x % val l+p*4294967296:=by
    rw [Nat.mul_add,Nat.mul_comm p bk]; omega
  have hvk:v+bk=4294967296:=by
    rcases Nat.lt_trichotomy (v+bk) 4294967296 with h' | h' | h'
    · have:=Nat.mul_le_mul_left p h'
      rw [Nat.mul_succ] at this
      omega
    · exact h'
    · omega
  rw [hvk] at e ⊢
  simp
  omega
end
end Orr
namespace Orr
open Go
theorem Q21 {g q:Nat} (h:g=q+1) (hq:q<4294967296):IntKind.u32.wrap (((g % 4294967296:Nat):Int)-1)=(q:Int):=by
  subst h
  simp [IntKind.wrap,IntKind.bits,IntKind.signed]
  omega
def P0 (o:List Nat) (i n:Nat):List Nat:=(o.drop i).take (n+1)
theorem Si (o:List Nat) (i n:Nat):o.take i++P0 o i n++o.drop (i+n+1)=o:=by
  unfold P0
  rw [List.append_assoc,show o.drop (i+n+1)=(o.drop i).drop (n+1) from by rw [List.drop_drop]; congr 1]
  rw [List.take_append_drop,List.take_append_drop]
theorem Nk {o:List Nat} {i n:Nat} (h:i+n<o.length):(P0 o i n).length=n+1:=by
  unfold P0
  rw [List.length_take,List.length_drop]; omega
theorem Qxa {o:List Nat} {i n x:Nat} (h:x∈P0 o i n):x∈o:=List.mem_of_mem_drop (List.mem_of_mem_take h)
theorem Sf (p w q:List Nat):val (p++w++q)=val p+4294967296^p.length*(val w+4294967296^w.length*val q):=by
  rw [List.append_assoc,Y7,Y7]
structure Rest (o l:List Nat) (la n m:Nat):Prop where
  ol:o.length=la+1
  ob:∀ u∈o,u<4294967296
  ll:l.length=n
  lb:∀ u∈l,u<4294967296
  n2:2≤n
  top:4294967296^(n-1)≤val l
  hm:m+n≤la+1
  lt:val o<val l*4294967296^m
section
variable {o l:List Nat} {la n m:Nat}
theorem Rest.zero (R:Rest o l la n (m+1)):val (o.drop (m+n+1))=0:=by
  have hlen:=Nk (o:=o) (i:=m) (n:=n) (by have:=R.ol; have:=R.hm; omega)
  have h1:=Sf (o.take m) (P0 o m n) (o.drop (m+n+1))
  rw [Si,hlen,List.length_take,Nat.min_eq_left (by have:=R.ol; have:=R.hm; omega)] at h1
  have hY:val l<4294967296^n:=by have:=Wg l R.lb; rwa [R.ll] at this
  have hlt:=R.lt
  rcases Nat.eq_zero_or_pos (val (o.drop (m+n+1))) with h | h
  · exact h
  · exfalso
    have h2:4294967296^m*(4294967296^(n+1)*1)≤4294967296^m*(val (P0 o m n)+4294967296^(n+1)*val (o.drop (m+n+1))) :=
      Nat.mul_le_mul_left _ (Nat.le_trans (Nat.mul_le_mul_left _ h) (Nat.le_add_left _ _))
    have h3:val l*4294967296^(m+1)<4294967296^n*4294967296^(m+1):=Nat.mul_lt_mul_of_pos_right hY (Nat.pow_pos (by decide))
    have e:(4294967296:Nat)^n*4294967296^(m+1)=4294967296^m*(4294967296^(n+1)*1):=by
      rw [Nat.mul_one,←Nat.pow_add,←Nat.pow_add]; congr 1; omega
    omega
theorem Rest.dig (R:Rest o l la n (m+1)):∃ top nx xn x1 x2,Dig (P0 o m n) l n top nx xn x1 x2:=by
  have hwl:=Nk (o:=o) (i:=m) (n:=n) (by have:=R.ol; have:=R.hm; omega)
  have hz:=R.zero
  obtain ⟨ol,ob,ll,lb,n2,htop,hm,hlt⟩:=R
  have g1:∀ k,k<n+1→∃ u,(P0 o m n)[k]? = some u:=fun k hk=>⟨_,List.getElem?_eq_getElem (by omega)⟩
  have g2:∀ k,k<n→∃ u,l[k]? = some u:=fun k hk=>⟨_,List.getElem?_eq_getElem (by omega)⟩
  obtain ⟨top,ht⟩:=g2 (n-1) (by omega)
  obtain ⟨nx,hnx⟩:=g2 (n-2) (by omega)
  obtain ⟨xn,hxn⟩:=g1 n (by omega)
  obtain ⟨x1,hx1⟩:=g1 (n-1) (by omega)
  obtain ⟨x2,hx2⟩:=g1 (n-2) (by omega)
  have h1:=Sf (o.take m) (P0 o m n) (o.drop (m+n+1))
  rw [Si,hz,List.length_take,Nat.min_eq_left (by omega)] at h1
  refine ⟨top,nx,xn,x1,x2,n2,ll,hwl,lb,fun u hu=>ob u (Qxa hu),ht,hnx,hxn,hx1,hx2,?_,?_⟩
  · rcases Nat.eq_zero_or_pos top with h0 | h0
    · exfalso
      subst h0
      have e:=V3 (l:=l) (k:=n-1) (by omega) ht
      have:=Vg lb (k:=n-1) (by omega)
      omega
    · exact h0
  · rcases Nat.lt_or_ge (val (P0 o m n)) (val l*4294967296) with h | h
    · exact h
    · exfalso
      have h2:4294967296^m*(val l*4294967296)≤4294967296^m*(val (P0 o m n)):=Nat.mul_le_mul_left _ h
      have e:val l*(4294967296:Nat)^(m+1)=4294967296^m*(val l*4294967296):=by
        rw [Nat.pow_succ]; generalize (4294967296:Nat)^m=p; grind
      simp only [Nat.mul_zero,Nat.add_zero] at h1
      omega
theorem Rest.next (R:Rest o l la n (m+1)) {w':List Nat} (hw:w'.length=(P0 o m n).length) (hb:∀ u∈w',u<4294967296) (hv:val w'=val (P0 o m n) % val l) {X0:Nat} {q:List Nat} (hq:m<q.length)
    (hX:val (q.drop (m+1))*4294967296^(m+1)*val l+val o=X0) :
    Rest (o.take m++w'++o.drop (m+n+1)) l la n m∧val ((q.set m (val (P0 o m n) / val l)).drop m)*4294967296^m*val l+val (o.take m++w'++o.drop (m+n+1))=X0:=by
  have hwl:=Nk (o:=o) (i:=m) (n:=n) (by have:=R.ol; have:=R.hm; omega)
  have hz:=R.zero
  obtain ⟨ol,ob,ll,lb,n2,htop,hm,hlt⟩:=R
  have hY:0<val l:=Nat.lt_of_lt_of_le (Nat.pow_pos (by decide)) htop
  have h1:=Sf (o.take m) (P0 o m n) (o.drop (m+n+1))
  have h2:=Sf (o.take m) w' (o.drop (m+n+1))
  rw [Si,hz,List.length_take,Nat.min_eq_left (by omega)] at h1
  rw [hz,List.length_take,Nat.min_eq_left (by omega)] at h2
  simp only [Nat.mul_zero,Nat.add_zero] at h1 h2
  have hp:=Vg ob (k:=m) (by omega)
  have hr:val w'<val l:=by rw [hv]; exact Nat.mod_lt _ hY
  have hdm:=Nat.div_add_mod (val (P0 o m n)) (val l)
  rw [←hv] at hdm
  refine ⟨⟨?_,?_,ll,lb,n2,htop,by omega,?_⟩,?_⟩
  · simp only [List.length_append,List.length_take,List.length_drop,hw,hwl]; omega
  · intro u hu
    rcases List.mem_append.1 hu with hu | hu
    · rcases List.mem_append.1 hu with hu | hu
      · exact ob u (List.mem_of_mem_take hu)
      · exact hb u hu
    · exact ob u (List.mem_of_mem_drop hu)
  · rw [h2]
    have:4294967296^m*(val w'+1)≤4294967296^m*val l:=Nat.mul_le_mul_left _ hr
    rw [Nat.mul_comm (val l)]
    rw [Nat.mul_add] at this
    omega
  · have hset:(q.set m (val (P0 o m n) / val l))[m]? = some (val (P0 o m n) / val l):=by rw [List.getElem?_set_self hq]
    rw [Nj _ m _ hset,Ew q m _ (m+1) (by omega),h2,←hX,h1,Nat.pow_succ]
    generalize val (P0 o m n) / val l=d at *
    generalize (4294967296:Nat)^m=p at *
    generalize val (q.drop (m+1))=Q at *
    have e:p*val (P0 o m n)=p*(val l*d)+p*val w':=by rw [←hdm,Nat.mul_add]
    rw [e]
    clear h1 h2 hX hset hp hdm hv hz hwl hlt
    generalize val (o.take m)=A
    generalize (4294967296:Nat)=B
    grind
end
theorem Qh7 {x y:Nat} {X Y:List Nat} {la n s:Nat} (hX:val X=x*2^s) (hY:val Y=y*2^s) (hXl:X.length=la+1) (hXb:∀ u∈X,u<4294967296) (hYl:Y.length=n) (hYb:∀ u∈Y,u<4294967296) (hn:2≤n)
    (hx:x<4294967296^la) (hy:4294967296^(n-1)≤y) (hle:n≤la):Rest X Y la n (la-n+1):=by
  have hs:0<2^s:=Nat.pow_pos (by decide)
  refine ⟨hXl,hXb,hYl,hYb,hn,?_,by omega,?_⟩
  · rw [hY]
    have:=Nat.mul_le_mul hy hs
    omega
  · rw [hX,hY]
    have h1:x*2^s<4294967296^la*2^s:=Nat.mul_lt_mul_of_pos_right hx hs
    have h2:4294967296^(n-1)*2^s*4294967296^(la-n+1)≤y*2^s*4294967296^(la-n+1):=Nat.mul_le_mul_right _ (Nat.mul_le_mul_right _ hy)
    have e:4294967296^(n-1)*2^s*4294967296^(la-n+1)=4294967296^la*2^s:=by
      rw [Nat.mul_right_comm,←Nat.pow_add]; congr 2; omega
    omega
theorem Qsp {x y s r:Nat} {q:List Nat} (hy:0<y) (h:val q*(y*2^s)+r=x*2^s) (hr:r<y*2^s):val q=x / y∧r=x % y*2^s:=by
  have hs:0<2^s:=Nat.pow_pos (by decide)
  have e1:x*2^s / (y*2^s)=val q:=by
    rw [←h,Nat.mul_comm,Nat.mul_add_div (Nat.mul_pos hy hs),Nat.div_eq_of_lt hr,Nat.add_zero]
  have e2:x*2^s % (y*2^s)=r:=by
    rw [←h,Nat.mul_comm (val q),Nat.mul_add_mod,Nat.mod_eq_of_lt hr]
  rw [Nat.mul_div_mul_right _ _ hs] at e1
  rw [Nat.mul_mod_mul_right] at e2
  exact ⟨e1.symm,e2.symm⟩
end Orr
namespace Orr
theorem Qis {o:List Nat} {n:Nat} (hn:n≤o.length) (h:val o<4294967296^n):val (o.take n)=val o:=by
  have h1:val o=val (o.take n)+4294967296^(o.take n).length*val (o.drop n):=by rw [←Y7,List.take_append_drop]
  rw [List.length_take,Nat.min_eq_left hn] at h1
  rcases Nat.eq_zero_or_pos (val (o.drop n)) with h0 | h0
  · rw [h0] at h1; omega
  · have:=Nat.mul_le_mul_left (4294967296^n) h0
    omega
def Qr (b:Bool) (m:Nat):Int:=if b=true then -(m:Int) else (m:Int)
theorem Xd (b:Bool) (m:Nat):(Qr b m).natAbs=m:=by unfold Qr; split <;> omega
theorem Ay (b:Bool) (m:Nat):decide (Qr b m<0)=(b && decide (0<m)):=by
  unfold Qr
  cases b <;> simp <;> omega
def Qt (z:Int):Nat:=sz z.natAbs
theorem Xc (x y:Int):Qt (x*y)≤Qt x+Qt y:=by unfold Qt; rw [Int.natAbs_mul]; exact Qtg _ _
theorem Mj (x y:Int):Qt (x+y)≤max (Qt x) (Qt y)+1:=by
  unfold Qt
  exact Nat.le_trans (Ym (Int.natAbs_add_le x y)) (Q01 _ _)
theorem U3 (x:Int):Qt (-x)=Qt x:=by unfold Qt; rw [Int.natAbs_neg]
theorem Qbs (x y:Int):Qt (x-y)≤max (Qt x) (Qt y)+1:=by
  rw [Int.sub_eq_add_neg]
  have:=Mj x (-y)
  rwa [U3] at this
theorem Y3 {x:Int} {k:Nat}:Qt x≤k↔x.natAbs<2^k:=Kc
theorem Nb {x k:Nat} (h:2^k≤x):sz x=k+sz (x / 2^k):=by
  have e:∀ m,sz x≤m↔k+sz (x / 2^k)≤m:=by
    intro m
    by_cases hm:k≤m
    · obtain ⟨j,rfl⟩:=Nat.le.dest hm
      rw [Nat.add_le_add_iff_left,Kc,Kc,Nat.div_lt_iff_lt_mul (Nat.pow_pos (by decide)),←Nat.pow_add,Nat.add_comm j k]
    · constructor
      · intro h1
        rw [Kc] at h1
        have:=Nat.pow_lt_pow_right (a:=2) (by decide) (Nat.lt_of_not_le hm)
        omega
      · intro h1
        omega
  exact Nat.le_antisymm ((e _).2 (Nat.le_refl _)) ((e _).1 (Nat.le_refl _))
theorem Qiq:∀ {l:List Nat} {y:Nat},Nrm l→l[l.length-1]? = some y→sz (val l)=32*(l.length-1)+sz y
  | [],y,_,h=>by simp at h
  |
   [x],y,_,h=>by
   simp at h
   subst h
   simp [val]
  |
   x::z::l,y,hn,h=>by
   have h32:(4294967296:Nat)=2^32:=by decide
   have hn':Nrm (z::l):=⟨fun u hu=>hn.1 u (List.mem_cons_of_mem _ hu),fun _=>by
     obtain ⟨u,hu,h0⟩:=hn.2 (by simp)
     exact ⟨u,by simpa using hu,h0⟩⟩
   have ih:=Qiq hn' (y:=y) (by simpa using h)
   have hx:=hn.1 x (by simp)
   have hp:0<val (z::l):=by
     rcases Nat.eq_zero_or_pos (val (z::l)) with h0 | h0
     · exact absurd ((Ms hn').1 h0) (by simp)
     · exact h0
   have e:val (x::z::l)=x+4294967296*val (z::l):=rfl
   rw [Nb (k:=32) (by rw [e,←h32]; omega),show val (x::z::l) / 2^32=val (z::l) from by rw [e,←h32]; omega,ih]
   simp only [List.length_cons]
   omega
def Kv (x y:Int):Int:=if x<y then -1 else if y<x then 1 else 0
theorem Ij {x:Nat}:sz x=0↔x=0:=by
  constructor
  · intro h
    have:=Ar x
    rw [h] at this
    simpa using this
  · rintro rfl; rfl
theorem Ur (z:Int):(z<0∧Int.sign z=-1)∨(z=0∧Int.sign z=0)∨(0<z∧Int.sign z=1):=by
  rcases Int.lt_trichotomy z 0 with h | h | h
  · exact .inl ⟨h,Int.sign_eq_neg_one_of_neg h⟩
  · subst h; exact .inr (.inl ⟨rfl,rfl⟩)
  · exact .inr (.inr ⟨h,Int.sign_eq_one_of_pos h⟩)
theorem Qbi {a b q r:Int} (hb:0<b) (h:r+b*q=a) (h0:0≤r) (h1:r<b):a / b=q∧a % b=r:=(Int.ediv_emod_unique hb).2 ⟨h,h0,h1⟩
theorem Qbj {a b q r:Int} (hb:b≠0) (h:r+b*q=a) (h0:0≤r) (h1:r<b.natAbs):a / b=q∧a % b=r:=by
  rcases Int.lt_or_gt_of_ne hb with h' | h'
  · have:=Qbi (a:=a) (b:=-b) (q:=-q) (r:=r) (by omega) (by rw [Int.neg_mul_neg]; exact h) h0 (by omega)
    rw [Int.ediv_neg,Int.emod_neg] at this
    exact ⟨by omega,this.2⟩
  · exact Qbi h' h h0 (by omega)
section
variable {x y:Int} {d:Bool} (hy:y=if d=true then -(y.natAbs:Int) else (y.natAbs:Int)) (hp:0<y.natAbs)
include hy hp
theorem Ev (hx:x=if false=true then -(x.natAbs:Int) else (x.natAbs:Int)) :
    x / y=Qr (!(false == d)) (x.natAbs / y.natAbs)∧x % y=Qr false (x.natAbs % y.natAbs):=by
  have e:=Nat.div_add_mod x.natAbs y.natAbs
  have hl:=Nat.mod_lt x.natAbs hp
  refine Qbj (by omega) ?_ ?_ ?_
  · generalize x.natAbs / y.natAbs=q at *
    generalize x.natAbs % y.natAbs=r at *
    generalize y.natAbs=n at *
    generalize x.natAbs=m at *
    subst hx hy e
    unfold Qr
    cases d <;> simp [Int.neg_mul,Int.mul_neg] <;> omega
  · unfold Qr; simp only [Bool.false_eq_true,if_false]; exact Int.natCast_nonneg _
  · unfold Qr; simp; omega
theorem Dm (hx:x=if true=true then -(x.natAbs:Int) else (x.natAbs:Int)) (h0:x.natAbs % y.natAbs=0) :
    x / y=Qr (!(true == d)) (x.natAbs / y.natAbs)∧x % y=Qr false (x.natAbs % y.natAbs):=by
  have e:=Nat.div_add_mod x.natAbs y.natAbs
  refine Qbj (by omega) ?_ ?_ ?_
  · rw [h0] at e ⊢
    generalize x.natAbs / y.natAbs=q at *
    generalize y.natAbs=n at *
    generalize x.natAbs=m at *
    subst hx hy e
    unfold Qr
    cases d <;> simp [Int.neg_mul,Int.mul_neg]
  · unfold Qr; simp only [Bool.false_eq_true,if_false]; exact Int.natCast_nonneg _
  · unfold Qr; simp; omega
theorem Eu (hx:x=if true=true then -(x.natAbs:Int) else (x.natAbs:Int)) (h0:0<x.natAbs % y.natAbs) :
    x / y=Qr (!(true == d)) (x.natAbs / y.natAbs+1)∧x % y=Qr false (y.natAbs-x.natAbs % y.natAbs):=by
  have e:=Nat.div_add_mod x.natAbs y.natAbs
  have hl:=Nat.mod_lt x.natAbs hp
  refine Qbj (by omega) ?_ ?_ ?_
  · generalize x.natAbs / y.natAbs=q at *
    generalize x.natAbs % y.natAbs=r at *
    generalize y.natAbs=n at *
    generalize x.natAbs=m at *
    subst hx hy e
    unfold Qr
    have e2:((n-r:Nat):Int)=(n:Int)-(r:Int):=by omega
    cases d <;> simp [Int.neg_mul,Int.mul_neg,Int.mul_add,e2] <;> omega
  · unfold Qr; simp only [Bool.false_eq_true,if_false]; exact Int.natCast_nonneg _
  · unfold Qr; simp; omega
end
def Qw (x:Nat):List Nat:=if h:x=0 then [] else (x % 4294967296)::Qw (x / 4294967296)
termination_by x
decreasing_by omega
theorem Ze:Qw 0=[]:=by unfold Qw; simp
theorem W5 {x:Nat} (h:x≠0):Qw x=(x % 4294967296)::Qw (x / 4294967296):=by rw [Qw]; simp [h]
theorem Zk (x:Nat):val (Qw x)=x:=by
  induction x using Nat.strongRecOn with
  |
   _ x ih =>
   rcases Nat.eq_zero_or_pos x with h | h
   · subst h; rw [Ze]; rfl
   · rw [W5 (by omega)]
     simp only [val]
     rw [ih _ (by omega)]; omega
theorem W7 (x:Nat):Nrm (Qw x):=by
  induction x using Nat.strongRecOn with
  |
   _ x ih =>
   rcases Nat.eq_zero_or_pos x with h | h
   · subst h; rw [Ze]; exact ⟨by simp,fun h=>absurd rfl h⟩
   · rw [W5 (by omega)]
     obtain ⟨h1,h2⟩:=ih (x / 4294967296) (by omega)
     refine ⟨fun u hu=>?_,fun _=>?_⟩
     · rcases List.mem_cons.1 hu with rfl | hu
       · omega
       · exact h1 u hu
     · by_cases h3:x / 4294967296=0
       · rw [h3,Ze]; exact ⟨x % 4294967296,rfl,by omega⟩
       · have h4:Qw (x / 4294967296)≠[]:=by rw [W5 h3]; simp
         obtain ⟨u,hu,hu0⟩:=h2 h4
         refine ⟨u,?_,hu0⟩
         rcases hl:Qw (x / 4294967296) with _ | ⟨y,l⟩
         · exact absurd hl h4
         · rw [hl] at hu; simpa using hu
theorem Qre {l:List Nat} {x:Nat} (h:Nrm l) (hv:val l=x):l=Qw x:=Qla h (W7 x) (by rw [hv,Zk])
theorem Qs5 {o l:List Nat} {i s x z:Nat} (hs:s≤31) (hx:l[i]? = some x) (hxb:x<4294967296) (hz:o[i]? = some z) (hzs:z<2^s) (hi1:i+1<o.length) (h:val (o.take (i+1))=val (l.take i)*2^s) :
    z+x*2^s % 4294967296<4294967296∧x*2^s / 2^32<2^s ∧
    val (((o.set i (z+x*2^s % 4294967296)).set (i+1) (x*2^s / 2^32 % 4294967296)).take (i+2))=val (l.take (i+1))*2^s∧x*2^s % 4294967296=2^s*(x % 2^(32-s)):=by
  have Ui:(2:Nat)^32=4294967296:=by decide
  have ep:(4294967296:Nat)=2^s*2^(32-s):=by rw [←Nat.pow_add,←Ui]; congr 1; omega
  have hpos:0<2^s:=Nat.pow_pos (by decide)
  have e1:x*2^s % 4294967296=2^s*(x % 2^(32-s)):=by rw [Nat.mul_comm x,ep,Nat.mul_mod_mul_left]
  have hq:x*2^s / 2^32<2^s:=by
    rw [Nat.div_lt_iff_lt_mul (Nat.pow_pos (by decide)),Ui,Nat.mul_comm (2^s)]
    exact Nat.mul_lt_mul_of_pos_right hxb hpos
  have hm:x % 2^(32-s)<2^(32-s):=Nat.mod_lt _ (Nat.pow_pos (by decide))
  have hlow:z+x*2^s % 4294967296<4294967296:=by
    rw [e1]
    have:2^s*(x % 2^(32-s)+1)≤2^s*2^(32-s):=Nat.mul_le_mul_left _ hm
    rw [←ep,Nat.mul_add,Nat.mul_one] at this
    omega
  have hs31:2^s≤4294967296:=by rw [←Ui]; exact Nat.pow_le_pow_right (by decide) (by omega)
  refine ⟨hlow,hq,?_,e1⟩
  have t1:=Q6 o i z hz
  rw [Hk _ (i+1) _ (by simpa using hi1),Hk o i _ (by omega),Q6 l i x hx,Nat.mod_eq_of_lt (Nat.lt_of_lt_of_le hq hs31),Nat.pow_succ]
  have e3:=Nat.div_add_mod (x*2^s) 4294967296
  rw [Ui]
  rw [t1] at h
  generalize x*2^s / 4294967296=qh at *
  generalize x*2^s % 4294967296=ql at *
  generalize (4294967296:Nat)^i=P' at *
  generalize 2^s=S at *
  clear ep e1 hq hm hlow hs31 t1 hx hz hzs Ui hpos hxb
  have e4:P'*(4294967296*qh+ql)=P'*(x*S):=by rw [e3]
  have e5:(val (l.take i)+P'*x)*S=val (l.take i)*S+P'*(x*S):=by grind
  rw [e5,←h,←e4]
  grind
theorem Qs6 {o l:List Nat} {i s x y:Nat} (hs:s≤31) (hx:l[i]? = some x) (hy:l[i+1]? = some y∨(l.length≤i+1∧y=0)) (ho:i<o.length) (hb:∀ u∈l,u<4294967296) (h:val (o.take i)=val l / 2^s % 4294967296^i) :
    val ((o.set i ((x+y*2^32) / 2^s % 4294967296)).take (i+1))=val l / 2^s % 4294967296^(i+1):=by
  rw [Hk o i _ ho,h,Nat.mod_pow_succ]
  congr 1
  congr 1
  have Ui:(2:Nat)^32=4294967296:=by decide
  have ep:(4294967296:Nat)=2^s*2^(32-s):=by rw [←Nat.pow_add,←Ui]; congr 1; omega
  have hsp:=Gp l i x hx
  obtain ⟨R,hR⟩:∃ R,val (l.drop (i+1))=y+4294967296*R:=by
    rcases hy with hy | ⟨h1,rfl⟩
    · exact ⟨_,Nj l (i+1) y hy⟩
    · exact ⟨0,by rw [List.drop_eq_nil_of_le h1]; rfl⟩
  have ht:val (l.take i)<4294967296^i:=by
    have:=Wg (l.take i) (fun u hu=>hb u (List.mem_of_mem_take hu))
    have hi:=(List.getElem?_eq_some_iff.1 hx).1
    rwa [List.length_take,Nat.min_eq_left (by omega)] at this
  have e1:val l / 2^s / 4294967296^i=(x+4294967296*(y+4294967296*R)) / 2^s:=by
    rw [Nat.div_div_eq_div_mul,Nat.mul_comm,←Nat.div_div_eq_div_mul,hsp,hR,Nat.add_mul_div_left _ _ (Nat.pow_pos (by decide)),Nat.div_eq_of_lt ht,Nat.zero_add]
  rw [e1]
  have e2:x+4294967296*(y+4294967296*R)=(x+y*2^32)+2^s*(4294967296*(2^(32-s)*R)):=by
    have:2^s*(4294967296*(2^(32-s)*R))=(2^s*2^(32-s))*(4294967296*R):=by grind
    rw [this,←ep,Ui]
    grind
  rw [e2,Nat.add_mul_div_left _ _ (Nat.pow_pos (by decide)),Nat.add_mul_mod_self_left]
theorem Q0t {x s:Nat} (hs:s≤31) (hx:x<4294967296):x*2^s<18446744073709551616:=by
  have h1:2^s≤2^31:=Nat.pow_le_pow_right (by decide) hs
  have h2:x*2^s≤4294967295*2^31:=Nat.mul_le_mul (by omega) h1
  have h3:4294967295*2^31<18446744073709551616:=by decide
  omega
end Orr
