/- T7 T8 T9 T10 T11 T12 T13 T14 T15 T16 T17 T18 T19 T20 -/
import Derived.Test.YtledghfgedoofaaGreatPart05
set_option linter.all false
namespace Orq
theorem Qz3 {p:List Rat} {x:Rat} (h:Jo p x≠0):∃ e:Rat,0<e∧∀ y,x<y→y-x≤e→Qj (ev p y)=Jo p x:=by
  by_cases h0:Qj (ev p x)=0
  · have hx:=Q0.1 h0
    rw [Qhm h0] at h ⊢
    have hR:0≤Ql x+1:=by have:=Zx x; grind
    obtain ⟨e,e1,e2,e3⟩:=Zi (Et hR p) (Vv (x:=dv p x) fun h'=>h (Q0.2 h'))
    refine ⟨e,e1,fun y h1 h2=>?_⟩
    have hy:Ql y≤Ql x+1:=by
      have:=X7 x (y-x)
      have e:x+(y-x)=y:=by grind
      have e':Ql (y-x)=y-x:=by unfold Ql; split <;> grind
      rw [e,e'] at this; grind
    have:=Av (p:=p) (by grind) hy hR h1 h2 Rat.le_refl e3
    rw [hx] at this
    rw [←this]; congr 1; grind
  · rw [Un h0] at h ⊢
    obtain ⟨e,e1,e2⟩:=Qzh h
    exact ⟨e,e1,fun y h1 h2=>e2 y (by rw [Yd]; constructor <;> grind)⟩
def cq (P:List Rat) (lo hi q:Rat):Int:=if q≤lo then 1 else if hi<q then -1 else if Qj (ev P q)=0 then 0 else if Qj (ev P q)=Jo P lo then 1 else -1
structure Vt (P:List Rat) (L:List (List Rat)) (lo hi:Rat):Prop where
  s:Dk P L
  l:lo<hi
  v:vv L lo=vv L hi+1
variable {P:List Rat} {L:List (List Rat)} {lo hi:Rat}
theorem Uf {q:Rat} (h:q≤lo):cq P lo hi q=1:=by unfold cq; rw [if_pos h]
theorem P8 {q:Rat} (h:lo<hi) (h':hi<q):cq P lo hi q=-1:=by unfold cq; rw [if_neg (by grind),if_pos h']
theorem Fa {q:Rat} (h1:lo<q) (h2:q≤hi):cq P lo hi q=if Qj (ev P q)=0 then 0 else if Qj (ev P q)=Jo P lo then 1 else -1:=by
  unfold cq; rw [if_neg (by grind),if_neg (by grind)]
theorem Vt.two (V:Vt P L lo hi) {q:Rat} (h1:lo<q) (h2:q≤hi):vv L q=vv L lo∧cq P lo hi q=1∧Qj (ev P q)=Jo P lo∨vv L q=vv L hi∧cq P lo hi q≠1∧Jo P q=-Jo P lo∧Jo P lo≠0:=by
  have a:=Us V.s h1
  have b:vv L hi≤vv L q:=by
    rcases Classical.em (q=hi) with e | e
    · rw [e]; exact Nat.le_refl _
    · exact Us V.s (by grind)
  have hv:=V.v
  rcases (show vv L q=vv L lo∨vv L q=vv L hi by omega) with e | e
  · have hs:=Qcz V.s h1 e.symm
    refine .inl ⟨e,?_,hs.s⟩
    rw [Fa h1 h2,hs.s,if_neg hs.n,if_pos rfl]
  · obtain ⟨o1,o2⟩:=Qcy V.s h1 (by omega)
    refine .inr ⟨e,?_,o2,o1⟩
    rw [Fa h1 h2]
    split
    · decide
    · rename_i h0
      rw [Un h0] at o2
      rw [if_neg (by omega)]; decide
theorem Vt.lowlo (V:Vt P L lo hi):Jo P lo≠0:=(Qcy V.s V.l V.v).1
theorem Vt.eq_lo (V:Vt P L lo hi) {q:Rat} (h1:lo<q) (h2:q≤hi) (h:cq P lo hi q=1):vv L q=vv L lo:=by
  rcases V.two h1 h2 with ⟨e,_⟩ | ⟨_,e,_⟩
  · exact e
  · exact absurd h e
theorem Vt.eq_hi (V:Vt P L lo hi) {q:Rat} (h1:lo<q) (h2:q≤hi) (h:cq P lo hi q≠1):vv L q=vv L hi:=by
  rcases V.two h1 h2 with ⟨_,e,_⟩ | ⟨e,_⟩
  · exact absurd e h
  · exact e
theorem Vt.hi1 (V:Vt P L lo hi):cq P lo hi hi≠1:=fun h=>by have:=V.eq_lo V.l Rat.le_refl h; have:=V.v; omega
theorem Vt.cut (V:Vt P L lo hi):Cut (cq P lo hi) where
  val q:=by unfold cq; split <;> (try split) <;> (try split) <;> (try split) <;> simp
  mono q r h h1:=by
    have hq:lo<q:=by
     rcases Qx q lo with e | e
     · exact absurd (Uf e) h1
     · exact e
    rcases Qx r hi with e | e
    · have e1:=V.eq_hi hq (by grind) h1
      rcases V.two (q:=r) (by grind) e with ⟨e2,_⟩ | ⟨e2,_,e3,e4⟩
      · have:=Us V.s h; have:=V.v; omega
      · have hs:=Qcz V.s h (by omega)
        rcases V.two hq (by grind) with ⟨e5,_⟩ | ⟨_,_,e5,_⟩
        · have:=V.v; omega
        · rw [Fa (by grind) e,hs.s,if_neg hs.n,e5,if_neg (by omega)]
    · exact P8 V.l e
  up q h:=by
    rcases Qx q lo with e | e
    · obtain ⟨d,dp,hd⟩:=Qz3 V.lowlo
      obtain ⟨f,fp,f1,f2⟩:=min2 (a:=d) (b:=hi-lo) dp (by have:=V.l; grind)
      have h1:lo<lo+f:=by clear hd; grind
      have h2:lo+f≤hi:=by clear hd; grind
      have:=hd (lo+f) h1 (by clear hd; grind)
      exact ⟨lo+f,by clear hd; grind,by rw [Fa h1 h2,this,if_neg V.lowlo,if_pos rfl]⟩
    · have hh:q≤hi:=by
       rcases Qx q hi with e' | e'
       · exact e'
       · have:=P8 (P:=P) V.l e'; omega
      rcases V.two e hh with ⟨e1,_,e2⟩ | ⟨_,e1,_⟩
      · have hn:q≠hi:=fun h=>by rw [h] at e1; have:=V.v; omega
        obtain ⟨d,dp,hd⟩:=Qzh (p:=P) (x:=q) (by rw [e2]; exact V.lowlo)
        obtain ⟨f,fp,f1,f2⟩:=min2 (a:=d) (b:=hi-q) dp (by clear hd; grind)
        have:=hd (q+f) (by rw [Yd]; clear hd; constructor <;> grind)
        exact ⟨q+f,by clear hd; grind,by rw [Fa (by clear hd; grind) (by clear hd; grind),this,e2,if_neg V.lowlo,if_pos rfl]⟩
      · exact absurd h e1
  dn q h:=by
    have hq:lo<q:=by
     rcases Qx q lo with e | e
     · have:=Uf (P:=P) (hi:=hi) e; omega
     · exact e
    rcases Qx q hi with e | e
    · rw [Fa hq e] at h
      split at h
      · cases h
      rename_i h0
      split at h
      · cases h
      rename_i h1
      obtain ⟨d,dp,hd⟩:=Qzh h0
      obtain ⟨f,fp,f1,f2⟩:=min2 (a:=d) (b:=(q-lo) / 2) dp (Uh (by clear hd; grind) (by decide))
      have h2:(q-lo) / 2*2=q-lo:=Zh (by decide)
      have:=hd (q-f) (by rw [Yd]; clear hd; constructor <;> grind)
      exact ⟨q-f,by clear hd; grind,by rw [Fa (by clear hd; grind) (by clear hd; grind),this,if_neg h0,if_neg h1]⟩
    · have h2:(q-hi) / 2*2=q-hi:=Zh (by decide)
      exact ⟨q-(q-hi) / 2,by grind,P8 V.l (by grind)⟩
  lo:=⟨lo,Uf Rat.le_refl⟩
  hi:=⟨hi+1,P8 V.l (by grind)⟩
theorem Vt.van (V:Vt P L lo hi):Fl P (cq P lo hi):=by
  have hc:=V.cut
  rcases Ti hc P with h | ⟨s,hs,h⟩
  · exact h
  · exfalso
    have e1:s=Jo P lo:=by
      obtain ⟨x,hx,hx1⟩:=Qkz hc h
      obtain ⟨q,q1,q2,q3⟩:=Es hc hx (Uf (P:=P) (hi:=hi) (Rat.le_refl (a:=lo)))
      have hq:q≤hi:=by
       rcases Qx q hi with e | e
       · exact e
       · have:=P8 (P:=P) V.l e; omega
      rcases V.two q3 hq with ⟨_,_,e⟩ | ⟨_,e,_⟩
      · rw [←hx1 q q1 (Rat.le_of_lt q2),e]
      · exact absurd q1 e
    rcases hc.val hi with e | e | e
    · exact V.hi1 e
    · have h0:=Qex hc e h
      rw [Fa V.l Rat.le_refl] at e
      split at e
      · omega
      · split at e <;> omega
    · obtain ⟨y,hy,hy1⟩:=Qac hc h
      obtain ⟨q,q1,q2,q3⟩:=Qg0 hc hy e
      have hq:lo<q:=hc.lt (Uf (P:=P) (hi:=hi) (Rat.le_refl (a:=lo))) q1
      have:=hy1 q q1 (Rat.le_of_lt q2)
      rw [Fa hq (Rat.le_of_lt q3),this,if_neg hs,if_pos e1] at q1
      cases q1
def Qhc (w:List Rat) (lo hi:Rat):Prop:=Qj (ev w hi)=0∨Qj (ev w hi)≠Jo w lo
theorem Vt.has (V:Vt P L lo hi) {w u:List Rat} (hf:∀ t,ev P t=ev w t*ev u t) {a b:Rat} (h1:lo≤a) (h2:a<b) (h3:b≤hi):Qhc w a b↔Fl w (cq P lo hi)∧cq P lo hi a=1∧cq P lo hi b≠1:=by
  have hc:=V.cut
  have smno:vv L a=vv L b→¬Qhc w a b:=fun h hh=>by
    have:=Sz V.s hf h2 h
    rcases hh with e | e
    · rw [this.s] at e; exact this.n e
    · exact e this.s
  by_cases ha:cq P lo hi a=1
  · by_cases hb:cq P lo hi b=1
    · have e1:=V.eq_lo (by grind) h3 hb
      have e2:vv L a=vv L lo:=by
        rcases Classical.em (lo=a) with e | e
        · rw [e]
        · exact V.eq_lo (by grind) (by grind) ha
      exact ⟨fun h=>absurd h (smno (by omega)),fun h=>absurd hb h.2.2⟩
    · have e1:=V.eq_hi (by grind) h3 hb
      have e2:vv L a=vv L lo:=by
        rcases Classical.em (lo=a) with e | e
        · rw [e]
        · exact V.eq_lo (by grind) (by grind) ha
      -- signs on both sides,within the piece
      have left:∀ s,LS w (cq P lo hi) s→s=Jo w a:=fun s hs=>by
        obtain ⟨x,hx,hx1⟩:=hs
        obtain ⟨q,q1,q2,q3⟩:=Es hc hx ha
        have hqb:q<b:=by
          rcases Qx b q with e | e
          · rcases Classical.em (b=q) with e' | e'
            · rw [e'] at hb; exact absurd q1 hb
            · have:=hc.mono b q (by clear hx1 smno; grind) hb; omega
          · exact e
        have:=V.eq_lo (q:=q) (by clear hx1 smno; grind) (by clear hx1 smno; grind) q1
        rw [←(Sz V.s hf q3 (by omega)).s,hx1 q q1 (Rat.le_of_lt q2)]
      have right:∀ s,RS w (cq P lo hi) s→cq P lo hi b=-1→s=Qj (ev w b):=fun s hs hb=>by
        obtain ⟨y,hy,hy1⟩:=hs
        obtain ⟨q,q1,q2,q3⟩:=Qg0 hc hy hb
        have hqa:=hc.lt ha q1
        have:=V.eq_hi (q:=q) (by clear hy1 smno; grind) (by clear hy1 smno; grind) (by omega)
        have hs:=Sz V.s hf q3 (by omega)
        have hl:=hy1 q q1 (Rat.le_of_lt q2)
        have h0:Qj (ev w q)≠0:=by
          have hs2:=Sz V.s hf (x:=q) (y:=b) q3 (by omega)
          intro h0
          obtain ⟨r,r1,r2⟩:=hc.dn q q1
          have har:=hc.lt ha r2
          have:=V.eq_hi (q:=r) (by clear hy1 smno; grind) (by clear hy1 smno; grind) (by omega)
          have hs3:=Sz V.s hf (x:=r) (y:=q) r1 (by omega)
          have hs4:=hs3.s
          rw [h0] at hs4; exact hs3.n hs4.symm
        rw [hs.s,Un h0,hl]
      refine ⟨fun h=>⟨?_,ha,hb⟩,fun ⟨hw,_,_⟩=>?_⟩
      · rcases Ti hc w with e | ⟨s,Io,hs⟩
        · exact e
        · exfalso
          have l1:=left s (Qkz hc hs)
          have r1:Qj (ev w b)=s:=by
            rcases hc.val b with e | e | e
            · exact absurd e hb
            · exact Qex hc e hs
            · exact (right s (Qac hc hs) e).symm
          rcases h with h | h
          · exact Io (by rw [←r1]; exact h)
          · exact h (by rw [r1,l1])
      · rcases hc.val b with e | e | e
        · exact absurd e hb
        · exact .inl (Q0.2 (Ck hc e hw))
        · obtain ⟨s,Io,hs⟩:=Qj4 hc V.s hf hw
          have l1:=left _ (Qrg hc hw (Qkz hc hs) Io)
          have r1:=right _ (Qci hc hw (Qac hc hs) Io) e
          exact .inr (by rw [←l1,←r1]; omega)
  · have hla:lo<a:=by
     rcases Classical.em (lo=a) with e | e
     · rw [←e] at ha; exact absurd (Uf Rat.le_refl) ha
     · grind
    have hb:cq P lo hi b≠1:=by have:=hc.mono a b h2 ha; omega
    have e1:=V.eq_hi hla (by grind) ha
    have e2:=V.eq_hi (q:=b) (by grind) h3 hb
    exact ⟨fun h=>absurd h (smno (by omega)),fun h=>absurd h.2.1 ha⟩
theorem Qdp {c c':Rat→Int} (hc:Cut c) (hc':Cut c') {q:Rat} (h:c q≠c' q):∃ r,(c r=-1∧c' r=1)∨(c r=1∧c' r=-1):=by
  rcases hc.val q with e | e | e <;> rcases hc'.val q with e' | e' | e'
  · omega
  · obtain ⟨r,r1,r2⟩:=hc.up q e
    exact ⟨r,.inr ⟨r2,hc'.mono q r r1 (by omega)⟩⟩
  · exact ⟨q,.inr ⟨e,e'⟩⟩
  · obtain ⟨r,r1,r2⟩:=hc'.up q e'
    exact ⟨r,.inl ⟨hc.mono q r r1 (by omega),r2⟩⟩
  · omega
  · obtain ⟨r,r1,r2⟩:=hc'.dn q e'
    exact ⟨r,.inr ⟨hc.mono' r1 (by omega),r2⟩⟩
  · exact ⟨q,.inl ⟨e,e'⟩⟩
  · obtain ⟨r,r1,r2⟩:=hc.dn q e
    exact ⟨r,.inl ⟨r2,hc'.mono' r1 (by omega)⟩⟩
  · omega
theorem Vt.uniq (V:Vt P L lo hi) {c:Rat→Int} (hc:Cut c) (h1:c lo=1) (h2:c hi≠1) (hv:Fl P c) (q:Rat):c q=cq P lo hi q:=by
  rcases Classical.em (c q=cq P lo hi q) with e | e
  · exact e
  · exfalso
    obtain ⟨r,⟨r1,r2⟩ | ⟨r1,r2⟩⟩:=Qdp hc V.cut e
    · have hl:=hc.lt h1 r1
      have hh:r≤hi:=by
       rcases Qx r hi with e | e
       · exact e
       · have:=P8 (P:=P) V.l e; omega
      have:=V.eq_lo hl hh r2
      exact Qrs V.s (w:=P) (u:=[1]) (fun t=>by rw [Xj]; grind) (x:=lo) (y:=r) (by omega) hc h1 (by omega) hv
    · have hl:lo<r:=by
       rcases Qx r lo with e | e
       · have:=Uf (P:=P) (hi:=hi) e; omega
       · exact e
      have hh:r≤hi:=by
       rcases Qx r hi with e | e
       · exact e
       · have:=hc.mono hi r e h2; omega
      have:=V.eq_hi hl hh (by omega)
      exact Qrs V.s (w:=P) (u:=[1]) (fun t=>by rw [Xj]; grind) (x:=r) (y:=hi) (by omega) hc r1 h2 hv
theorem Vt.same (V:Vt P L lo hi) {P':List Rat} {L':List (List Rat)} {lo' hi':Rat} (V':Vt P' L' lo' hi') {g u u' U W:List Rat} {k:Rat} (hk:k≠0) (h1:∀ t,ev P t=ev g t*ev u t) (h2:∀ t,ev P' t=ev g t*ev u' t) (h3:∀ t,k*ev g t=ev U t*ev P t+ev W t*ev P' t) {a b:Rat} (ha1:lo≤a) (ha2:lo'≤a) (ha:a=lo∨a=lo') (hb1:b≤hi) (hb2:b≤hi') (hb:b=hi∨b=hi'):(a<b∧Qhc g a b)↔∀ q,cq P lo hi q=cq P' lo' hi' q:=by
  have hc:=V.cut
  have hc':=V'.cut
  constructor
  · rintro ⟨hab,hg⟩
    obtain ⟨g1,g2,g3⟩:=(V.has h1 ha1 hab hb1).1 hg
    obtain ⟨g4,g5,g6⟩:=(V'.has h2 ha2 hab hb2).1 hg
    intro q
    refine (V.uniq hc' (by
      rcases Classical.em (lo=a) with e | e
      · rw [e]; exact g5
      · exact hc'.mono' (q:=lo) (r:=a) (by grind) (by omega)) (fun h=>?_) (J1 hc' h1 g4) q).symm
    rcases Classical.em (b=hi) with e | e
    · rw [←e] at h; exact g6 h
    · have:=hc'.mono b hi (by grind) g6; omega
  · intro h
    have hcc:cq P' lo' hi'=cq P lo hi:=funext fun q=>(h q).symm
    have e1:cq P lo hi a=1:=by
     rcases ha with rfl | rfl
     · exact Uf Rat.le_refl
     · rw [h]; exact Uf Rat.le_refl
    have e2:cq P lo hi b≠1:=by
     rcases hb with rfl | rfl
     · exact V.hi1
     · rw [h]; exact V'.hi1
    have hab:a<b:=by
      rcases Qx b a with e | e
      · rcases Classical.em (b=a) with e' | e'
        · rw [e'] at e2; exact absurd e1 e2
        · have:=hc.mono b a (by grind) e2; omega
      · exact e
    have v1:=V.van
    have v2:=V'.van
    rw [hcc] at v2
    have hg:Fl g (cq P lo hi):=by
      have a1:Fl (Za U P) (cq P lo hi):=J1 hc (p:=P) (q:=U) (fun t=>by rw [Qi]; grind) v1
      have a2:Fl (Za W P') (cq P lo hi):=J1 hc (p:=P') (q:=W) (fun t=>by rw [Qi]; grind) v2
      have a3:=Lx (fun t=>Q9 t _ _) a1 a2
      refine Qao hc (k:=1 / k) (fun t=>?_) a3
      rw [Q9,Qi,Qi,←h3]
      have:1 / k*(k*ev g t)=1 / k*k*ev g t:=by grind
      rw [this,show 1 / k*k=1 from Rat.div_mul_cancel hk]; grind
    exact ⟨hab,(V.has h1 ha1 hab hb1).2 ⟨hg,e1,e2⟩⟩
end Orq

namespace Orq
theorem Qr6:∀ (M:Nat) (f:Nat→Nat),(∀ i,i≤M→f i<M)→∃ i j,i<j∧j≤M∧f i=f j
  | 0,f,h=>absurd (h 0 (Nat.le_refl _)) (Nat.not_lt_zero _)
  |
   M+1,f,h=>by
   rcases Classical.em (∃ i,i≤M∧f i=f (M+1)) with ⟨i,h1,h2⟩ | hn
   · exact ⟨i,M+1,by omega,Nat.le_refl _,h2⟩
   · have hne:∀ i,i≤M→f i≠f (M+1):=fun i hi e=>hn ⟨i,hi,e⟩
     obtain ⟨i,j,h1,h2,h3⟩:=Qr6 M (fun i=>if f i=M then f (M+1) else f i) fun i hi=>by
       have a1:=h i (by omega)
       have a2:=h (M+1) (Nat.le_refl _)
       have a3:=hne i hi
       show (if f i=M then f (M+1) else f i)<M
       split <;> omega
     refine ⟨i,j,h1,by omega,?_⟩
     have a1:=hne i (by omega)
     have a2:=hne j h2
     split at h3 <;> split at h3 <;> omega
def dg (B k i:Nat):Nat:=k / B^i % B
theorem Qj2 (B k i:Nat):dg B k (i+1)=dg B (k / B) i:=by unfold dg; rw [Nat.pow_succ,Nat.mul_comm,Nat.div_div_eq_div_mul]
theorem Qpx {B:Nat}:∀ (N:Nat) {k k':Nat},k<B^N→k'<B^N→(∀ i,i<N→dg B k i=dg B k' i)→k=k'
  | 0,k,k',h,h',_=>by rw [Nat.pow_zero] at h h'; omega
  |
   N+1,k,k',h,h',he=>by
   have h0:=he 0 (by omega)
   unfold dg at h0
   rw [Nat.pow_zero,Nat.div_one,Nat.div_one] at h0
   have hB:0<B:=by
     rcases Nat.eq_zero_or_pos B with e | e
     · rw [e,Nat.pow_succ,Nat.mul_zero] at h; omega
     · exact e
   have h1:=Qpx N (k:=k / B) (k':=k' / B) (Nat.div_lt_of_lt_mul (by rw [Nat.mul_comm,←Nat.pow_succ]; exact h)) (Nat.div_lt_of_lt_mul (by rw [Nat.mul_comm,←Nat.pow_succ]; exact h')) fun i hi=>by
     rw [←Qj2,←Qj2]; exact he (i+1) (by omega)
   rw [←Nat.mod_add_div k B,←Nat.mod_add_div k' B,h0,h1]
def cd (B:Nat):Nat→(Nat→Nat)→Nat
  | 0,_=>0
  | E+1,x=>x 0+B*cd B E fun e=>x (e+1)
theorem Qxy {B:Nat}:∀ (E:Nat) {x:Nat→Nat},(∀ e,e<E→x e<B)→cd B E x<B^E
  | 0,_,_=>by simp [cd]
  |
   E+1,x,h=>by
   have h1:=h 0 (by omega)
   have h2:=Qxy E (x:=fun e=>x (e+1)) fun e he=>h (e+1) (by omega)
   simp only [cd]
   have h3:B*cd B E (fun e=>x (e+1))+B≤B*B^E:=by
     rw [←Nat.mul_succ]; exact Nat.mul_le_mul_left _ h2
   rw [Nat.pow_succ,Nat.mul_comm (B^E)]; omega
theorem Qpk {B:Nat}:∀ (E:Nat) {x y:Nat→Nat},(∀ e,e<E→x e<B)→(∀ e,e<E→y e<B)→cd B E x=cd B E y→∀ e,e<E→x e=y e
  | 0,_,_,_,_,_,e,he=>by omega
  |
   E+1,x,y,hx,hy,h,e,he=>by
   have h1:=hx 0 (by omega)
   have h2:=hy 0 (by omega)
   simp only [cd] at h
   have e0:x 0=y 0:=by
     have:=congrArg (· % B) h
     simp only [Nat.add_mul_mod_self_left] at this
     rwa [Nat.mod_eq_of_lt h1,Nat.mod_eq_of_lt h2] at this
   have e1:cd B E (fun e=>x (e+1))=cd B E (fun e=>y (e+1)):=Nat.eq_of_mul_eq_mul_left (by omega:0<B) (by omega)
   cases e with
   | zero=>exact e0
   | succ e=>exact Qpk E (fun e he=>hx (e+1) (by omega)) (fun e he=>hy (e+1) (by omega)) e1 e (by omega)
def sm:Nat→(Nat→Int)→Int
  | 0,_=>0
  | n+1,f=>sm n f+f n
theorem Qs9 (f g:Nat→Int):∀ n,sm n (fun i=>f i-g i)=sm n f-sm n g
  | 0=>rfl
  | n+1=>by simp only [sm,Qs9 f g n]; omega
theorem K6 {f g:Nat→Int}:∀ n,(∀ i,i<n→f i=g i)→sm n f=sm n g
  | 0,_=>rfl
  | n+1,h=>by simp only [sm,K6 n (fun i hi=>h i (by omega)),h n (by omega)]
theorem Qs8 {f:Nat→Int} {b:Nat}:∀ n,(∀ i,i<n→(f i).natAbs≤b)→(sm n f).natAbs≤n*b
  | 0,_=>by simp [sm]
  |
   n+1,h=>by
   have h1:=Qs8 n fun i hi=>h i (by omega)
   have h2:=h n (by omega)
   simp only [sm]
   rw [Nat.succ_mul]; omega
theorem Ty {f:Nat→Int}:∀ n,(∀ i,i<n→f i=0)→sm n f=0
  | 0,_=>rfl
  | n+1,h=>by simp only [sm,Ty n (fun i hi=>h i (by omega)),h n (by omega)]; rfl
theorem Qig (f:Nat→Int) (m:Nat):∀ n,sm (m+n) f=sm m f+sm n fun i=>f (m+i)
  | 0=>by simp [sm]
  | n+1=>by rw [←Nat.add_assoc]; simp only [sm,Qig f m n]; omega
theorem Qih (f:Nat→Int) (J:Nat):∀ b,sm (b*J) f=sm b fun i=>sm J fun j=>f (i*J+j)
  | 0=>by simp [sm]
  | b+1=>by rw [Nat.succ_mul,Qig,Qih f J b]; rfl
theorem Ig {f:Nat→Int} {k:Nat}:∀ n,k<n→(∀ i,i<n→i≠k→f i=0)→sm n f=f k
  | 0,h,_=>by omega
  |
   n+1,h,h1=>by
   simp only [sm]
   rcases Nat.lt_or_eq_of_le (Nat.le_of_lt_succ h) with e | e
   · rw [Ig n e fun i hi=>h1 i (by omega),h1 n (by omega) (by omega)]; omega
   · subst e; rw [Ty k fun i hi=>h1 i (by omega) (by omega)]; omega
theorem Q0u {M:Nat→Nat→Int} {h N E H:Nat} (hM:∀ e i,(M e i).natAbs≤h) (hc:(2*(N*(h*H))+1)^E<(H+1)^N) :
    ∃ v:Nat→Int,(∀ i,(v i).natAbs≤H)∧(∃ i,i<N∧v i≠0)∧∀ e,e<E→sm N (fun i=>M e i*v i)=0:=by
  obtain ⟨T,hT⟩:∃ T,T=N*(h*H):=⟨_,rfl⟩
  rw [←hT] at hc
  have hv:∀ k i,dg (H+1) k i≤H:=fun k i=>Nat.le_of_lt_succ (Nat.mod_lt _ (by omega))
  have hs:∀ k e,(sm N fun i=>M e i*(dg (H+1) k i:Int)).natAbs≤T:=fun k e=>by
    rw [hT]
    refine Qs8 N fun i _=>?_
    rw [Int.natAbs_mul,Int.natAbs_natCast]
    exact Nat.mul_le_mul (hM e i) (hv k i)
  have him:∀ k e,((sm N fun i=>M e i*(dg (H+1) k i:Int))+T).toNat<2*T+1:=fun k e=>by have:=hs k e; omega
  obtain ⟨i,j,h1,h2,h3⟩:=Qr6 ((2*T+1)^E) (fun k=>cd (2*T+1) E fun e=>((sm N fun i=>M e i*(dg (H+1) k i:Int))+T).toNat) fun k _=>Qxy E fun e _=>him k e
  have h4:=Qpk E (fun e _=>him i e) (fun e _=>him j e) h3
  refine ⟨fun n=>(dg (H+1) i n:Int)-dg (H+1) j n,fun n=>?_,?_,fun e he=>?_⟩
  · have a1:=hv i n
    have a2:=hv j n
    show ((dg (H+1) i n:Int)-dg (H+1) j n).natAbs≤H
    omega
  · rcases Classical.em (∃ n,n<N∧(dg (H+1) i n:Int)-dg (H+1) j n≠0) with e | e
    · exact e
    · exfalso
      have:i=j:=Qpx (B:=H+1) N (by omega) (by omega) fun n hn=>by
        rcases Classical.em (dg (H+1) i n=dg (H+1) j n) with e' | e'
        · exact e'
        · exact absurd ⟨n,hn,by omega⟩ e
      omega
  · have a1:=h4 e he
    have a2:=hs i e
    have a3:=hs j e
    have:(sm N fun n=>M e n*(dg (H+1) i n:Int))=sm N fun n=>M e n*(dg (H+1) j n:Int):=by omega
    have e1:=Qs9 (fun n=>M e n*(dg (H+1) i n:Int)) (fun n=>M e n*(dg (H+1) j n:Int)) N
    rw [this] at e1
    rw [K6 N (g:=fun n=>M e n*(dg (H+1) i n:Int)-M e n*(dg (H+1) j n:Int)) fun n _=>Int.mul_sub _ _ _,e1]; omega
end Orq

namespace Orq
def Qg:List Int→Rat→Rat
  | [],_=>0
  | a::p,t=>(a:Rat)+t*Qg p t
def sq:Nat→(Nat→Rat)→Rat
  | 0,_=>0
  | n+1,f=>sq n f+f n
theorem Jp {f g:Nat→Rat}:∀ n,(∀ i,i<n→f i=g i)→sq n f=sq n g
  | 0,_=>rfl
  | n+1,h=>by simp only [sq,Jp n (fun i hi=>h i (by omega)),h n (by omega)]
theorem Qin (f g:Nat→Rat):∀ n,sq n (fun i=>f i+g i)=sq n f+sq n g
  | 0=>by simp only [sq]; grind
  | n+1=>by simp only [sq,Qin f g n]; grind
theorem Tc (c:Rat) (f:Nat→Rat):∀ n,sq n (fun i=>c*f i)=c*sq n f
  | 0=>by simp only [sq]; grind
  | n+1=>by simp only [sq,Tc c f n]; grind
theorem V0 {f:Nat→Rat}:∀ n,(∀ i,i<n→f i=0)→sq n f=0
  | 0,_=>rfl
  | n+1,h=>by simp only [sq,V0 n (fun i hi=>h i (by omega)),h n (by omega)]; grind
theorem Gm (f:Nat→Rat):∀ n,sq (n+1) f=f 0+sq n fun i=>f (i+1)
  | 0=>by simp only [sq]; grind
  | n+1=>by rw [sq,Gm f n]; simp only [sq]; grind
theorem Qyn {f:Nat→Rat} {b:Rat}:∀ n,(∀ i,i<n→Ql (f i)≤b)→Ql (sq n f)≤(n:Rat)*b
  | 0,_=>by rw [show ((0:Nat):Rat)=0 from rfl]; simp only [sq,Z6]; grind
  |
   n+1,h=>by
   have h1:=Qyn n fun i hi=>h i (by omega)
   have h2:=h n (by omega)
   have h3:=X7 (sq n f) (f n)
   have hn':(((n+1:Nat):Rat))=(n:Rat)+1:=by push_cast; rfl
   rw [hn']; simp only [sq]; clear h; grind
def gc:List Int→Nat→Nat→Int
  | [],_,_=>0
  | c::B,k,j=>(if k=0∧j=0 then c else 0)+(if k=0 then 0 else gc B (k-1) j)-(if j=0 then 0 else gc B k (j-1))
def gB:List Int→Nat
  | []=>0
  | c::B=>max c.natAbs (2*gB B)
theorem D7:∀ (B:List Int) (k j:Nat),B.length≤k+j→gc B k j=0
  | [],_,_,_=>rfl
  |
   c::B,k,j,h=>by
   simp only [List.length_cons] at h
   simp only [gc]
   rw [if_neg (by omega)]
   have e1:(if k=0 then 0 else gc B (k-1) j)=0:=by
     split
     · rfl
     · exact D7 B _ _ (by omega)
   have e2:(if j=0 then 0 else gc B k (j-1))=0:=by
     split
     · rfl
     · exact D7 B _ _ (by omega)
   rw [e1,e2]; rfl
theorem Qqk:∀ (B:List Int) (k j:Nat),(gc B k j).natAbs≤gB B
  | [],_,_=>Nat.zero_le _
  |
   c::B,k,j=>by
   have h1:=Qqk B (k-1) j
   have h2:=Qqk B k (j-1)
   simp only [gc,gB]
   by_cases hk:k=0 <;> by_cases hj:j=0 <;> simp only [hk,hj,true_and,and_true,false_and,and_false,if_true,if_false] <;> (try subst hk) <;> (try subst hj) <;> omega
theorem Qql:∀ (B:List Int) (b:Nat),B.length=b+1→(gc B 0 b).natAbs=(B.getD b 0).natAbs
  | [],_,h=>by simp at h
  | [c],0,_=>by simp [gc]
  | c::d::B,0,h=>by simp at h
  |
   c::B,b+1,h=>by
   have ih:=Qql B b (by simpa using h)
   simp only [gc]
   simp only [Nat.add_sub_cancel,List.getD_cons_succ]
   rw [if_pos trivial,if_neg (Nat.succ_ne_zero b),←ih]; omega
def E2 (F:Nat→Nat→Int) (K J:Nat) (x y:Rat):Rat:=sq K fun k=>sq J fun j=>(F k j:Rat)*(y^k*x^j)
theorem Qg4 (F G:Nat→Nat→Int) (K J:Nat) (x y:Rat):E2 (fun k j=>F k j+G k j) K J x y=E2 F K J x y+E2 G K J x y:=by
  unfold E2
  rw [←Qin]
  refine Jp K fun k _=>?_
  rw [←Qin]
  exact Jp J fun j _=>by push_cast; grind
theorem Qp6 (c:Int) (F:Nat→Nat→Int) (K J:Nat) (x y:Rat):E2 (fun k j=>F k j*c) K J x y=(c:Rat)*E2 F K J x y:=by
  unfold E2
  rw [←Tc]
  refine Jp K fun k _=>?_
  rw [←Tc]
  exact Jp J fun j _=>by push_cast; grind
theorem Qp7 (φ:Nat→Nat→Nat→Int) (v:Nat→Int) (K J:Nat) (x y:Rat):∀ N,E2 (fun k j=>sm N fun n=>φ n k j*v n) K J x y=sq N fun n=>(v n:Rat)*E2 (φ n) K J x y
  |
   0=>by
   simp only [sq,sm]
   unfold E2
   refine V0 K fun k _=>V0 J fun j _=>?_
   rw [show ((0:Int):Rat)=0 from rfl]; grind
  |
   N+1=>by
   simp only [sq]
   rw [←Qp7 φ v K J x y N,←Qp6,←Qg4]
   rfl
theorem M7 (t:Rat) (i:Nat):∀ k,t^(i+k)=t^i*t^k
  | 0=>by rw [Nat.add_zero,Rat.pow_zero]; grind
  | k+1=>by rw [←Nat.add_assoc,Rat.pow_succ,Rat.pow_succ,M7 t i k]; grind
theorem Ih (f:Nat→Rat):∀ (i n:Nat),sq (i+n) (fun k=>if i≤k then f (k-i) else 0)=sq n f
  | i,0=>V0 _ fun k hk=>by rw [if_neg (by omega)]
  |
   i,n+1=>by
   rw [←Nat.add_assoc]; simp only [sq]
   rw [Ih f i n,if_pos (by omega),Nat.add_sub_cancel_left]
def Ds (i j':Nat) (F:Nat→Nat→Int) (k j:Nat):Int:=if i≤k then (if j'≤j then F (k-i) (j-j') else 0) else 0
theorem Ex (F:Nat→Nat→Int) (i j' K J:Nat) (x y:Rat):E2 (Ds i j' F) (i+K) (j'+J) x y=y^i*x^j'*E2 F K J x y:=by
  unfold E2
  rw [←Tc,←Ih _ i K]
  refine Jp _ fun k _=>?_
  by_cases hk:i≤k
  · rw [if_pos hk,←Tc,←Ih _ j' J]
    refine Jp _ fun j _=>?_
    unfold Ds
    rw [if_pos hk]
    by_cases hj:j'≤j
    · rw [if_pos hj,if_pos hj]
      have e1:y^k=y^i*y^(k-i):=by rw [←M7]; congr 1; omega
      have e2:x^j=x^j'*x^(j-j'):=by rw [←M7]; congr 1; omega
      rw [e1,e2]; grind
    · rw [if_neg hj,if_neg hj,show ((0:Int):Rat)=0 from rfl]; grind
  · rw [if_neg hk]
    refine V0 _ fun j _=>?_
    unfold Ds
    rw [if_neg hk,show ((0:Int):Rat)=0 from rfl]; grind
def fA (A:List Int) (k j:Nat):Int:=if j=0 then A.getD k 0 else 0
theorem Qr5 (y:Rat):∀ (A:List Int) (K:Nat),A.length≤K→sq K (fun k=>((A.getD k 0:Int):Rat)*y^k)=Qg A y
  | [],K,_=>by rw [V0]; rfl; intro i _; simp
  | a::A,0,h=>by simp at h
  |
   a::A,K+1,h=>by
   have ih:=Qr5 y A K (by simpa using h)
   rw [Gm]
   simp only [Qg,List.getD_cons_zero,List.getD_cons_succ,Rat.pow_zero]
   rw [←ih,←Tc]
   have:(sq K fun i=>((A.getD i 0:Int):Rat)*y^(i+1))=sq K fun i=>y*(((A.getD i 0:Int):Rat)*y^i):=Jp K fun i _=>by rw [Rat.pow_succ]; grind
   rw [this]; grind
theorem Q2b (A:List Int) (K J:Nat) (x y:Rat) (h:A.length≤K):E2 (fA A) K (J+1) x y=Qg A y:=by
  rw [←Qr5 y A K h]
  refine Jp K fun k _=>?_
  rw [Gm,V0]
  · simp only [fA,if_true,Rat.pow_zero]; grind
  · intro j _
    simp only [fA]
    rw [if_neg (by omega),show ((0:Int):Rat)=0 from rfl]; grind
theorem Qzn (x y:Rat):∀ (B:List Int) (K J:Nat),B.length≤K→B.length≤J→E2 (gc B) K J x y=Qg B (y-x)
  |
   [],K,J,_,_=>by
   unfold E2
   simp only [gc,Qg]
   exact V0 K fun k _=>V0 J fun j _=>by rw [show ((0:Int):Rat)=0 from rfl]; grind
  | c::B,0,J,h,_=>by simp at h
  | c::B,K+1,0,_,h=>by simp at h
  |
   c::B,K+1,J+1,h1,h2=>by
   have i1:=Qzn x y B K (J+1) (by simpa using h1) (by simp at h2; omega)
   have i2:=Qzn x y B (K+1) J (by simp at h1; omega) (by simpa using h2)
   have s1:=Ex (gc B) 1 0 K (J+1) x y
   have s2:=Ex (gc B) 0 1 (K+1) J x y
   rw [Nat.zero_add,Nat.add_comm 1 K] at s1
   rw [Nat.zero_add,Nat.add_comm 1 J] at s2
   rw [i1] at s1
   rw [i2] at s2
   have e0:E2 (fA [c]) (K+1) (J+1) x y=(c:Rat):=by rw [Q2b [c] (K+1) J x y (by simp)]; simp only [Qg]; grind
   have e1:gc (c::B)=fun k j=>(fA [c] k j+Ds 1 0 (gc B) k j)+Ds 0 1 (gc B) k j*(-1):=by
     funext k j
     simp only [gc,fA,Ds]
     by_cases hk:k=0 <;> by_cases hj:j=0
     · subst hk; subst hj; simp
     · subst hk; simp [hj,show 1≤j by omega]
       try omega
     · subst hj
       obtain ⟨m,rfl⟩:∃ m,k=m+1:=⟨k-1,by omega⟩
       simp
     · obtain ⟨m,rfl⟩:∃ m,k=m+1:=⟨k-1,by omega⟩
       obtain ⟨i,rfl⟩:∃ i,j=i+1:=⟨j-1,by omega⟩
       simp; omega
   rw [e1,Qg4 (fun k j=>fA [c] k j+Ds 1 0 (gc B) k j) (fun k j=>Ds 0 1 (gc B) k j*(-1)),Qg4 (fA [c]) (Ds 1 0 (gc B)),Qp6,e0,s1,s2]
   simp only [Qg,Rat.pow_zero,show y^1=y by rw [Rat.pow_succ,Rat.pow_zero]; grind,show x^1=x by rw [Rat.pow_succ,Rat.pow_zero]; grind]
   rw [show (((-1:Int)):Rat)=-1 from rfl]
   grind
end Orq

namespace Orq
def Iz (A B:List Int) (b J J' n k j:Nat):Int:=if n<b*J then Ds (n / J) (n % J) (fA A) k j else Ds ((n-b*J) / J') ((n-b*J) % J') (gc B) k j
theorem Qs4 {F:Nat→Nat→Int} {h:Nat} (hF:∀ k j,(F k j).natAbs≤h) (i j' k j:Nat):(Ds i j' F k j).natAbs≤h:=by
  unfold Ds; split
  · split
    · exact hF _ _
    · exact Nat.zero_le _
  · exact Nat.zero_le _
theorem Qyc {i b J j:Nat} (hi:i<b) (hj:j<J):i*J+j<b*J:=by
  have:(i+1)*J≤b*J:=Nat.mul_le_mul_right J hi
  rw [Nat.succ_mul] at this; omega
theorem Bs {i J j:Nat} (hj:j<J):(i*J+j) / J=i∧(i*J+j) % J=j:=by
  rw [Nat.mul_comm,Nat.mul_add_div (by omega),Nat.mul_add_mod,Nat.div_eq_of_lt hj,Nat.mod_eq_of_lt hj]; exact ⟨by omega,rfl⟩
theorem Qaj (A B:List Int) (a b J J':Nat) (v:Nat→Int) (k j:Nat):sm (b*J+a*J') (fun n=>Iz A B b J J' n k j*v n) =
    (sm b fun i=>sm J fun j1=>Ds i j1 (fA A) k j*v (i*J+j1))+sm a fun i=>sm J' fun j1=>Ds i j1 (gc B) k j*v (b*J+(i*J'+j1)):=by
  rw [Qig,Qih,Qih]
  congr 1
  · refine K6 b fun i hi=>K6 J fun j1 hj=>?_
    unfold Iz
    rw [if_pos (Qyc hi hj),(Bs hj).1,(Bs hj).2]
  · refine K6 a fun i hi=>K6 J' fun j1 hj=>?_
    unfold Iz
    rw [if_neg (by omega),Nat.add_sub_cancel_left,(Bs hj).1,(Bs hj).2]
theorem Q17 (A:List Int) (v:Nat→Int) {i J k j:Nat} (hj:j<J):(sm J fun j1=>Ds i j1 (fA A) k j*v (i*J+j1))=if i≤k then A.getD (k-i) 0*v (i*J+j) else 0:=by
  rw [Ig (k:=j) J hj fun j1 _ hne=>?_]
  · unfold Ds fA
    by_cases h:i≤k
    · rw [if_pos h,if_pos h,if_pos (Nat.le_refl _),if_pos (Nat.sub_self _)]
    · rw [if_neg h,if_neg h,Int.zero_mul]
  · unfold Ds fA
    by_cases h:i≤k
    · rw [if_pos h]
      by_cases h':j1≤j
      · rw [if_pos h',if_neg (by omega),Int.zero_mul]
      · rw [if_neg h',Int.zero_mul]
    · rw [if_neg h,Int.zero_mul]
section
variable {A B:List Int} {a b J J':Nat} (hA:A.length=a+1) (hB:B.length=b+1) (lA:A.getD a 0≠0) (lB:B.getD b 0≠0) (hJ:J=J'+b) {v:Nat→Int} (hW:∀ k j,k<a+b→j<J→sm (b*J+a*J') (fun n=>Iz A B b J J' n k j*v n)=0)
include hA lA hW in
theorem Qx0 {jj:Nat} (hj:jj<J) (hV:∀ k,a≤k→k<a+b→(sm a fun i=>sm J' fun j1=>Ds i j1 (gc B) k jj*v (b*J+(i*J'+j1)))=0):∀ d i,i<b→b-i≤d→v (i*J+jj)=0:=by
  intro d
  induction d with
  | zero=>intro i hi hd; omega
  |
   succ d ih =>
   intro i hi hd
   have h1:=hW (i+a) jj (by omega) hj
   rw [Qaj,hV (i+a) (by omega) (by omega)] at h1
   rw [K6 b (fun i' hi'=>Q17 A v hj)] at h1
   rw [Ig (k:=i) b hi fun i' hi' hne=>?_] at h1
   · rw [if_pos (by omega),Nat.add_sub_cancel_left,Int.add_zero] at h1
     rcases Int.mul_eq_zero.1 h1 with h2 | h2
     · exact absurd h2 lA
     · exact h2
   · rcases Nat.lt_or_ge i i' with h | h
     · rw [ih i' hi' (by omega)]; simp
     · rw [if_pos (by omega),List.getD_eq_getElem?_getD,List.getElem?_eq_none (by omega)]; simp
include hA hB lA lB hJ hW in
theorem Q19:∀ d js,js<J'→J'-js≤d→∀ i,i<a→v (b*J+(i*J'+js))=0:=by
  intro d
  induction d with
  | zero=>intro js hi hd; omega
  |
   succ d ih =>
   intro js hjs hd i hi
   have hin:∀ i' k,i'<a→(sm J' fun j1=>Ds i' j1 (gc B) k (js+b)*v (b*J+(i'*J'+j1)))=if i'=k then gc B 0 b*v (b*J+(i'*J'+js)) else 0:=fun i' k hi'=>by
     rw [Ig (k:=js) J' hjs fun j1 hj1 hne=>?_]
     · unfold Ds
       by_cases h:i'≤k
       · rw [if_pos h,if_pos (by omega),Nat.add_sub_cancel_left]
         by_cases h':i'=k
         · rw [if_pos h',h',Nat.sub_self]
         · rw [if_neg h',D7 B _ _ (by omega),Int.zero_mul]
       · rw [if_neg h,if_neg (by omega),Int.zero_mul]
     · rcases Nat.lt_or_ge js j1 with h | h
       · rw [ih j1 hj1 (by omega) i' hi',Int.mul_zero]
       · unfold Ds
         by_cases h':i'≤k
         · rw [if_pos h',if_pos (by omega),D7 B _ _ (by omega),Int.zero_mul]
         · rw [if_neg h',Int.zero_mul]
   have hU:=Qx0 hA lA hW (jj:=js+b) (by omega) (fun k hk hk'=>Ty a fun i' hi'=>by rw [hin i' k hi',if_neg (by omega)]) (b+1)
   have h1:=hW i (js+b) (by omega) (by omega)
   rw [Qaj,K6 a (fun i' hi'=>hin i' i hi')] at h1
   rw [Ty b fun i' hi'=>by
     rw [Q17 A v (by omega),hU i' hi' (by omega)]; simp] at h1
   rw [Ig (k:=i) a hi fun i' hi' hne=>if_neg hne,if_pos rfl,Int.zero_add] at h1
   rcases Int.mul_eq_zero.1 h1 with h2 | h2
   · have:=Qql B b hB; rw [h2] at this; omega
   · exact h2
include hA hB lA lB hJ hW in
theorem Qn5:∀ n,n<b*J+a*J'→v n=0:=by
  intro n hn
  have hV:=Q19 hA hB lA lB hJ hW
  rcases Nat.lt_or_ge n (b*J) with h | h
  · have hJp:0<J:=by
      rcases Nat.eq_zero_or_pos J with e | e
      · rw [e,Nat.mul_zero] at h; omega
      · exact e
    have e1:=Nat.mod_lt n hJp
    have e2:n / J<b:=Nat.div_lt_of_lt_mul (by rw [Nat.mul_comm]; exact h)
    have:=Qx0 hA lA hW e1 (fun k _ _=>Ty a fun i hi=>Ty J' fun j1 hj1=>by rw [hV J' j1 hj1 (by omega) i hi,Int.mul_zero]) (b+1) (n / J) e2 (Nat.le_trans (Nat.sub_le _ _) (Nat.le_succ _))
    rwa [Nat.mul_comm,Nat.div_add_mod] at this
  · have hJp:0<J':=by
      rcases Nat.eq_zero_or_pos J' with e | e
      · rw [e,Nat.mul_zero] at hn; omega
      · exact e
    have e1:=Nat.mod_lt (n-b*J) hJp
    have e2:(n-b*J) / J'<a:=Nat.div_lt_of_lt_mul (by rw [Nat.mul_comm J' a]; omega)
    have:=hV J' _ e1 (by omega) _ e2
    rw [Nat.mul_comm ((n-b*J) / J'),Nat.div_add_mod] at this
    rwa [show b*J+(n-b*J)=n by omega] at this
end
theorem Tx {R x:Rat} (h1:1≤R) (hx:Ql x≤R):∀ k:Nat,Ql (x^k)≤R^k∧1≤R^k
  | 0=>by rw [Rat.pow_zero,Rat.pow_zero]; exact ⟨by decide,by decide⟩
  |
   k+1=>by
   obtain ⟨i1,i2⟩:=Tx h1 hx k
   rw [Rat.pow_succ,Rat.pow_succ]
   have:=Vn (a:=1) (c:=1) (by decide) i2 (by decide) h1
   exact ⟨Zg i1 hx,by grind⟩
theorem Qlt {R:Rat} (h1:1≤R) {i:Nat}:∀ k,i≤k→R^i≤R^k
  | 0,h=>by rw [show i=0 by omega]; exact Rat.le_refl
  |
   k+1,h=>by
   rcases Nat.lt_or_eq_of_le h with e | e
   · have:=Qlt h1 (i:=i) k (by omega)
     have h2:=(Tx h1 (x:=0) (by rw [Z6]; grind) k).2
     rw [Rat.pow_succ]
     have:=Vn (a:=R^k) (b:=R^k) (c:=1) (d:=R) (by grind) Rat.le_refl (by decide) h1
     grind
   · rw [e]; exact Rat.le_refl
theorem Qs3 {F:Nat→Nat→Int} {i j' K J:Nat} {x y R X:Rat} {K2 J2:Nat} (h1:1≤R) (hx:Ql x≤R) (hy:Ql y≤R) (hK:K=i+K2) (hJ:J=j'+J2) (hF:E2 F K2 J2 x y=X):Ql (E2 (Ds i j' F) K J x y)≤R^(K+J)*Ql X:=by
  subst hK; subst hJ
  rw [Ex,hF,U5]
  have a1:=(Tx h1 hy i).1
  have a2:=(Tx h1 hx j').1
  have a3:=Zg a1 a2
  rw [←M7] at a3
  have a4:=Qlt h1 (i:=i+j') (i+K2+(j'+J2)) (by omega)
  exact Vn (Zx _) (Rat.le_trans a3 a4) (Zx _) Rat.le_refl
theorem Q0q {A B:List Int} {a b h:Nat} (hA:A.length=a+1) (hB:B.length=b+1) (lA:A.getD a 0≠0) (lB:B.getD b 0≠0) (ha:0<a) (hb:0<b) (h0:1≤h) (bA:∀ k,(A.getD k 0).natAbs≤h) (bB:gB B≤h) {J J' N H:Nat} (hJ:J=2*(a*b)) (hJ':J=J'+b) (hN:N=b*J+a*J') (hH:H=(2*(N*h))^(2*(a+b-1))) :
    ∃ w:Nat→Int,(∃ j,j<J∧w j≠0)∧(∀ j,(w j).natAbs≤N*(h*H))∧∀ R:Rat,1≤R→∃ C:Rat,0≤C∧∀ x y,Ql x≤R→Ql y≤R→Ql (sq J fun j=>(w j:Rat)*x^j)≤C*(Ql (Qg A y)+Ql (Qg B (y-x))):=by
  have hab:0<a*b:=Nat.mul_pos ha hb
  have hbd:∀ n k j,(Iz A B b J J' n k j).natAbs≤h:=fun n k j=>by
    unfold Iz
    split
    · exact Qs4 (fun k j=>by unfold fA; split; exact bA k; exact Nat.zero_le _) _ _ _ _
    · exact Qs4 (fun k j=>Nat.le_trans (Qqk B k j) bB) _ _ _ _
  have hJp:0<J:=by omega
  have hNp:1≤N:=by
    have:0<b*J:=Nat.mul_pos hb hJp
    omega
  have hNh:1≤N*h:=Nat.mul_pos hNp h0
  obtain ⟨E,hE⟩:∃ E,E=(a+b-1)*J:=⟨_,rfl⟩
  have hNE:N=E+a*b:=by
    have e1:(a+b-1)*J+J=(a+b)*J:=by
      rw [←Nat.succ_mul]; congr 1; omega
    have e2:a*J=a*J'+a*b:=by rw [hJ',Nat.mul_add]
    rw [Nat.add_mul] at e1
    omega
  have hc:(2*(N*(h*H))+1)^E<(H+1)^N:=by
    have c1:2*(N*(h*H))+1≤2*(N*h)*(H+1):=by
      rw [Nat.mul_add,Nat.mul_one,Nat.mul_assoc 2,Nat.mul_assoc N]; omega
    refine Nat.lt_of_le_of_lt (Nat.pow_le_pow_left c1 E) ?_
    rw [Nat.mul_pow,hNE,Nat.pow_add,Nat.mul_comm]
    refine Nat.mul_lt_mul_of_pos_left ?_ (Nat.pow_pos (by omega))
    have e1:(2*(N*h))^E=H^(a*b):=by
      rw [hH,←Nat.pow_mul,hE,hJ]; congr 1
      rw [Nat.mul_comm 2 (a+b-1),Nat.mul_assoc]
    rw [←hNE,e1]
    exact Nat.pow_lt_pow_left (by omega) (by omega)
  obtain ⟨v,v1,⟨n0,n1,n2⟩,v3⟩:=Q0u (M:=fun e n=>Iz A B b J J' n (e / J+1) (e % J)) (h:=h) (N:=N) (E:=E) (H:=H) (fun e n=>hbd n _ _) hc
  have hW:∀ k j,1≤k→k<a+b→j<J→sm N (fun n=>Iz A B b J J' n k j*v n)=0:=fun k j k1 k2 hj=>by
    have:=v3 ((k-1)*J+j) (by rw [hE]; exact Qyc (by omega) hj)
    rwa [(Bs hj).1,(Bs hj).2,show k-1+1=k by omega] at this
  refine ⟨fun j=>sm N fun n=>Iz A B b J J' n 0 j*v n,?_,fun j=>?_,fun R hR=>?_⟩
  · rcases Classical.em (∃ j,j<J∧(sm N fun n=>Iz A B b J J' n 0 j*v n)≠0) with e | e
    · exact e
    · exfalso
      refine n2 (Qn5 hA hB lA lB hJ' (v:=v) (fun k j hk hj=>?_) n0 (by rw [←hN]; exact n1))
      rw [←hN]
      rcases Nat.eq_zero_or_pos k with e' | e'
      · subst e'
        rcases Classical.em ((sm N fun n=>Iz A B b J J' n 0 j*v n)=0) with e2 | e2
        · exact e2
        · exact absurd ⟨j,hj,e2⟩ e
      · exact hW k j e' hk hj
  · refine Qs8 N fun n _=>?_
    rw [Int.natAbs_mul]
    exact Nat.mul_le_mul (hbd n 0 j) (v1 n)
  · have hRp:∀ k:Nat,1≤R^k:=fun k=>(Tx hR (x:=0) (by rw [Z6]; grind) k).2
    have hHn:(0:Rat)≤(H:Rat):=Rat.natCast_nonneg
    have hNn:(0:Rat)≤(N:Rat):=Rat.natCast_nonneg
    refine ⟨(N:Rat)*((H:Rat)*R^(a+b+J)),Y4 hNn (Y4 hHn (by have:=hRp (a+b+J); grind)),fun x y hx hy=>?_⟩
    have e1:(sq J fun j=>((sm N fun n=>Iz A B b J J' n 0 j*v n:Int):Rat)*x^j)=E2 (fun k j=>sm N fun n=>Iz A B b J J' n k j*v n) (a+b) J x y:=by
      unfold E2
      obtain ⟨m,hm⟩:∃ m,a+b=m+1:=⟨a+b-1,by omega⟩
      rw [hm,Gm,V0 (n:=m)]
      · have:(sq J fun j=>((sm N fun n=>Iz A B b J J' n 0 j*v n:Int):Rat)*(y^0*x^j))=sq J fun j=>((sm N fun n=>Iz A B b J J' n 0 j*v n:Int):Rat)*x^j:=Jp J fun j _=>by rw [Rat.pow_zero]; grind
        rw [this]; grind
      · intro k hk
        refine V0 J fun j hj=>?_
        show ((sm N fun n=>Iz A B b J J' n (k+1) j*v n:Int):Rat)*_=0
        rw [hW (k+1) j (by omega) (by omega) hj,show ((0:Int):Rat)=0 from rfl]; grind
    rw [e1,Qp7]
    have key:∀ n,n<N→Ql ((v n:Rat)*E2 (Iz A B b J J' n) (a+b) J x y)≤(H:Rat)*(R^(a+b+J)*(Ql (Qg A y)+Ql (Qg B (y-x)))):=fun n hn=>by
      have hvn:Ql (v n:Rat)≤(H:Rat):=by
        have h1:=v1 n
        have h2:(v n)≤(H:Int):=by omega
        have h3:-(H:Int)≤v n:=by omega
        have h2:=Rat.intCast_le_intCast.2 h2
        have h3:=Rat.intCast_le_intCast.2 h3
        rw [Rat.intCast_neg] at h3
        rw [Yd]; exact ⟨h3,h2⟩
      refine Zg hvn ?_
      have hRk:=hRp (a+b+J)
      have n1:=Zx (Qg A y)
      have n2:=Zx (Qg B (y-x))
      rcases Nat.lt_or_ge n (b*J) with h | h
      · have e:Iz A B b J J' n=Ds (n / J) (n % J) (fA A):=by funext k j; unfold Iz; rw [if_pos h]
        have d1:n / J<b:=Nat.div_lt_of_lt_mul (by rw [Nat.mul_comm]; exact h)
        have d2:=Nat.mod_lt n hJp
        rw [e]
        refine Rat.le_trans (Qs3 (K2:=a+b-n / J) (J2:=J-n % J) hR hx hy (by omega) (by omega) (X:=Qg A y) ?_) (Vn (by grind) Rat.le_refl n1 (by grind))
        obtain ⟨m,hm⟩:∃ m,J-n % J=m+1:=⟨J-n % J-1,by omega⟩
        rw [hm]; exact Q2b A _ _ x y (by omega)
      · have e:Iz A B b J J' n=Ds ((n-b*J) / J') ((n-b*J) % J') (gc B):=by funext k j; unfold Iz; rw [if_neg (by omega)]
        have hJp':0<J':=by
          rcases Nat.eq_zero_or_pos J' with e | e
          · rw [e,Nat.mul_zero] at hN; omega
          · exact e
        have d1:(n-b*J) / J'<a:=Nat.div_lt_of_lt_mul (by rw [Nat.mul_comm J' a]; omega)
        have d2:=Nat.mod_lt (n-b*J) hJp'
        rw [e]
        refine Rat.le_trans (Qs3 (K2:=a+b-(n-b*J) / J') (J2:=J-(n-b*J) % J') hR hx hy (by omega) (by omega) (X:=Qg B (y-x)) ?_) (Vn (by grind) Rat.le_refl n2 (by grind))
        exact Qzn x y B _ _ (by omega) (by omega)
    have:=Qyn N key
    refine Rat.le_trans this ?_
    have:(N:Rat)*((H:Rat)*(R^(a+b+J)*(Ql (Qg A y)+Ql (Qg B (y-x)))))=(N:Rat)*((H:Rat)*R^(a+b+J))*(Ql (Qg A y)+Ql (Qg B (y-x))):=by grind
    rw [this]; exact Rat.le_refl
end Orq

namespace Orq
theorem Qtb {w:Nat→Int} {x:Rat} {D:Rat} (hx:Ql x*2≤1) (hw:∀ j,Ql (w j:Rat)≤D):∀ J (k:Nat),Ql (sq J fun j=>(w (k+j):Rat)*x^j)≤2*D
  | 0,k=>by have:=hw 0; have:=Zx (w 0:Rat); simp only [sq,Z6]; clear hw; grind
  |
   J+1,k=>by
   have ih:=Qtb hx hw J (k+1)
   rw [Gm]
   have e:(sq J fun i=>(w (k+(i+1)):Rat)*x^(i+1))=x*sq J fun i=>(w (k+1+i):Rat)*x^i:=by
     rw [←Tc]; exact Jp J fun i _=>by rw [Rat.pow_succ,show k+(i+1)=k+1+i by omega]; grind
   rw [e,Rat.pow_zero,Nat.add_zero]
   have h1:=hw k
   have h2:=X7 ((w k:Rat)*1) (x*sq J fun i=>(w (k+1+i):Rat)*x^i)
   have h3:=Zg (x:=x) (y:=sq J fun i=>(w (k+1+i):Rat)*x^i) Rat.le_refl ih
   have h4:=Rat.mul_le_mul_of_nonneg_right hx (show (0:Rat)≤D by have:=Zx (w k:Rat); clear hw; grind)
   have h5:(w k:Rat)*1=w k:=by grind
   rw [h5] at h2 ⊢
   clear hw; grind
theorem Pm {z:Int} (h:z≠0):1≤Ql (z:Rat):=by
  unfold Ql
  rcases Int.lt_or_lt_of_ne h with h | h
  · have:((z:Int):Rat)<((0:Int):Rat):=Rat.intCast_lt_intCast.2 h
    have h2:((1:Int):Rat)≤((-z:Int):Rat):=Rat.intCast_le_intCast.2 (by omega)
    rw [if_pos (by simpa using this)]
    rw [Rat.intCast_neg] at h2
    simpa using h2
  · have:((0:Int):Rat)<((z:Int):Rat):=Rat.intCast_lt_intCast.2 h
    have h2:((1:Int):Rat)≤((z:Int):Rat):=Rat.intCast_le_intCast.2 (by omega)
    rw [if_neg (by
     have:(0:Rat)<z:=by simpa using this
     grind)]
    simpa using h2
theorem Qhl {w:Nat→Int} {x:Rat} {D:Rat} (hD:1≤D) (hx0:0<Ql x) (hx:Ql x*(4*D)≤1) (hw:∀ j,Ql (w j:Rat)≤D):∀ J (k:Nat),(∃ j,j<J∧w (k+j)≠0)→Ql x^J / 2≤Ql (sq J fun j=>(w (k+j):Rat)*x^j)
  | 0,k,⟨j,h,_⟩=>by omega
  |
   J+1,k,⟨j,h1,h2⟩=>by
   have hx2:Ql x*2≤1:=by
     have:=Vn (a:=Ql x) (c:=2) (Rat.le_of_lt hx0) Rat.le_refl (by decide) (show (2:Rat)≤4*D by clear hw; grind)
     exact Rat.le_trans this hx
   have hx1:Ql x≤1:=by clear hw; grind
   have hp:∀ k:Nat,Ql x^k≤1∧0≤Ql x^k:=fun k=>by
     induction k with
     | zero=>rw [Rat.pow_zero]; exact ⟨by decide,by decide⟩
     |
      succ k ih =>
      rw [Rat.pow_succ]
      have:=Vn ih.2 ih.1 (Rat.le_of_lt hx0) hx1
      have:=Y4 ih.2 (Rat.le_of_lt hx0)
      constructor <;> (clear hw; grind)
   rw [Gm]
   have e:(sq J fun i=>(w (k+(i+1)):Rat)*x^(i+1))=x*sq J fun i=>(w (k+1+i):Rat)*x^i:=by
     rw [←Tc]; exact Jp J fun i _=>by rw [Rat.pow_succ,show k+(i+1)=k+1+i by omega]; grind
   rw [e,Rat.pow_zero,Nat.add_zero k,show (w k:Rat)*1=w k by grind]
   by_cases h0:w k=0
   · have hj:j≠0:=fun e=>h2 (by rw [e]; exact h0)
     have ih:=Qhl hD hx0 hx hw J (k+1) ⟨j-1,by omega,by rw [show k+1+(j-1)=k+j by omega]; exact h2⟩
     rw [h0,show ((0:Int):Rat)+x*(sq J fun i=>(w (k+1+i):Rat)*x^i)=x*sq J fun i=>(w (k+1+i):Rat)*x^i by rw [show ((0:Int):Rat)=0 from rfl]; grind,U5,Rat.pow_succ]
     have:=Rat.mul_le_mul_of_nonneg_left ih (Rat.le_of_lt hx0)
     have e2:Ql x*(Ql x^J / 2)=Ql x^J*Ql x / 2:=by rw [Rat.div_def,Rat.div_def]; grind
     rw [e2] at this; exact this
   · have a1:=Pm h0
     have a2:=Qtb hx2 hw J (k+1)
     have a3:=Zg (x:=x) (y:=sq J fun i=>(w (k+1+i):Rat)*x^i) Rat.le_refl a2
     have a4:=X7 ((w k:Rat)+x*sq J fun i=>(w (k+1+i):Rat)*x^i) (-(x*sq J fun i=>(w (k+1+i):Rat)*x^i))
     rw [Wx,show (w k:Rat)+(x*sq J fun i=>(w (k+1+i):Rat)*x^i)+-(x*sq J fun i=>(w (k+1+i):Rat)*x^i)=w k by grind] at a4
     have a5:=(hp (J+1)).1
     have a6:Ql x^(J+1) / 2*2=Ql x^(J+1):=Zh (by decide)
     have a7:Ql x*(2*D)*2=Ql x*(4*D):=by grind
     clear hw hp; grind
theorem Qzu {A B:List Int} {a b h:Nat} (hA:A.length=a+1) (hB:B.length=b+1) (lA:A.getD a 0≠0) (lB:B.getD b 0≠0) (ha:0<a) (hb:0<b) (h0:1≤h) (bA:∀ k,(A.getD k 0).natAbs≤h) (bB:gB B≤h) {N D:Nat} (hN:b*(2*(a*b))+a*(2*(a*b)-b)=N) (hD:N*(h*(2*(N*h))^(2*(a+b-1)))≤D) {R d:Rat} (hR:1≤R) (dp:0<d)
    (hs:∀ e:Rat,0<e→∃ q r,Ql q≤R∧Ql r≤R∧d≤Ql (q-r)∧Ql (q-r)*(4*(D:Rat))≤1∧Ql (Qg A q)<e∧Ql (Qg B r)<e):False:=by
  have hab:0<a*b:=Nat.mul_pos ha hb
  have hbab:b≤a*b:=by
    have:=Nat.mul_le_mul_right b (show 1≤a from ha); omega
  obtain ⟨w,⟨j,hj,hw0⟩,hw,hC⟩:=Q0q hA hB lA lB ha hb h0 bA bB (J:=2*(a*b)) (J':=2*(a*b)-b) rfl (by omega) hN.symm rfl
  obtain ⟨C,hC0,hC⟩:=hC (2*R) (by grind)
  have hw':∀ j,Ql (w j:Rat)≤(D:Rat):=fun j=>by
    have h1:=Nat.le_trans (hw j) hD
    have h2:w j≤(D:Int):=by omega
    have h3:-(D:Int)≤w j:=by omega
    have h2:=Rat.intCast_le_intCast.2 h2
    have h3:=Rat.intCast_le_intCast.2 h3
    rw [Rat.intCast_neg] at h3
    rw [Yd]; exact ⟨h3,h2⟩
  have hD1:(1:Rat)≤(D:Rat):=by
    have:=Pm hw0
    exact Rat.le_trans this (hw' j)
  have hdJ:0<d^(2*(a*b)) / 2:=Uh (Rat.pow_pos dp) (by decide)
  obtain ⟨e,ep,_,he⟩:=Zi (b:=C*2) (d:=d^(2*(a*b)) / 2) (by grind) hdJ
  obtain ⟨q,r,q1,r1,d1,d2,aq,br⟩:=hs e ep
  have h1:=hC (q-r) q (by
   have:=X7 q (-r); rw [Wx] at this; have:q-r=q+-r:=by grind
   grind) (by grind)
  rw [show q-(q-r)=r by grind] at h1
  have h2:=Qhl (x:=q-r) hD1 (by grind) d2 hw' (2*(a*b)) 0 ⟨j,hj,by rw [Nat.zero_add]; exact hw0⟩
  simp only [Nat.zero_add] at h2
  have h3:C*(Ql (Qg A q)+Ql (Qg B r))≤C*(e+e):=Rat.mul_le_mul_of_nonneg_left (by grind) hC0
  have h4:d^(2*(a*b))≤Ql (q-r)^(2*(a*b)):=by
    generalize 2*(a*b)=J
    induction J with
    | zero=>rw [Rat.pow_zero,Rat.pow_zero]; exact Rat.le_refl
    |
     succ J ih =>
     rw [Rat.pow_succ,Rat.pow_succ]
     exact Vn (Rat.le_of_lt (Rat.pow_pos dp)) ih (Rat.le_of_lt dp) d1
  have h5:d^(2*(a*b)) / 2*2=d^(2*(a*b)):=Zh (by decide)
  have h6:Ql (q-r)^(2*(a*b)) / 2*2=Ql (q-r)^(2*(a*b)):=Zh (by decide)
  clear hC hs hw hw'
  grind
end Orq

namespace Orq
def HD (p:List Rat) (n:Nat):Prop:=p.getD n 0≠0∧∀ k,n<k→p.getD k 0=0
theorem Z9:∀ (p q:List Rat) (k:Nat),(X8 p q).getD k 0=p.getD k 0+q.getD k 0
  | [],q,k=>by simp only [X8,List.getD_nil]; grind
  | a::p,[],k=>by simp only [X8,List.getD_nil]; grind
  | a::p,b::q,0=>by simp only [X8,List.getD_cons_zero]
  | a::p,b::q,k+1=>by simp only [X8,List.getD_cons_succ]; exact Z9 p q k
theorem X5 (c:Rat):∀ (p:List Rat) (k:Nat),(Kr c p).getD k 0=c*p.getD k 0
  | [],k=>by simp only [Kr,List.map_nil,List.getD_nil]; grind
  | a::p,0=>by simp [Kr]
  | a::p,k+1=>by have:=X5 c p k; simp only [Kr,List.map_cons,List.getD_cons_succ] at *; exact this
theorem Qqv {p:List Rat} {k:Nat} (h:∀ x∈p,x=0):p.getD k 0=0:=by
  rw [List.getD_eq_getElem?_getD]
  cases e:p[k]? with
  | none=>rfl
  | some x=>exact h x (List.mem_of_getElem? e)
theorem Km {p q:List Rat} (h:∀ t,ev p t=ev q t) (k:Nat):p.getD k 0=q.getD k 0:=by
  have h1:=Qqv (k:=k) (Pz (p:=X8 p (Kr (-1) q)) fun t _ _=>by rw [Q9,Q5,h t]; grind)
  rw [Z9,X5] at h1; grind
theorem Kw:∀ {p:List Rat},(∀ k,p.getD k 0=0)→∀ t,ev p t=0
  | [],_,t=>rfl
  |
   a::p,h,t=>by
   have h0:=h 0
   have h1:=Kw (p:=p) (fun k=>by have:=h (k+1); rwa [List.getD_cons_succ] at this) t
   rw [List.getD_cons_zero] at h0
   simp only [ev,h0,h1]; grind
theorem Ae:∀ (p:List Rat),(∀ t,ev p t=0)∨∃ n,n<p.length∧HD p n
  | []=>.inl fun _=>rfl
  |
   a::p=>by
   rcases Ae p with h | ⟨n,hn,h1,h2⟩
   · rcases Classical.em (a=0) with e | e
     · exact .inl fun t=>by simp only [ev,e,h t]; grind
     · refine .inr ⟨0,by simp,by simpa using e,fun k hk=>?_⟩
       obtain ⟨m,rfl⟩:∃ m,k=m+1:=⟨k-1,by omega⟩
       rw [List.getD_cons_succ]
       exact (Km (p:=p) (q:=[]) h m).trans (by simp)
   · refine .inr ⟨n+1,by simp; omega,by rw [List.getD_cons_succ]; exact h1,fun k hk=>?_⟩
     obtain ⟨m,rfl⟩:∃ m,k=m+1:=⟨k-1,by omega⟩
     rw [List.getD_cons_succ]; exact h2 m (by omega)
theorem Qya {p q:List Rat} {n:Nat} (h:∀ t,ev p t=ev q t) (hp:HD p n):HD q n :=
  ⟨by rw [←Km h]; exact hp.1,fun k hk=>by rw [←Km h]; exact hp.2 k hk⟩
theorem Qyb {p:List Rat} {n m:Nat} (h:HD p n) (h':HD p m):n=m:=by
  rcases Nat.lt_trichotomy n m with e | e | e
  · exact absurd (h.2 m e) h'.1
  · exact e
  · exact absurd (h'.2 n e) h.1
theorem Qkj {p:List Rat} {n:Nat} (h:HD p n):¬∀ t,ev p t=0:=fun h0=>h.1 ((Km (p:=p) (q:=[]) h0 n).trans (by simp))
theorem C7 {p q:List Rat} (h:∀ k,p.getD k 0=0) (k:Nat):(Za p q).getD k 0=0:=by
  have:=Km (p:=Za p q) (q:=[]) (fun t=>by rw [Qi,Kw h t]; simp only [ev]; grind) k
  rw [this]; simp
theorem Af:∀ {p q:List Rat} {m n:Nat},HD p m→HD q n→HD (Za p q) (m+n)
  | [],q,m,n,h,_=>absurd (by simp) h.1
  |
   a::p,q,0,n,h,h'=>by
   have h1:∀ k,p.getD k 0=0:=fun k=>by have:=h.2 (k+1) (by omega); rwa [List.getD_cons_succ] at this
   have h2:∀ k,(Za (a::p) q).getD k 0=a*q.getD k 0:=fun k=>by
     simp only [Za]
     rw [Z9,X5]
     cases k with
     | zero=>rw [List.getD_cons_zero]; grind
     | succ k=>rw [List.getD_cons_succ,C7 h1]; grind
   have h3:=h.1
   rw [List.getD_cons_zero] at h3
   refine ⟨?_,fun k hk=>?_⟩
   · rw [h2,Nat.zero_add]; exact fun h=>(Rat.mul_eq_zero.1 h).elim h3 h'.1
   · rw [h2,h'.2 k (by omega)]; grind
  |
   a::p,q,m+1,n,h,h'=>by
   have ih:=Af (p:=p) (q:=q) (m:=m) ⟨by have:=h.1; rwa [List.getD_cons_succ] at this,fun k hk=>by have:=h.2 (k+1) (by omega); rwa [List.getD_cons_succ] at this⟩ h'
   refine ⟨?_,fun k hk=>?_⟩
   · simp only [Za]
     rw [Z9,X5,show m+1+n=(m+n)+1 by omega,List.getD_cons_succ,h'.2 _ (by omega)]
     have:=ih.1; grind
   · obtain ⟨j,rfl⟩:∃ j,k=j+1:=⟨k-1,by omega⟩
     simp only [Za]
     rw [Z9,X5,List.getD_cons_succ,h'.2 _ (by omega),ih.2 j (by omega)]; grind
def Ht (g f:List Rat):Prop:=∃ u,∀ t,ev f t=ev g t*ev u t
theorem dvd_refl (f:List Rat):Ht f f:=⟨[1],fun t=>by rw [Xj]; grind⟩
theorem dvd_trans {f g h:List Rat}:Ht f g→Ht g h→Ht f h
  | ⟨u,hu⟩,⟨v,hv⟩=>⟨Za u v,fun t=>by rw [hv,hu,Qi]; grind⟩
theorem Qeq {p q:List Rat} (h:∀ t,ev p t*ev q t=0) (hp:¬∀ t,ev p t=0):∀ t,ev q t=0:=by
  rcases Ae p with h1 | ⟨m,_,h1⟩
  · exact absurd h1 hp
  · rcases Ae q with h2 | ⟨n,_,h2⟩
    · exact h2
    · exact absurd (fun t=>by rw [Qi]; exact h t) (Qkj (Af h1 h2))
theorem Qgx {p q r:List Rat} (hp:¬∀ t,ev p t=0) (h:∀ t,ev p t*ev q t=ev p t*ev r t) (t:Rat):ev q t=ev r t:=by
  have:=Qeq (p:=p) (q:=X8 q (Kr (-1) r)) (fun t=>by rw [Q9,Q5]; have:=h t; grind) hp t
  rw [Q9,Q5] at this; grind
theorem Qpz {b:List Rat} {n:Nat} (hb:HD b n):∀ (l:Nat) (a:List Rat),(∀ k,l≤k→a.getD k 0=0)→∃ q r,(∀ t,ev a t=ev q t*ev b t+ev r t)∧∀ k,n≤k→r.getD k 0=0
  | 0,a,ha=>⟨[],a,fun t=>by simp only [ev]; grind,fun k _=>ha k (Nat.zero_le _)⟩
  |
   l+1,a,ha=>by
   rcases Nat.lt_or_ge l n with h | h
   · exact ⟨[],a,fun t=>by simp only [ev]; grind,fun k hk=>ha k (by omega)⟩
   · -- the leading term is taken away
     obtain ⟨c,hc⟩:∃ c,c=a.getD l 0 / b.getD n 0:=⟨_,rfl⟩
     have hcb:c*b.getD n 0=a.getD l 0:=by rw [hc]; exact Rat.div_mul_cancel hb.1
     obtain ⟨m,hm⟩:∃ m:List Rat,m=List.replicate (l-n) 0++[c]:=⟨_,rfl⟩
     have hsh:∀ (i:Nat) (k:Nat),(Za (List.replicate i 0++[c]) b).getD k 0=if i≤k then c*b.getD (k-i) 0 else 0:=fun i=>by
       induction i with
       | zero=>intro k; simp only [List.replicate_zero,List.nil_append,Za]; rw [Z9,X5]; cases k <;> simp <;> grind
       |
        succ i ih =>
        intro k
        simp only [List.replicate_succ,List.cons_append,Za]
        rw [Z9,X5]
        cases k with
        | zero=>rw [List.getD_cons_zero,if_neg (by omega)]; grind
        |
         succ k =>
         rw [List.getD_cons_succ,ih k]
         by_cases h:i≤k
         · rw [if_pos h,if_pos (by omega),Nat.add_sub_add_right]; grind
         · rw [if_neg h,if_neg (by omega)]; grind
     obtain ⟨q,r,h1,h2⟩:=Qpz hb l (X8 a (Kr (-1) (Za m b))) fun k hk=>by
       rw [Z9,X5,hm,hsh,if_pos (by omega)]
       rcases Nat.lt_or_eq_of_le hk with e | e
       · rw [ha k (by omega),hb.2 _ (by omega)]; grind
       · subst e; rw [show l-(l-n)=n by omega,hcb]; grind
     refine ⟨X8 q m,r,fun t=>?_,h2⟩
     have:=h1 t
     rw [Q9,Q5,Qi] at this
     rw [Q9]; grind
theorem Qha:∀ (n:Nat) (a b:List Rat),(∀ k,n≤k→b.getD k 0=0)→∃ g U V,Ht g a∧Ht g b∧∀ t,ev g t=ev U t*ev a t+ev V t*ev b t
  |
   0,a,b,h=>by
   have h0:=Kw fun k=>h k (Nat.zero_le _)
   exact ⟨a,[1],[],dvd_refl a,⟨[],fun t=>by rw [h0]; simp only [ev]; grind⟩,fun t=>by rw [Xj]; simp only [ev]; grind⟩
  |
   n+1,a,b,h=>by
   rcases Classical.em (b.getD n 0=0) with e | e
   · exact Qha n a b fun k hk=>by
       rcases Nat.lt_or_eq_of_le hk with e' | e'
       · exact h k (by omega)
       · rw [←e']; exact e
   · obtain ⟨q,r,h1,h2⟩:=Qpz (b:=b) (n:=n) ⟨e,fun k hk=>h k (by omega)⟩ a.length a fun k hk=>by rw [List.getD_eq_getElem?_getD,List.getElem?_eq_none hk]; rfl
     obtain ⟨g,U,V,⟨u,hu⟩,⟨v,hv⟩,hg⟩:=Qha n b r h2
     refine ⟨g,V,X8 U (Kr (-1) (Za V q)),⟨X8 (Za q u) v,fun t=>?_⟩,⟨u,hu⟩,fun t=>?_⟩
     · rw [h1,hv,Q9,Qi,hu]; grind
     · rw [hg,Q9,Q5,Qi,h1]; grind
theorem Qqp (a b:List Rat):∃ g U V,Ht g a∧Ht g b∧∀ t,ev g t=ev U t*ev a t+ev V t*ev b t :=
  Qha b.length a b fun k hk=>by rw [List.getD_eq_getElem?_getD,List.getElem?_eq_none hk]; rfl
def Cop (a b:List Rat):Prop:=∃ U V,∀ t,ev U t*ev a t+ev V t*ev b t=1
theorem Qba {c d e:List Rat} (h:Cop c d) (h1:∃ u,∀ t,ev d t*ev e t=ev c t*ev u t):Ht c e:=by
  obtain ⟨U,V,h⟩:=h
  obtain ⟨u,hu⟩:=h1
  refine ⟨X8 (Za U e) (Za V u),fun t=>?_⟩
  rw [Q9,Qi,Qi]
  have a1:=h t
  have a2:=hu t
  have:ev e t=(ev U t*ev c t+ev V t*ev d t)*ev e t:=by rw [a1]; grind
  rw [this]
  have:(ev U t*ev c t+ev V t*ev d t)*ev e t=ev U t*ev c t*ev e t+ev V t*(ev d t*ev e t):=by grind
  rw [this,a2]; grind
def Ia (d:List Rat):Nat→List Rat
  | 0=>[1]
  | k+1=>Za d (Ia d k)
theorem Qh5 (d:List Rat) (t:Rat):∀ k:Nat,ev d t*dv (Ia d k) t=(k:Rat)*(dv d t*ev (Ia d k) t)
  | 0=>by simp only [Ia,dv,ev]; rw [show ((0:Nat):Rat)=0 from rfl]; grind
  |
   k+1=>by
   have ih:=Qh5 d t k
   have hn':(((k+1:Nat):Rat))=(k:Rat)+1:=by push_cast; rfl
   simp only [Ia]
   rw [Qbh,Qi,hn']; grind
theorem Qsm {d:List Rat} {m:Nat} (h:HD d m):∀ k,HD (Ia d k) (k*m)
  | 0=>by rw [Nat.zero_mul]; exact ⟨by simp [Ia],fun k hk=>by simp only [Ia]; rw [List.getD_eq_getElem?_getD,List.getElem?_eq_none (by simp; omega)]; rfl⟩
  | k+1=>by rw [Nat.succ_mul,Nat.add_comm (k*m) m]; exact Af h (Qsm h k)
theorem O6 {d g:List Rat} {m n:Nat} (hd:HD d m) (hg:HD g n) (h:∀ k,Ht (Ia d k) g):m=0:=by
  obtain ⟨u,hu⟩:=h (n+1)
  rcases Ae u with h1 | ⟨j,_,h1⟩
  · exact absurd (fun t=>by rw [hu,h1]; grind) (Qkj hg)
  · have:=Qyb (Qya (fun t=>by rw [hu,Qi]) hg) (Af (Qsm hd (n+1)) h1)
    rcases Nat.eq_zero_or_pos m with e | e
    · exact e
    · have:(n+1)*1≤(n+1)*m:=Nat.mul_le_mul_left _ e
      omega
theorem sqf {a g q d U V:List Rat} {k:Rat} (hk:k≠0) (ha:∀ t,ev a t=ev g t*ev q t) (hg:∀ t,k*ev g t=ev U t*ev a t+ev V t*dv a t) (h1:Ht d q) (h2:Ht d (Y5 q)):∀ n,Ht (Ia d n) g
  | 0=>⟨g,fun t=>by simp only [Ia]; rw [Xj]; grind⟩
  |
   n+1=>by
   obtain ⟨g1,e1⟩:=sqf hk ha hg h1 h2 n
   obtain ⟨q1,e2⟩:=h1
   obtain ⟨q2,e3⟩:=h2
   have d1:=fun t=>G5 ha t
   have d2:=fun t=>G5 e1 t
   have d3:=fun t=>G5 e2 t
   have d4:=Qh5 d
   refine ⟨Kr (1 / k) (X8 (Za U (Za g1 q1)) (Za V (X8 (Za g1 q2) (X8 (Kr n (Za g1 (X8 q2 (Kr (-1) (Y5 q1))))) (Za (Y5 g1) q1))))),fun t=>?_⟩
   have hkk:1 / k*k=1:=Rat.div_mul_cancel hk
   simp only [Ia,Q5,Q9,Qi,Xs]
   have b1:=ha t; have b2:=hg t; have b3:=e1 t; have b4:=e2 t; have b5:=e3 t
   have b6:=d1 t; have b7:=d2 t; have b8:=d3 t; have b9:=d4 t n
   rw [Xs] at b5
   generalize ev d t=x0 at *
   generalize ev (Ia d n) t=x1 at *
   generalize ev g t=x2 at *
   generalize ev q t=x3 at *
   generalize ev a t=x4 at *
   generalize dv a t=x5 at *
   generalize dv g t=x6 at *
   generalize dv q t=x7 at *
   generalize ev g1 t=x8 at *
   generalize dv g1 t=x9 at *
   generalize ev q1 t=y0 at *
   generalize dv q1 t=y1 at *
   generalize ev q2 t=y2 at *
   generalize dv d t=y3 at *
   generalize dv (Ia d n) t=y4 at *
   generalize ev U t=y5 at *
   generalize ev V t=y6 at *
   generalize (n:Rat)=y7 at *
   have:x2=1 / k*(k*x2):=by grind
   rw [this,b2]
   have c1:x5=x0*x1*(x8*y2+(y7*(x8*(y2+-1*y1))+x9*y0)):=by
     rw [b6,b7,b4,b3]
     have:y3*y0=x0*y2-x0*y1:=by grind
     have:x0*y4*(x8*y0)=y7*(x1*x8*(x0*y2-x0*y1)):=by rw [b9,←this]; grind
     grind
   have c2:x4=x0*x1*(x8*y0):=by rw [b1,b3,b4]; grind
   rw [c1,c2]; grind
end Orq

namespace Orq
theorem Qu7 {a b c:List Rat} (h1:Cop a b) (h2:Cop a c) {d:List Rat} (hd:∀ t,ev d t=ev b t*ev c t):Cop a d:=by
  obtain ⟨U,V,h1⟩:=h1
  obtain ⟨X,Y,h2⟩:=h2
  refine ⟨X8 U (Za (Za V b) X),Za V Y,fun t=>?_⟩
  have a1:=h1 t
  have a2:=h2 t
  simp only [Q9,Qi,hd]
  have:ev V t*ev b t*(ev X t*ev a t+ev Y t*ev c t)=ev V t*ev b t:=by rw [a2]; grind
  grind
theorem Qwy {a g q z r X Y:List Rat} {n:Nat} (ha:∀ t,ev a t=ev g t*ev q t) (hz:∀ t,dv a t=ev g t*ev z t) (hg:HD g n) (hr:∀ t,ev X t*ev r t+ev Y t*dv r t=1) (h:Ht r a):Ht r q:=by
  obtain ⟨b,hb⟩:=h
  obtain ⟨e,U,V,⟨r1,e1⟩,⟨q3,e2⟩,e3⟩:=Qqp r q
  have hr0:¬∀ t,ev r t=0:=fun h=>by
    have h1:=hr 0
    have h2:dv r 0=0:=by have:=Qp4 (p:=r) (q:=[]) h 0; rw [this]; rfl
    rw [h,h2] at h1; grind
  have he0:¬∀ t,ev e t=0:=fun h=>hr0 fun t=>by rw [e1,h]; grind
  have d1:=fun t=>G5 e1 t
  -- r1 has nothing in common with q3,with e,with its derivative
  have c1:Cop r1 q3:=⟨U,V,fun t=>by
    have:=Qgx (p:=e) (q:=X8 (Za U r1) (Za V q3)) (r:=[1]) he0 (fun t=>by
      rw [Q9,Qi,Qi,Xj]
      have a1:=e1 t; have a2:=e2 t; have a3:=e3 t
      rw [a1,a2] at a3; grind) t
    rw [Q9,Qi,Qi,Xj] at this; exact this⟩
  have c2:Cop r1 e:=⟨X8 (Za X e) (Za Y (Y5 e)),Za Y (Y5 r1),fun t=>by
    have a1:=hr t; have a2:=e1 t; have a3:=d1 t
    simp only [Q9,Qi,Xs]
    rw [a2,a3] at a1; grind⟩
  have c3:Cop r1 (Y5 r1):=⟨X8 (Za X e) (Za Y (Y5 e)),Za Y e,fun t=>by
    have a1:=hr t; have a2:=e1 t; have a3:=d1 t
    simp only [Q9,Qi,Xs]
    rw [a2,a3] at a1; grind⟩
  have c4:Cop r1 q:=Qu7 c2 c1 e2
  have hgz:=Qkj hg
  -- so all its powers divide g
  have hp:∀ k,Ht (Ia r1 k) g:=fun k=>by
    induction k with
    | zero=>exact ⟨g,fun t=>by simp only [Ia]; rw [Xj]; grind⟩
    |
     succ k ih =>
     obtain ⟨h,eh⟩:=ih
     have hpz:¬∀ t,ev (Ia r1 k) t=0:=fun h0=>hgz fun t=>by rw [eh,h0]; grind
     have key:Ht r1 h:=by
       cases k with
       |
        zero =>
        refine Qba c4 ⟨Za e b,fun t=>?_⟩
        have a1:=ha t; have a2:=hb t; have a3:=e1 t; have a4:=eh t
        simp only [Ia] at a4
        rw [Xj] at a4
        rw [Qi]; grind
       |
        succ k =>
        have hn:((k+1:Nat):Rat)≠0:=by
          have:(0:Rat)<((k+1:Nat):Rat):=by
            have h1:((0:Nat):Rat)<((k+1:Nat):Rat):=Rat.natCast_lt_natCast.2 (by omega)
            simpa using h1
          grind
        -- k r1' h q=r1 (..)
        have d2:=fun t=>G5 (f:=a) (w:=Ia r1 (k+1)) (u:=Za h q) (fun t=>by rw [ha,eh,Qi]; grind) t
        have d4:=Qh5 r1
        have h3:=Qgx (p:=Ia r1 (k+1)) (q:=Za (Y5 r1) (Za h q)) (r:=Za r1 (Kr (1 / ((k+1:Nat):Rat)) (X8 (Za h z) (Kr (-1) (Y5 (Za h q)))))) hpz fun t=>by
          simp only [Qi,Q5,Q9,Xs]
          have a1:=d2 t; have a2:=d4 t (k+1); have a3:=hz t; have a4:=eh t
          rw [Qi] at a1
          generalize ((k+1:Nat):Rat)=c at *
          have hc:1 / c*c=1:=Rat.div_mul_cancel hn
          generalize ev (Ia r1 (k+1)) t=x0 at *
          generalize dv (Ia r1 (k+1)) t=x1 at *
          generalize dv (Za h q) t=x2 at *
          generalize ev r1 t=x3 at *
          generalize dv r1 t=x4 at *
          generalize ev h t=x5 at *
          generalize ev q t=x6 at *
          generalize ev z t=x7 at *
          generalize dv a t=x8 at *
          generalize ev g t=x9 at *
          generalize 1 / c=c' at *
          have s1:x0*(x4*(x5*x6))=c'*(c*(x4*x0))*(x5*x6):=by
            have:c'*(c*(x4*x0))=(c'*c)*(x4*x0):=by grind
            rw [this,hc]; grind
          rw [s1,←a2]
          have s2:x3*(x1*(x5*x6))=x3*(x0*(x5*x7+-1*x2)):=by
            rw [a3,a4] at a1; grind
          grind
        refine Qba c4 ?_
        obtain ⟨u,hu⟩:=Qba (e:=Za q h) c3 ⟨Kr (1 / ((k+1:Nat):Rat)) (X8 (Za h z) (Kr (-1) (Y5 (Za h q)))),fun t=>by
          have:=h3 t
          simp only [Qi] at this ⊢
          rw [←this]; grind⟩
        exact ⟨u,fun t=>by rw [←hu,Qi]⟩
     obtain ⟨u,hu⟩:=key
     exact ⟨u,fun t=>by simp only [Ia]; rw [Qi,eh,hu]; grind⟩
  rcases Ae r1 with h1 | ⟨m,_,h1⟩
  · exact absurd (fun t=>by rw [e1,h1]; grind) hr0
  · obtain rfl:=O6 h1 hg hp
    -- r1 is a number
    have h2:∀ t,ev r1 t=r1.getD 0 0:=fun t=>by
      cases r1 with
      | nil=>simp [ev]
      |
       cons c l =>
       have:∀ t,ev l t=0:=Kw fun k=>by have:=h1.2 (k+1) (by omega); rwa [List.getD_cons_succ] at this
       simp only [ev,this,List.getD_cons_zero]; grind
    have h3:=h1.1
    refine ⟨Kr (1 / r1.getD 0 0) q3,fun t=>?_⟩
    rw [e2,e1,h2,Q5]
    have:1 / r1.getD 0 0*r1.getD 0 0=1:=Rat.div_mul_cancel h3
    have:ev e t*r1.getD 0 0*(1 / r1.getD 0 0*ev q3 t)=ev e t*ev q3 t*(1 / r1.getD 0 0*r1.getD 0 0):=by grind
    rw [this,Rat.div_mul_cancel h3]; grind
def Gd:List (List Rat)→List Rat
  | []=>[1]
  | w::l=>Za w (Gd l)
def Lay:List (List Rat)→List (List Rat)→Prop
  | [],[]=>True
  | [w],[f]=>∀ t,ev w t=ev f t
  | w::v::l,f::fs=>(∀ t,ev w t=ev f t*ev v t)∧Lay (v::l) fs
  | _,_=>False
def Do:List (List Rat)→List Rat
  | []=>[1]
  | [f]=>f
  | f::_::l=>Za f (Do l)
theorem Qkr:∀ {ws fs:List (List Rat)},Lay ws fs→∃ S,∀ t,ev (Gd ws) t=ev (Do fs) t*(ev S t*ev S t)
  | [],[],_=>⟨[1],fun t=>by simp only [Gd,Do]; rw [Xj]; grind⟩
  | [w],[f],h=>⟨[1],fun t=>by simp only [Gd,Do]; rw [Qi,Xj,h t]; grind⟩
  |
   [w,v],[f,f2],h=>⟨v,fun t=>by
   have h1:=h.1 t
   have h2:ev v t=ev f2 t:=h.2 t
   simp only [Gd,Do,Qi]; rw [Xj,h1]; grind⟩
  |
   w::v::x::l,f::f2::fs,h=>by
   obtain ⟨S,hS⟩:=Qkr h.2.2
   refine ⟨Za v S,fun t=>?_⟩
   have h1:=h.1 t
   have h2:=hS t
   have e1:ev (Gd (w::v::x::l)) t=ev w t*(ev v t*ev (Gd (x::l)) t):=by simp only [Gd,Qi]
   rw [e1,h2,h1]
   have e2:ev (Do (f::f2::fs)) t=ev f t*ev (Do fs) t:=by
     cases fs with
     | nil=>cases l <;> exact False.elim h.2.2
     | cons y l=>simp only [Do,Qi]
   rw [e2,Qi]; grind
  | [w],[],h=>h.elim
  | [w],_::_::_,h=>h.elim
  | [],_::_,h=>h.elim
  | [w,v],[f],h=>h.2.elim
  | [w,v],_::_::_::_,h=>h.2.elim
  | w::v::x::l,[f],h=>h.2.elim
  | w::v::l,[],h=>h.elim
end Orq

namespace Orq
open Orr Go
theorem Qht (p:List Int) (t:Rat):Qg p t=((p.getD 0 0:Int):Rat)+t*Qg p.tail t:=by
  cases p with
  | nil=>show (0:Rat)=((0:Int):Rat)+t*0; grind
  | cons a p=>rfl
theorem Bn (p:List Int) (k:Nat):p.tail.getD k 0=p.getD (k+1) 0:=by
  cases p <;> simp
theorem Vp (c d:Int) (t:Rat):∀ (n:Nat) (p q r:List Int),p.length≤n→q.length≤n→r.length≤n→(∀ k,r.getD k 0=c*p.getD k 0+d*q.getD k 0)→Qg r t=(c:Rat)*Qg p t+(d:Rat)*Qg q t
  |
   0,p,q,r,hp,hq,hr,_=>by
   rw [List.eq_nil_of_length_eq_zero (Nat.le_zero.1 hp),List.eq_nil_of_length_eq_zero (Nat.le_zero.1 hq),List.eq_nil_of_length_eq_zero (Nat.le_zero.1 hr)]
   show (0:Rat)=_*0+_*0
   grind
  |
   n+1,p,q,r,hp,hq,hr,h=>by
   have ih:=Vp c d t n p.tail q.tail r.tail (by rw [List.length_tail]; omega) (by rw [List.length_tail]; omega) (by rw [List.length_tail]; omega) fun k=>by
     rw [Bn,Bn,Bn]; exact h (k+1)
   rw [Qht p,Qht q,Qht r,ih,h 0]
   push_cast
   grind
theorem Qlg {p q:List Int} (h:∀ k,p.getD k 0=q.getD k 0) (t:Rat):Qg p t=Qg q t:=by
  have:=Vp 1 0 t (max p.length q.length) q q p (Nat.le_max_right ..) (Nat.le_max_right ..) (Nat.le_max_left ..) fun k=>by rw [h k]; omega
  rw [this]
  push_cast
  grind
theorem K0 (p:List Int) (t:Rat):Qg (Qp p) t=Qg p t:=Qlg (Se p) t
theorem Yz {p:List Int} {k:Nat} (h:p.length≤k):p.getD k 0=0:=by
  rw [List.getD_eq_getElem?_getD,List.getElem?_eq_none h]; rfl
theorem O2 (p q:List Int) (k:Nat):(Mx p q).getD k 0=p.getD k 0+q.getD k 0:=by
  unfold Mx
  rw [Kg]
  split
  · rfl
  · rename_i h; rw [Yz (p:=p) (by omega),Yz (p:=q) (by omega)]; rfl
theorem Gj (p q:List Int) (k:Nat):(We p q).getD k 0=p.getD k 0-q.getD k 0:=by
  unfold We
  rw [Kg]
  split
  · rfl
  · rename_i h; rw [Yz (p:=p) (by omega),Yz (p:=q) (by omega)]; rfl
theorem Yb (p:List Int) (c:Int) (k:Nat):(Zo p c).getD k 0=p.getD k 0*c:=by
  unfold Zo
  rw [Kg]
  split
  · rfl
  · rename_i h; rw [Yz (p:=p) (by omega),Int.zero_mul]
theorem Qne (p:List Int) (k:Nat):(Uv p).getD k 0=-(p.getD k 0):=by
  unfold Uv
  rw [Kg]
  split
  · rfl
  · rename_i h; rw [Yz (p:=p) (by omega)]; rfl
theorem Vb (p:List Int) (k:Nat):(Zv p).getD k 0=p.getD (k+1) 0*((k+1:Nat):Int):=by
  unfold Zv
  rw [Kg]
  split
  · rfl
  · rename_i h; rw [Yz (p:=p) (by omega),Int.zero_mul]
theorem Qe9 (p q:List Int) (t:Rat):Qg (Mx p q) t=Qg p t+Qg q t:=by
  have:=Vp 1 1 t (max (max p.length q.length) (Mx p q).length) p q (Mx p q) (by omega) (by omega) (by omega) fun k=>by rw [O2]; omega
  rw [this]; push_cast; grind
theorem Vq (p q:List Int) (t:Rat):Qg (We p q) t=Qg p t-Qg q t:=by
  have:=Vp 1 (-1) t (max (max p.length q.length) (We p q).length) p q (We p q) (by omega) (by omega) (by omega) fun k=>by rw [Gj]; omega
  rw [this]; push_cast; grind
theorem My (p:List Int) (t:Rat):Qg (Uv p) t=-Qg p t:=by
  have:=Vp (-1) 0 t (max p.length (Uv p).length) p p (Uv p) (by omega) (by omega) (by omega) fun k=>by rw [Qne]; omega
  rw [this]; push_cast; grind
theorem Xl (p:List Int) (c:Int) (t:Rat):Qg (Zo p c) t=Qg p t*(c:Rat):=by
  have:=Vp c 0 t (max p.length (Zo p c).length) p p (Zo p c) (by omega) (by omega) (by omega) fun k=>by rw [Yb,Int.mul_comm]; omega
  rw [this]; push_cast; grind
theorem Qb4:∀ (l:List Int) (j:Nat) (v:Int) (t:Rat),j<l.length→Qg (l.set j v) t=Qg l t+((v:Rat)-((l.getD j 0:Int):Rat))*t^j
  | [],_,_,_,h=>by simp at h
  |
   a::l,0,v,t,_=>by
   show (v:Rat)+t*Qg l t=(a:Rat)+t*Qg l t+((v:Rat)-(a:Rat))*t^0
   rw [Rat.pow_zero]; grind
  |
   a::l,j+1,v,t,h=>by
   have ih:=Qb4 l j v t (by simpa using h)
   show (a:Rat)+t*Qg (l.set j v) t=(a:Rat)+t*Qg l t+((v:Rat)-((l.getD j 0:Int):Rat))*t^(j+1)
   rw [ih,Rat.pow_succ]; grind
theorem A1:∀ (l:List Int) (k:Nat) (t:Rat),k<l.length→Qg (l.take (k+1)) t=Qg (l.take k) t+((l.getD k 0:Int):Rat)*t^k
  | [],_,_,h=>by simp at h
  |
   a::l,0,t,_=>by
   show (a:Rat)+t*Qg (l.take 0) t=0+(a:Rat)*t^0
   rw [Rat.pow_zero,List.take_zero]
   show (a:Rat)+t*0=_
   grind
  |
   a::l,k+1,t,h=>by
   have ih:=A1 l k t (by simpa using h)
   show (a:Rat)+t*Qg (l.take (k+1)) t=(a:Rat)+t*Qg (l.take k) t+((l.getD k 0:Int):Rat)*t^(k+1)
   rw [ih,Rat.pow_succ]; grind
theorem O4 (n:Nat) (t:Rat):Qg (List.replicate n 0) t=0:=by
  induction n with
  | zero=>rfl
  |
   succ n ih =>
   show ((0:Int):Rat)+t*Qg (List.replicate n 0) t=0
   rw [ih]; push_cast; grind
theorem Qfp (t:Rat) (i:Nat):∀ k,t^(i+k)=t^i*t^k
  | 0=>by rw [Nat.add_zero,Rat.pow_zero]; grind
  | k+1=>by rw [←Nat.add_assoc,Rat.pow_succ,Rat.pow_succ,Qfp t i k]; grind
theorem Qe8 (x:Int) (b:List Int) (i:Nat) (o:List Int) (t:Rat):∀ k,k≤b.length→i+k≤o.length→Qg (Pi x b i o k) t=Qg o t+(x:Rat)*t^i*Qg (b.take k) t
  |
   0,_,_=>by
   show Qg o t=Qg o t+(x:Rat)*t^i*0
   grind
  |
   k+1,h1,h2=>by
   have ih:=Qe8 x b i o t k (by omega) (by omega)
   simp only [Pi]
   rw [Qb4 _ _ _ _ (by rw [Rs]; omega),ih,A1 b k t (by omega)]
   have hp:t^(i+k)=t^i*t^k:=Qfp t i k
   rw [hp]
   push_cast
   grind
theorem Qe7 (a b o:List Int) (t:Rat):∀ i,i≤a.length→i+b.length≤o.length+1→Qg (Ph a b o i) t=Qg o t+Qg (a.take i) t*Qg b t
  |
   0,_,_=>by
   show Qg o t=Qg o t+0*Qg b t
   grind
  |
   i+1,h1,h2=>by
   have ih:=Qe7 a b o t i (by omega) (by omega)
   simp only [Ph]
   rw [Qe8 _ _ _ _ _ b.length (Nat.le_refl _) (by rw [Ga]; omega),ih,A1 a i t (by omega),List.take_length]
   grind
theorem Qy (a b:List Int) (t:Rat):Qg (Zn a b) t=Qg a t*Qg b t:=by
  unfold Zn
  split
  · rename_i h
    rcases h with h | h
    · rw [List.eq_nil_of_length_eq_zero h]; show (0:Rat)=0*_; grind
    · rw [List.eq_nil_of_length_eq_zero h]; show (0:Rat)=_*0; grind
  · rename_i h
    rw [K0,Qe7 a b _ t a.length (Nat.le_refl _) (by rw [List.length_replicate]; omega),O4,List.take_length]
    grind
theorem Z3 (z d:Int):(z:Rat) / (d:Rat)=Rat.divInt z d:=by
  by_cases h:d=0
  · subst h; simp; grind
  · rw [Rat.div_def]; exact (Rat.divInt_eq_div z d ▸ by rw [Rat.div_def])
theorem Qma (a:List Int) (n d:Int) (hd:(d:Rat)≠0):∀ k,k≤a.length→(((Wh a n d k).2:Int):Rat)=(d:Rat)^k∧(((Wh a n d k).1:Int):Rat)*d=(d:Rat)^k*Qg (a.drop (a.length-k)) ((n:Rat) / d)
  |
   0,_=>by
   refine ⟨by rw [Rat.pow_zero]; rfl,?_⟩
   rw [Nat.sub_zero,List.drop_length]
   show ((0:Int):Rat)*d=(d:Rat)^0*0
   push_cast; grind
  |
   k+1,hk=>by
   obtain ⟨h1,h2⟩:=Qma a n d hd k (by omega)
   have hi:a.length-1-k<a.length:=by omega
   have e1:a.drop (a.length-(k+1))=a.getD (a.length-1-k) 0::a.drop (a.length-k):=by
     rw [show a.length-(k+1)=a.length-1-k by omega,List.drop_eq_getElem_cons hi,show a.length-1-k+1=a.length-k by omega]
     congr 1
     rw [List.getD_eq_getElem?_getD,List.getElem?_eq_getElem hi]; rfl
   refine ⟨?_,?_⟩
   · show (((Wh a n d k).2*d:Int):Rat)=_
     rw [Rat.intCast_mul,h1,Rat.pow_succ]
   · rw [e1]
     show (((Wh a n d k).1*n+a.getD (a.length-1-k) 0*(Wh a n d k).2:Int):Rat)*d=_*(((a.getD (a.length-1-k) 0:Int):Rat)+(n:Rat) / d*Qg (a.drop (a.length-k)) ((n:Rat) / d))
     rw [Rat.intCast_add,Rat.intCast_mul,Rat.intCast_mul,h1,Rat.pow_succ]
     have h3:(n:Rat) / d*d=n:=by rw [Rat.div_mul_cancel hd]
     have h4:(d:Rat)^k*d*((n:Rat) / d*Qg (a.drop (a.length-k)) ((n:Rat) / d))=((n:Rat) / d*d)*((d:Rat)^k*Qg (a.drop (a.length-k)) ((n:Rat) / d)):=by grind
     have h5:(d:Rat)^k*d*(((a.getD (a.length-1-k) 0:Int):Rat)+(n:Rat) / d*Qg (a.drop (a.length-k)) ((n:Rat) / d))=(d:Rat)^k*d*((a.getD (a.length-1-k) 0:Int):Rat)+(d:Rat)^k*d*((n:Rat) / d*Qg (a.drop (a.length-k)) ((n:Rat) / d)):=by grind
     rw [h5,h4,h3,←h2]
     grind
theorem Qll {d:Rat} (h:0<d):∀ k:Nat,0<d^k
  | 0=>by rw [Rat.pow_zero]; decide
  | k+1=>by rw [Rat.pow_succ]; exact Rat.mul_pos (Qll h k) h
theorem Wy {x y:Rat} (h:0<y):Qj (y*x)=Qj x:=by
  unfold Qj
  have h1:y*x<0↔x<0:=by
    constructor
    · intro h2
      rcases Rat.le_total (a:=0) (b:=x) with h3 | h3
      · have:=Rat.mul_nonneg (Rat.le_of_lt h) h3; grind
      · rcases Rat.le_iff_lt_or_eq.1 h3 with h4 | h4
        · exact h4
        · rw [h4] at h2; grind
    · intro h2
      have:=Rat.mul_pos h (show 0 < -x by grind)
      grind
  have h2:0<y*x↔0<x:=by
    constructor
    · intro h2
      rcases Rat.le_total (a:=x) (b:=0) with h3 | h3
      · have:=Rat.mul_nonneg (Rat.le_of_lt h) (show 0≤-x by grind); grind
      · rcases Rat.le_iff_lt_or_eq.1 h3 with h4 | h4
        · exact h4
        · rw [←h4] at h2; grind
    · intro h2; exact Rat.mul_pos h h2
  simp only [h1,h2]
theorem Qpq (z:Int):Kv z 0=Qj (z:Rat):=by
  unfold Kv Qj
  have h1:((z:Int):Rat)<0↔z<0:=by
    have := @Rat.intCast_lt_intCast z 0; simpa using this
  have h2:0<((z:Int):Rat)↔0<z:=by
    have := @Rat.intCast_lt_intCast 0 z; simpa using this
  simp only [h1,h2]
theorem Vs (p:List Int) (q:Rat):Xb p q=Qj (Qg p q):=by
  have hd0:(0:Rat)<((q.den:Int):Rat):=by
    have := @Rat.intCast_lt_intCast 0 (q.den:Int)
    rw [show ((0:Int):Rat)=0 from rfl] at this
    exact this.2 (den_pos q)
  have hd:((q.den:Int):Rat)≠0:=by intro h; rw [h] at hd0; exact absurd hd0 (by decide)
  obtain ⟨_,h⟩:=Qma p q.num q.den hd p.length (Nat.le_refl _)
  rw [Nat.sub_self,List.drop_zero,Z3,Rat.num_divInt_den] at h
  unfold Xb
  rw [Qpq,←Wy hd0,Rat.mul_comm]
  show Qj ((((Wh p q.num q.den p.length).1:Int):Rat)*_)=_
  rw [h,Wy (Qll hd0 _)]
end Orq

namespace Orq
open Orr Go
def cz (p:List Int):List Rat:=p.map fun z:Int=>(z:Rat)
theorem Qh (t:Rat):∀ p,ev (cz p) t=Qg p t
  | []=>rfl
  | a::p=>by have:=Qh t p; simp only [cz,List.map_cons,ev,Qg] at *; rw [this]
theorem Yi:∀ (p:List Int) (k:Nat),(cz p).getD k 0=((p.getD k 0:Int):Rat)
  | [],k=>by simp [cz]
  | a::p,0=>by simp [cz]
  | a::p,k+1=>by have:=Yi p k; simp only [cz,List.map_cons,List.getD_cons_succ] at *; exact this
theorem Kz {p q:List Int} (h:∀ t,Qg p t=Qg q t) (k:Nat):p.getD k 0=q.getD k 0:=by
  have:=Km (p:=cz p) (q:=cz q) (fun t=>by rw [Qh,Qh,h]) k
  rw [Yi,Yi] at this
  exact_mod_cast this
theorem Qw4 {p q:List Int} (hp:Qm p) (hq:Qm q) (h:∀ k,p.getD k 0=q.getD k 0):p=q:=by
  have key:∀ {p q:List Int},Qm p→Qm q→(∀ k,p.getD k 0=q.getD k 0)→p.length≤q.length:=fun {p q} hp hq h=>by
    rcases Nat.lt_or_ge q.length p.length with e | e
    · have:=Xi hp (by omega)
      rw [h,List.getD_eq_getElem?_getD,List.getElem?_eq_none (by omega)] at this
      exact absurd rfl this
    · exact e
  exact Qg6 (Nat.le_antisymm (key hp hq h) (key hq hp fun k=>(h k).symm)) fun j _=>h j
theorem Qlh {p q:List Int} (hp:Qm p) (hq:Qm q) (h:∀ t,Qg p t=Qg q t):p=q:=Qw4 hp hq (Kz h)
theorem Qwe {p:List Int} (hp:Qm p) (h:∀ t,Qg p t=0):p=[]:=Qlh hp rfl fun t=>by rw [h]; rfl
theorem Ko {p:List Int} (h:p.length=0) (t:Rat):Qg p t=0:=by rw [List.eq_nil_of_length_eq_zero h]; rfl
theorem Qlf:∀ (p r:List Int) (t:Rat),(∀ k,r.getD k 0=p.getD (k+1) 0*((k+1:Nat):Int))→Qg r t=dv (cz p) t
  |
   [],r,t,h=>by
   rw [Qlg (q:=[]) (fun k=>by rw [h]; simp) t]; rfl
  |
   a::p,r,t,h=>by
   have ih:=Qlf p (Zv p) t fun k=>Vb p k
   have e:Qg r t=Qg p t+t*Qg (Zv p) t:=by
     have:=Vp 1 1 t (max (max p.length (0::Zv p).length) r.length) p (0::Zv p) r (by omega) (by omega) (by omega) fun k=>by
       rw [h,List.getD_cons_succ]
       cases k with
       | zero=>simp
       | succ k=>rw [List.getD_cons_succ,Vb]; push_cast; grind
     rw [this]; simp only [Qg]; push_cast; grind
   rw [e,ih]
   show _=ev (cz p) t+t*dv (cz p) t
   rw [Qh]
theorem Gf (p:List Int) (t:Rat):Qg (Zv p) t=dv (cz p) t:=Qlf p _ t fun k=>Vb p k
theorem C6 {p:List Int} (hp:Qm p) (h:0<p.length):HD (cz p) (p.length-1):=by
  refine ⟨?_,fun k hk=>?_⟩
  · rw [Yi]
    have:=Xi hp h
    exact fun e=>this (by exact_mod_cast e)
  · rw [Yi,List.getD_eq_getElem?_getD,List.getElem?_eq_none (by omega)]; rfl
theorem Cw {p:List Int} (hp:Qm p) (h:0<p.length):¬∀ t,Qg p t=0:=fun h0=>by
  rw [Qwe hp h0] at h; exact absurd h (by simp)
theorem Yj {a b c:List Int} (ha:Qm a) (hb:Qm b) (hc:Qm c) (h:∀ t,Qg c t=Qg a t*Qg b t) (la:0<a.length) (lb:0<b.length):c.length=a.length+b.length-1:=by
  have h1:=Af (C6 ha la) (C6 hb lb)
  have h2:HD (cz c) (a.length-1+(b.length-1)):=Qya (fun t=>by rw [Qi,Qh,Qh,Qh,h]) h1
  have lc:0<c.length:=by
    rcases Nat.eq_zero_or_pos c.length with e | e
    · exact absurd (fun t=>by rw [Qh]; exact Ko e t) (Qkj h2)
    · exact e
  have:=Qyb (C6 hc lc) h2
  omega
theorem Qfg:∀ (n m:Nat),m≤n→2≤m→∃ P,2≤P∧P∣m∧∀ d,2≤d→d∣P→d=P
  | 0,m,h,h2=>by omega
  |
   n+1,m,h,h2=>by
   rcases Classical.em (∃ d,2≤d∧d<m∧d∣m) with ⟨d,d1,d2,d3⟩ | h0
   · obtain ⟨P,p1,p2,p3⟩:=Qfg n d (by omega) d1
     exact ⟨P,p1,Nat.dvd_trans p2 d3,p3⟩
   · refine ⟨m,h2,Nat.dvd_refl m,fun d d1 d2=>?_⟩
     rcases Nat.lt_or_eq_of_le (Nat.le_of_dvd (by omega) d2) with e | e
     · exact absurd ⟨d,d1,e,d2⟩ h0
     · exact e
theorem Qbi {P:Nat} (h2:2≤P) (hP:∀ d,2≤d→d∣P→d=P) {x y:Int} (h:(P:Int)∣x*y):(P:Int)∣x∨(P:Int)∣y:=by
  have h:=Int.natAbs_dvd_natAbs.2 h
  rw [Int.natAbs_mul,Int.natAbs_natCast] at h
  have hg:=Nat.gcd_dvd_left P x.natAbs
  rcases Nat.lt_or_ge (Nat.gcd P x.natAbs) 2 with e | e
  · right
    have h1:Nat.gcd P x.natAbs=1:=by
      have:=Nat.gcd_pos_of_pos_left x.natAbs (show 0<P by omega); omega
    have:=Nat.Coprime.dvd_of_dvd_mul_left h1 h
    exact Int.natAbs_dvd_natAbs.1 (by rwa [Int.natAbs_natCast])
  · left
    have:=hP _ e hg
    have h3:=Nat.gcd_dvd_right P x.natAbs
    rw [this] at h3
    exact Int.natAbs_dvd_natAbs.1 (by rwa [Int.natAbs_natCast])
def Qgd (P:Int) (l:List Int):Prop:=∀ k,P∣l.getD k 0
theorem Nq {P:Nat} (h2:2≤P) (hP:∀ d,2≤d→d∣P→d=P):∀ (n:Nat) (b h c:List Int),b.length+h.length≤n→(∀ t,Qg c t=Qg b t*Qg h t)→Qgd P c→Qgd P b∨Qgd P h
  | _,[],h,c,_,_,_=>.inl fun k=>by simp
  | _,x::b,[],c,_,_,_=>.inr fun k=>by simp
  | 0,x::b,y::h,c,hn,_,_=>by simp at hn
  |
   n+1,x::b,y::h,c,hn,hc,hd=>by
   simp only [List.length_cons] at hn
   by_cases hx:(P:Int)∣x
   · -- x h is taken away
     have e:∀ t,Qg (0::Zn b (y::h)) t=Qg (We c (Zo (y::h) x)) t:=fun t=>by
       rw [Vq,Xl,hc]; simp only [Qg]; rw [Qy]; simp only [Qg]; push_cast; grind
     have hd':Qgd P (Zn b (y::h)):=fun k=>by
       have:=Kz e (k+1)
       rw [List.getD_cons_succ,Gj,Yb] at this
       rw [this]
       exact Int.dvd_sub (hd (k+1)) (Int.dvd_trans hx (Int.dvd_mul_left _ _))
     rcases Nq h2 hP n b (y::h) _ (by simp only [List.length_cons]; omega) (fun t=>Qy _ _ t) hd' with h1 | h1
     · refine .inl fun k=>?_
       cases k with
       | zero=>rw [List.getD_cons_zero]; exact hx
       | succ k=>rw [List.getD_cons_succ]; exact h1 k
     · exact .inr h1
   · have h0:(P:Int)∣y:=by
       have e:c.getD 0 0=x*y:=by
         have:=Kz (p:=c) (q:=Zn (x::b) (y::h)) (fun t=>by rw [hc,Qy]) 0
         have e2:=Kz (p:=Zn (x::b) (y::h)) (q:=Mx (Zo (y::h) x) (0::Zn b (y::h))) (fun t=>by
           rw [Qe9,Xl,Qy]; simp only [Qg]; rw [Qy]; simp only [Qg]; push_cast; grind) 0
         rw [this,e2,O2,Yb,List.getD_cons_zero,List.getD_cons_zero,Int.mul_comm]; omega
       have:=hd 0
       rw [e] at this
       rcases Qbi h2 hP this with h1 | h1
       · exact absurd h1 hx
       · exact h1
     have e:∀ t,Qg (0::Zn (x::b) h) t=Qg (We c (Zo (x::b) y)) t:=fun t=>by
       rw [Vq,Xl,hc]; simp only [Qg]; rw [Qy]; simp only [Qg]; push_cast; grind
     have hd':Qgd P (Zn (x::b) h):=fun k=>by
       have:=Kz e (k+1)
       rw [List.getD_cons_succ,Gj,Yb] at this
       rw [this]
       exact Int.dvd_sub (hd (k+1)) (Int.dvd_trans h0 (Int.dvd_mul_left _ _))
     rcases Nq h2 hP n (x::b) h _ (by simp only [List.length_cons]; omega) (fun t=>Qy _ _ t) hd' with h1 | h1
     · exact absurd (by have:=h1 0; rwa [List.getD_cons_zero] at this) hx
     · refine .inr fun k=>?_
       cases k with
       | zero=>rw [List.getD_cons_zero]; exact h0
       | succ k=>rw [List.getD_cons_succ]; exact h1 k
def Prm (b:List Int):Prop:=∀ d:Int,Qgd d b→d∣1
theorem Qqj {a b:List Int} (hb:Prm b):∀ (n:Nat) (c:Int) (h:List Int),c.natAbs≤n→c≠0→(∀ t,(c:Rat)*Qg a t=Qg b t*Qg h t)→∃ h',∀ t,Qg a t=Qg b t*Qg h' t
  | 0,c,h,hn,h0,_=>absurd (by omega) h0
  |
   n+1,c,h,hn,h0,hc=>by
   rcases Nat.lt_or_ge c.natAbs 2 with h1 | h1
   · refine ⟨Zo h c,fun t=>?_⟩
     have hcc:(c:Rat)*c=1:=by
       have:c*c=1:=by
         rcases (show c=1∨c=-1 by omega) with rfl | rfl <;> rfl
       have:=congrArg (fun z:Int=>(z:Rat)) this
       push_cast at this; exact this
     rw [Xl]
     have:=hc t
     have:Qg a t=(c:Rat)*((c:Rat)*Qg a t):=by
       have:(c:Rat)*((c:Rat)*Qg a t)=((c:Rat)*c)*Qg a t:=by grind
       rw [this,hcc]; grind
     rw [this,hc]; grind
   · obtain ⟨P,p1,p2,p3⟩:=Qfg c.natAbs c.natAbs (Nat.le_refl _) h1
     obtain ⟨d,hd⟩:∃ d,c=(P:Int)*d:=Int.ofNat_dvd_left.2 p2
     have hall:Qgd P (Zo a c):=fun k=>by
       rw [Yb,hd]; exact Int.dvd_trans (Int.dvd_mul_right _ _) (Int.dvd_mul_left _ _)
     have hP0:(P:Rat)≠0:=by
       have:((0:Nat):Rat)<(P:Rat):=Rat.natCast_lt_natCast.2 (by omega)
       grind
     rcases Nq p1 p3 _ b h (Zo a c) (Nat.le_refl _) (fun t=>by rw [Xl,Rat.mul_comm,hc]) hall with e | e
     · have:=hb P e
       have:=Int.natAbs_dvd_natAbs.2 this
       rw [Int.natAbs_natCast] at this
       have:=Nat.le_of_dvd (by decide) this
       exact absurd this (by show ¬P≤1; omega)
     · refine Qqj hb n d (h.map (· / (P:Int))) ?_ (fun e0=>h0 (by rw [hd,e0,Int.mul_zero])) fun t=>?_
       · rw [hd,Int.natAbs_mul,Int.natAbs_natCast] at hn h1
         have:2*d.natAbs≤P*d.natAbs:=Nat.mul_le_mul_right _ p1
         omega
       · have e1:Qg h t=(P:Rat)*Qg (h.map (· / (P:Int))) t:=by
           have:=Vp P 0 t (max h.length (h.map (· / (P:Int))).length) (h.map (· / (P:Int))) [] h (by omega) (by simp) (by omega) fun k=>by
             have:=e k
             have e2:(h.map (· / (P:Int))).getD k 0=h.getD k 0 / (P:Int):=by
               rw [List.getD_eq_getElem?_getD,List.getD_eq_getElem?_getD,List.getElem?_map]
               cases h[k]? <;> simp
             rw [e2,Int.mul_ediv_cancel' this]; simp
           rw [this]; simp only [Qg]; push_cast; grind
         have:=hc t
         rw [hd,e1] at this
         push_cast at this
         have h3:(P:Rat)*((d:Rat)*Qg a t)=(P:Rat)*(Qg b t*Qg (h.map (· / (P:Int))) t):=by grind
         have h4:=Rat.mul_eq_zero.1 (show (P:Rat)*((d:Rat)*Qg a t-Qg b t*Qg (h.map (· / (P:Int))) t)=0 by grind)
         rcases h4 with h4 | h4
         · exact absurd h4 hP0
         · grind
theorem I7:∀ u:List Rat,∃ c:Int,c≠0∧∃ h:List Int,∀ t,(c:Rat)*ev u t=Qg h t
  | []=>⟨1,by decide,[],fun t=>by simp only [ev,Qg]; grind⟩
  |
   a::u=>by
   obtain ⟨c,hc,h,hh⟩:=I7 u
   refine ⟨c*(a.den:Int),Int.mul_ne_zero hc (by have:=a.den_nz; omega),(c*a.num)::Zo h (a.den:Int),fun t=>?_⟩
   have e:(a.den:Rat)*a=a.num:=by
     rw [Rat.mul_comm]
     have:(a.num:Rat) / (((a.den:Int)):Rat)=a:=by rw [Z3,Rat.num_divInt_den]
     have hd:(a.den:Rat)≠0:=by
       have:((0:Nat):Rat)<(a.den:Rat):=Rat.natCast_lt_natCast.2 a.den_pos
       grind
     have h2:(a.num:Rat) / (a.den:Rat)*(a.den:Rat)=a.num:=Rat.div_mul_cancel hd
     rw [show (a.num:Rat) / (a.den:Rat)=a from this] at h2; exact h2
   simp only [ev,Qg]
   rw [Xl,←hh]
   push_cast
   rw [←e]
   have e3:(((a.den:Int)):Rat)=(a.den:Rat):=rfl
   grind
theorem Qqi {a b:List Int} (hb:Prm b) (h:Ht (cz b) (cz a)):∃ h',Qm h'∧∀ t,Qg a t=Qg b t*Qg h' t:=by
  obtain ⟨u,hu⟩:=h
  obtain ⟨c,hc,h,hh⟩:=I7 u
  obtain ⟨h',e⟩:=Qqj hb c.natAbs c h (Nat.le_refl _) hc fun t=>by
    have:=hu t
    rw [Qh,Qh] at this
    rw [this,←hh]; grind
  exact ⟨Qp h',Z2 _,fun t=>by rw [K0,e]⟩
end Orq

namespace Orq
open Orr Go
def sd (x0:Rat):List Rat→List Rat
  | []=>[]
  | _::p=>X8 p (Kr x0 (sd x0 p))
theorem Qqc (x0 x:Rat):∀ p,ev (sd x0 p) x=dq p x x0
  | []=>rfl
  | a::p=>by simp only [sd,dq]; rw [Q9,Q5,Qqc x0 x p]
theorem Qie (x0:Rat):∀ (g:List Rat) (n:Nat),(∀ j,n<j→g.getD j 0=0)→∀ j,n≤j→(sd x0 g).getD j 0=0
  | [],n,_,j,_=>by simp [sd]
  |
   a::p,0,h,j,_=>by
   have hp:∀ j,p.getD j 0=0:=fun j=>by have:=h (j+1) (by omega); rwa [List.getD_cons_succ] at this
   simp only [sd]
   rw [Z9,X5,hp,Qie x0 p 0 (fun j _=>hp j) j (Nat.zero_le _)]; grind
  |
   a::p,n+1,h,j,hj=>by
   have hp:∀ j,n<j→p.getD j 0=0:=fun j hj=>by have:=h (j+1) (by omega); rwa [List.getD_cons_succ] at this
   simp only [sd]
   rw [Z9,X5,hp j (by omega),Qie x0 p n hp j (by omega)]; grind
theorem Qhf {K:Rat} (hK:0≤K):∀ (e:Nat) (g:List Rat) (pts:List Int) (M:Rat),pts.length=e+1→pts.Nodup→(∀ x∈pts,Ql (x:Rat)≤K)→(∀ k,e<k→g.getD k 0=0)→(∀ x∈pts,Ql (ev g (x:Rat))≤M)→∀ k,Ql (g.getD k 0)≤(2*K+3)^e*M
  | _,_,[],_,h,_,_,_,_=>by simp at h
  |
   0,g,x0::xs,M,_,_,_,hg,hM=>fun k=>by
   have h0:=hM x0 (by simp)
   rw [Rat.pow_zero]
   cases k with
   |
    zero =>
    have e:ev g (x0:Rat)=g.getD 0 0:=by
      cases g with
      | nil=>rfl
      |
       cons a p =>
       have hp:=Kw (p:=p) fun j=>by have:=hg (j+1) (by omega); rwa [List.getD_cons_succ] at this
       simp only [ev,hp,List.getD_cons_zero]; grind
    rw [←e]; grind
   |
    succ k =>
    rw [hg (k+1) (by omega),Z6]
    have:=Zx (ev g (x0:Rat)); grind
  |
   e+1,g,x0::xs,M,hl,hn,hb,hg,hM=>fun k=>by
   have hx0:=hb x0 (by simp)
   have hM0:=hM x0 (by simp)
   have hMn:0≤M:=Rat.le_trans (Zx _) hM0
   rw [List.nodup_cons] at hn
   have ih:=Qhf hK e (sd x0 g) xs (2*M) (by simpa using hl) hn.2 (fun x hx=>hb x (by simp [hx])) (fun j hj=>Qie _ g (e+1) hg j (by omega)) fun x hx=>by
     have h1:=hM x (by simp [hx])
     have h2:=Oc (x:Rat) (x0:Rat) g
     rw [←Qqc] at h2
     have hne:x-x0≠0:=fun h=>hn.1 (by rw [show x0=x by omega]; exact hx)
     have h3:=Pm hne
     rw [Rat.intCast_sub] at h3
     have h4:Ql (ev g (x:Rat)-ev g (x0:Rat))≤2*M:=by
       have:=X7 (ev g (x:Rat)) (-ev g (x0:Rat))
       rw [Wx,show ev g (x:Rat)+-ev g (x0:Rat)=ev g (x:Rat)-ev g (x0:Rat) by grind] at this
       clear hM hb hg; grind
     rw [h2,U5] at h4
     have h5:=Rat.mul_le_mul_of_nonneg_right h3 (Zx (ev (sd x0 g) x))
     clear hM hb hg; grind
   have e1:∀ t,ev g t=ev (X8 [ev g x0] (X8 (Kr (-x0) (sd x0 g)) (0::sd x0 g))) t:=fun t=>by
     have:=Oc t (x0:Rat) g
     rw [←Qqc] at this
     simp only [Q9,Q5,ev]
     grind
   have hp1:1≤(2*K+3)^e:=(Tx (R:=2*K+3) (x:=0) (by grind) (by rw [Z6]; grind) e).2
   have hpM:=Y4 (x:=(2*K+3)^e) (y:=M) (by grind) hMn
   have hpM1:=Rat.mul_le_mul_of_nonneg_right hp1 hMn
   rw [Rat.pow_succ,Km e1 k,Z9,Z9,X5]
   have a1:=ih k
   have a2:Ql (-(x0:Rat)*(sd (x0:Rat) g).getD k 0)≤K*((2*K+3)^e*(2*M)):=Zg (by rw [Wx]; exact hx0) a1
   have fin:∀ u v w:Rat,Ql u≤M→Ql v≤K*((2*K+3)^e*(2*M))→Ql w≤(2*K+3)^e*(2*M)→Ql (u+(v+w))≤(2*K+3)^e*(2*K+3)*M:=fun u v w h1 h2 h3=>by
     have b1:=X7 u (v+w)
     have b2:=X7 v w
     clear ih e1 hM hb hg a1 a2; grind
   refine fin _ _ _ ?_ a2 ?_
   · cases k with
     | zero=>rw [List.getD_cons_zero]; exact hM0
     | succ k=>rw [List.getD_cons_succ,List.getD_nil,Z6]; exact hMn
   · cases k with
     | zero=>rw [List.getD_cons_zero,Z6]; clear ih e1 hM hb hg a1 a2 fin; grind
     | succ k=>rw [List.getD_cons_succ]; exact ih k
theorem Qss {g:List Rat} {e:Nat} (hg:∀ k,e<k→g.getD k 0=0) (hz:¬∀ t,ev g t=0) {pts:List Int} (hn:pts.Nodup) (hr:∀ x∈pts,ev g (x:Rat)=0):pts.length≤e:=by
  rcases Nat.lt_or_ge e pts.length with h | h
  · exfalso
    obtain ⟨K,hK,hb⟩:∃ K:Rat,0≤K∧∀ x∈pts,Ql (x:Rat)≤K:=by
      clear hn hr h
      induction pts with
      | nil=>exact ⟨0,by decide,fun x hx=>by cases hx⟩
      |
       cons y pts ih =>
       obtain ⟨K,h1,h2⟩:=ih
       refine ⟨K+Ql (y:Rat),by have:=Zx (y:Rat); grind,fun x hx=>?_⟩
       have hy:=Zx (y:Rat)
       rcases List.mem_cons.1 hx with rfl | hx
       · grind
       · have:=h2 x hx; grind
    refine hz (Kw fun k=>?_)
    have:=Qhf hK e g (pts.take (e+1)) 0 (by rw [List.length_take]; omega) (hn.sublist (List.take_sublist ..)) (fun x hx=>hb x (List.mem_of_mem_take hx)) hg (fun x hx=>by rw [hr x (List.mem_of_mem_take hx),Z6]; exact Rat.le_refl) k
    have h2:=Zx (g.getD k 0)
    exact Qwo (by grind)
  · exact h
def spots:List Int:=(List.range 19).map fun i:Nat=>(i:Int)-9
theorem spots_nd:spots.Nodup:=by decide
theorem Qfu:∀ x∈spots,x.natAbs≤9:=by decide
theorem E3 {α:Type} (p:α→Bool):∀ l:List α,(l.filter p).length+(l.filter fun x => !p x).length=l.length
  | []=>rfl
  |
   x::l=>by
   have:=E3 p l
   cases h:p x <;> simp [h] <;> omega
def geo:Nat→Nat
  | 0=>0
  | n+1=>1+9*geo n
theorem Qka {B:Rat}:∀ (p:List Int),(∀ z∈p,Ql (z:Rat)≤B)→evB 9 (cz p)≤B*(geo p.length:Nat)
  | [],_=>by simp only [cz,List.map_nil,evB,geo,List.length_nil]; rw [show ((0:Nat):Rat)=0 from rfl]; grind
  |
   a::p,h=>by
   have h1:=Qka p fun z hz=>h z (List.mem_cons_of_mem _ hz)
   have h2:=h a (List.mem_cons_self ..)
   simp only [cz,List.map_cons,evB,geo,List.length_cons] at *
   push_cast
   clear h; grind
theorem Qqu {m n:Nat} (h:m≤n):geo m≤geo n:=by
  induction h with
  | refl=>exact Nat.le_refl _
  | step h ih=>simp only [geo]; omega
def pz:List Int→Int→Int
  | [],_=>0
  | a::p,x=>a+x*pz p x
theorem Pn (x:Int):∀ p,Qg p (x:Rat)=((pz p x:Int):Rat)
  | []=>rfl
  | a::p=>by simp only [Qg,pz,Pn x p]; push_cast; rfl
theorem Jc (z:Int):Ql (z:Rat)=((z.natAbs:Nat):Rat):=by
  unfold Ql
  rcases Int.lt_or_le z 0 with h | h
  · have h1:(z:Rat)<((0:Int):Rat):=Rat.intCast_lt_intCast.2 h
    rw [if_pos (by simpa using h1)]
    have:(z.natAbs:Int)=-z:=by omega
    have:=congrArg (fun u:Int=>(u:Rat)) this
    push_cast at this
    exact this.symm
  · have h1:((0:Int):Rat)≤(z:Rat):=Rat.intCast_le_intCast.2 h
    have h1:(0:Rat)≤(z:Rat):=by simpa using h1
    rw [if_neg (by grind)]
    have:(z.natAbs:Int)=z:=by omega
    have:=congrArg (fun u:Int=>(u:Rat)) this
    exact this.symm
theorem Re {p g h:List Int} {s:Nat} (hp:Bd s p) (hl:p.length≤10) (tp:Qm p) (tg:Qm g) (th:Qm h) (h0:p.length≠0) (e:∀ t,Qg p t=Qg g t*Qg h t):Bd (s+69) g:=by
  have lg:0<g.length:=by
    rcases Nat.eq_zero_or_pos g.length with e' | e'
    · exact absurd (fun t=>by rw [e,Ko e']; grind) (Cw tp (by omega))
    · exact e'
  have lh:0<h.length:=by
    rcases Nat.eq_zero_or_pos h.length with e' | e'
    · exact absurd (fun t=>by rw [e,Ko e']; grind) (Cw tp (by omega))
    · exact e'
  have hlen:=Yj tg th tp e lg lh
  obtain ⟨q,hq⟩:∃ q,q=spots.filter fun x => !decide (pz p x=0):=⟨_,rfl⟩
  have hr:(spots.filter fun x=>decide (pz p x=0)).length≤9:=by
    refine Qss (g:=cz p) (e:=9) (fun k hk=>?_) (fun h=>Cw tp (by omega) fun t=>by rw [←Qh]; exact h t) (spots_nd.sublist List.filter_sublist) fun x hx=>?_
    · rw [Yi,List.getD_eq_getElem?_getD,List.getElem?_eq_none (by omega)]; rfl
    · have:=(List.mem_filter.1 hx).2
      rw [Qh,Pn,of_decide_eq_true this]; rfl
  have hc:=E3 (fun x=>decide (pz p x=0)) spots
  rw [←hq] at hc
  have hsl:spots.length=19:=by decide
  have hB:∀ z∈p,Ql (z:Rat)≤((2^s:Nat):Rat):=fun z hz=>by
    rw [Jc]
    have:=hp z hz
    rw [Y3] at this
    exact Rat.natCast_le_natCast.2 (Nat.le_of_lt this)
  have key:=Qhf (K:=9) (by decide) 9 (cz g) (q.take 10) (((2^s*435848050:Nat)):Rat) (by rw [List.length_take]; omega) ((spots_nd.sublist (by rw [hq]; exact List.filter_sublist)).sublist (List.take_sublist ..)) (fun x hx=>by
      have hx:=List.mem_of_mem_take hx
      rw [hq] at hx
      have:=Qfu x (List.mem_filter.1 hx).1
      rw [Jc]
      exact_mod_cast Rat.natCast_le_natCast.2 this) (fun k hk=>by rw [Yi,List.getD_eq_getElem?_getD,List.getElem?_eq_none (by omega)]; rfl) (fun x hx=>by
      have hx:=List.mem_of_mem_take hx
      rw [hq] at hx
      obtain ⟨hx1,hx2⟩:=List.mem_filter.1 hx
      have hne:pz p x≠0:=by simpa using hx2
      have e1:=e (x:Rat)
      rw [Pn,Pn,Pn] at e1
      have e2:pz p x=pz g x*pz h x:=by exact_mod_cast e1
      have hh:1≤(pz h x).natAbs:=by
        rcases Nat.eq_zero_or_pos (pz h x).natAbs with e' | e'
        · exact absurd (by rw [e2,Int.natAbs_eq_zero.1 e',Int.mul_zero]) hne
        · exact e'
      have h3:(pz g x).natAbs≤(pz p x).natAbs:=by
        rw [e2,Int.natAbs_mul]
        exact Nat.le_mul_of_pos_right _ hh
      rw [Qh,Pn,Jc]
      refine Rat.le_trans (Rat.natCast_le_natCast.2 h3) ?_
      rw [←Jc,←Pn,←Qh]
      refine Rat.le_trans (C0 (R:=9) (by
        have:=Qfu x hx1
        rw [Jc]
        exact_mod_cast Rat.natCast_le_natCast.2 this) _) ?_
      refine Rat.le_trans (Qka p hB) ?_
      have:2^s*geo p.length≤2^s*435848050:=Nat.mul_le_mul_left _ (Nat.le_trans (Qqu hl) (by decide))
      have:=Rat.natCast_le_natCast.2 this
      push_cast at this ⊢
      exact this)
  refine L6 fun k=>?_
  have h1:=key k
  rw [Yi,Jc] at h1
  have e3:(2*(9:Rat)+3)^9*((2^s*435848050:Nat):Rat)=(((794280046581*(2^s*435848050)):Nat):Rat):=by
    rw [show (2*(9:Rat)+3)^9=794280046581 by grind]
    push_cast; rfl
  rw [e3] at h1
  have h2:=Rat.natCast_le_natCast.1 h1
  rw [Y3]
  refine Nat.lt_of_le_of_lt h2 ?_
  have:794280046581*(2^s*435848050)=2^s*(794280046581*435848050):=by
    rw [Nat.mul_left_comm]
  rw [this,Nat.pow_add]
  exact Nat.mul_lt_mul_of_pos_left (by decide) (Nat.pow_pos (by decide))
end Orq

namespace Orq
open Orr Go
theorem Qdw {l:List Int} {d:Int} (h:∀ z∈l,d∣z):d∣((Xf l:Nat):Int):=by
  have key:∀ (l:List Int) (g:Nat),d.natAbs∣g→(∀ z∈l,d∣z)→d.natAbs∣l.foldl (fun g z=>Nat.gcd g z.natAbs) g:=by
    intro l
    induction l with
    | nil=>exact fun g h _=>h
    | cons z l ih=>exact fun g hg h=>ih _ (Nat.dvd_gcd hg (Int.natAbs_dvd_natAbs.2 (h z (List.mem_cons_self ..)))) fun u hu=>h u (List.mem_cons_of_mem _ hu)
  have:=key l 0 (Nat.dvd_zero _) h
  exact Int.natAbs_dvd_natAbs.1 (by rw [Int.natAbs_natCast]; exact this)
theorem Md (p:List Int) (c:Int) (k:Nat):(p.map (· / c)).getD k 0=p.getD k 0 / c:=by
  rw [List.getD_eq_getElem?_getD,List.getD_eq_getElem?_getD,List.getElem?_map]
  cases p[k]? <;> simp
theorem Po (p:List Int) (c:Int) (k:Nat):(Kb p c).getD k 0=p.getD k 0 / c:=by
  unfold Kb; rw [Se,Md]
theorem O3 {p:List Int} {c:Int} (h:∀ z∈p,c∣z) (t:Rat):Qg p t=(c:Rat)*Qg (Kb p c) t:=by
  have:=Vp c 0 t (max p.length (Kb p c).length) (Kb p c) [] p (by omega) (by simp) (by omega) fun k=>by
    rw [Po]
    have hd:c∣p.getD k 0:=by
      rw [List.getD_eq_getElem?_getD]
      cases e:p[k]? with
      | none=>exact Int.dvd_zero _
      | some z=>exact h z (List.mem_of_getElem? e)
    rw [Int.mul_ediv_cancel' hd]; simp
  rw [this]; simp only [Qg]; push_cast; grind
theorem Rh {c:Int} (h:c≠0):(c:Rat)≠0:=fun e=>h (by exact_mod_cast e)
theorem Hd {p q:List Int} {c:Rat} (tp:Qm p) (tq:Qm q) (hc:c≠0) (h:∀ t,Qg p t=c*Qg q t):p.length=q.length:=by
  have key:∀ {p q:List Int} {c:Rat},Qm p→Qm q→c≠0→(∀ t,Qg p t=c*Qg q t)→p.length≤q.length:=fun {p q c} tp tq hc h=>by
    rcases Nat.lt_or_ge q.length p.length with e | e
    · have h1:=Xi tp (by omega)
      have:=Km (p:=cz p) (q:=Kr c (cz q)) (fun t=>by rw [Qh,Q5,Qh,h]) (p.length-1)
      rw [Yi,X5,Yi,List.getD_eq_getElem?_getD (l:=q),List.getElem?_eq_none (by omega)] at this
      have:((p.getD (p.length-1) 0:Int):Rat)=0:=by rw [this]; simp
      exact absurd (by exact_mod_cast this) h1
    · exact e
  refine Nat.le_antisymm (key tp tq hc h) (key (c:=1 / c) tq tp (fun e=>?_) fun t=>?_)
  · have:=Rat.div_mul_cancel (a:=1) hc; rw [e] at this; grind
  · rw [h]; have:=Rat.div_mul_cancel (a:=1) hc; grind
theorem Vr {p:List Int} (tp:Qm p) (h:p.length≠0):Qm (Qn p)∧(Qn p).length=p.length∧Prm (Qn p)∧0<Qo (Qn p)∧(∀ s,Bd s p→Bd s (Qn p))∧Zr p≠0∧∀ t,Qg p t=(Zr p:Rat)*Qg (Qn p) t:=by
  have h0:=Qli tp h
  have e:Qn p=Kb p (Zr p):=by unfold Qn; rw [if_neg h]
  have h1:=O3 (p:=p) (c:=Zr p) Mz
  have hl:=Hd tp (Hh p (Zr p)) (Rh h0) h1
  have hcp:0<Jl p:=by
    have:=Rv tp h
    unfold Jl at this ⊢; omega
  rw [e]
  refine ⟨Hh _ _,hl.symm,fun d hd=>?_,?_,fun s hs=>L8 hs _,h0,h1⟩
  · have h2:∀ z∈p,d*Zr p∣z:=fun z hz=>by
      obtain ⟨i,hi⟩:=List.mem_iff_getElem?.1 hz
      have h3:=hd i
      rw [Po,List.getD_eq_getElem?_getD,hi] at h3
      obtain ⟨k,hk⟩:=h3
      have h4:=Mz z hz
      refine ⟨k,?_⟩
      have:z / Zr p*Zr p=z:=Int.ediv_mul_cancel h4
      rw [←this]
      rw [show z / Zr p=d*k from hk,Int.mul_right_comm]
    have h3:=Qdw h2
    have h4:Zr p∣((Xf p:Nat):Int)∧((Xf p:Nat):Int)∣Zr p:=by
      unfold Zr Jl; split
      · exact ⟨Int.neg_dvd.2 (Int.dvd_refl _),Int.dvd_neg.2 (Int.dvd_refl _)⟩
      · exact ⟨Int.dvd_refl _,Int.dvd_refl _⟩
    obtain ⟨k,hk⟩:=Int.dvd_trans h3 h4.2
    refine ⟨k,?_⟩
    have:Zr p*(d*k)=Zr p*1:=by rw [Int.mul_one,←Int.mul_assoc,Int.mul_comm (Zr p) d,←hk]
    exact (Int.eq_of_mul_eq_mul_left h0 this).symm
  · have h2:Qo (Kb p (Zr p))=Qo p / Zr p:=by unfold Qo; rw [←hl,Po]
    have h3:Zr p∣Qo p:=Mz _ (An h)
    have h5:Qo p / Zr p*Zr p=Qo p:=Int.ediv_mul_cancel h3
    rw [h2]
    have h6:=Wu tp h
    rcases Int.lt_trichotomy (Qo p / Zr p) 0 with e1 | e1 | e1
    · exfalso
      by_cases hn:Qo p<0
      · have:Zr p=-Jl p:=by unfold Zr; rw [if_pos hn]
        have:0<Qo p / Zr p*Zr p:=Int.mul_pos_of_neg_of_neg e1 (by omega)
        omega
      · have:Zr p=Jl p:=by unfold Zr; rw [if_neg hn]
        have:Qo p / Zr p*Zr p<0:=Int.mul_neg_of_neg_of_pos e1 (by omega)
        omega
    · rw [e1] at h5; omega
    · exact e1
theorem Qr7 {r:List Int} (tr:Qm r):∃ c:Rat,0<c∧∀ t,Qg r t=c*Qg (Sw r) t:=by
  unfold Sw
  by_cases h:r.length=0
  · rw [if_pos h]; exact ⟨1,by decide,fun t=>by rw [Ko h,Ko rfl]; grind⟩
  · rw [if_neg h]
    have h1:0<Jl r:=by
      have:=Rv tr h
      unfold Jl at this ⊢; omega
    have h2:((0:Int):Rat)<(Jl r:Rat):=Rat.intCast_lt_intCast.2 h1
    exact ⟨Jl r,by simpa using h2,O3 W8⟩
theorem Rw (x:Int) (t:Rat):∀ i,Qg (mono i x) t=(x:Rat)*t^i
  | 0=>by simp only [mono,List.replicate_zero,List.nil_append,Qg,Rat.pow_zero]; grind
  |
   i+1=>by
   have ih:=Rw x t i
   simp only [mono,List.replicate_succ,List.cons_append,Qg] at *
   rw [ih,Rat.pow_succ]; push_cast; grind
theorem Qk1 (x:Int) (b:List Int) (i k:Nat):(Zn (Qp (mono i x)) b).getD k 0=if i≤k then x*b.getD (k-i) 0 else 0:=by
  have e:∀ t,Qg (Zn (Qp (mono i x)) b) t=Qg (List.replicate i 0++b.map (x * ·)) t:=fun t=>by
    rw [Qy,K0,Rw]
    have h2:∀ i,Qg (List.replicate i 0++b.map (x * ·)) t=t^i*((x:Rat)*Qg b t):=fun i=>by
      induction i with
      |
       zero =>
       simp only [List.replicate_zero,List.nil_append,Rat.pow_zero]
       have:=Vp x 0 t (max b.length (b.map (x * ·)).length) b [] (b.map (x * ·)) (by omega) (by simp) (by omega) fun k=>by
         rw [List.getD_eq_getElem?_getD,List.getD_eq_getElem?_getD,List.getElem?_map]
         cases b[k]? <;> simp
       rw [this]; simp only [Qg]; push_cast; grind
      | succ i ih=>simp only [List.replicate_succ,List.cons_append,Qg,ih,Rat.pow_succ]; push_cast; grind
    rw [h2]; grind
  rw [Kz e k,List.getD_eq_getElem?_getD,List.getElem?_append,List.length_replicate]
  by_cases h:i≤k
  · rw [if_neg (by omega),if_pos h,List.getElem?_map,List.getD_eq_getElem?_getD]
    cases b[k-i]? <;> simp
  · rw [if_pos (by omega),if_neg h,List.getElem?_replicate,if_pos (by omega)]; rfl
theorem Qrd {p:List Int} {n:Nat} (tp:Qm p) (h:p.length≤n+1) (h0:p.getD n 0=0):p.length≤n:=by
  rcases Nat.lt_or_ge n p.length with e | e
  · have:=Xi tp (by omega)
    rw [show p.length-1=n by omega] at this
    exact absurd h0 this
  · exact e
theorem Qw1 {b r:List Int} {i:Nat} (tr:Qm r) (h:r.length≤b.length+i) (hb:b.length≠0) {x:Int} (hx:x=if r.length=b.length+i then Qo r else 0):(str b (Qo b) i x r).length<b.length+i:=by
  have hl:=Qbu (c:=Qo b) (x:=x) (i:=i) (b:=b) (r:=r)
  have:=Qrd (p:=str b (Qo b) i x r) (n:=b.length+i-1) (Zc _ _) (by omega) (by
    unfold str
    rw [Gj,Yb,Qk1,if_pos (by omega),hx,show b.length+i-1-i=b.length-1 by omega]
    split
    · rename_i he
      unfold Qo
      rw [he,Int.sub_eq_zero]
    · rw [List.getD_eq_getElem?_getD (l:=r),List.getElem?_eq_none (by omega)]; simp)
  omega
theorem Q00 (b r:List Int) (c:Int) (i:Nat) (x:Int) (t:Rat):(c:Rat)*Qg r t=(x:Rat)*t^i*Qg b t+Qg (str b c i x r) t:=by
  unfold str
  rw [Vq,Xl,Qy,K0,Rw]; grind
theorem Qsc (b:List Int) (c:Int):∀ (i:Nat) (q r:List Int),∃ X:List Rat,∀ t,((c^i:Int):Rat)*Qg r t=ev X t*Qg b t+Qg (psd b c i (q,r)).2 t
  | 0,q,r=>⟨[],fun t=>by simp only [psd,ev]; rw [Int.pow_zero]; push_cast; grind⟩
  |
   i+1,q,r=>by
   obtain ⟨x,hx⟩:∃ x,x=if r.length=b.length+i then Qo r else 0:=⟨_,rfl⟩
   obtain ⟨X,hX⟩:=Qsc b c i (stq c i x q) (str b c i x r)
   obtain ⟨m,hm⟩:∃ m:List Rat,∀ t,ev m t=(x:Rat)*t^i:=⟨cz (mono i x),fun t=>by rw [Qh,Rw]⟩
   refine ⟨X8 (Kr ((c^i:Int):Rat) m) X,fun t=>?_⟩
   rw [Rz hx,Q9,Q5,hm]
   have h1:=hX t
   have h2:=Q00 b r c i x t
   rw [Int.pow_succ]
   push_cast at h1 ⊢
   have:(c:Rat)^i*c*Qg r t=(c:Rat)^i*((c:Rat)*Qg r t):=by grind
   rw [this,h2]; grind
theorem Qln {b:List Int} (hb:b.length≠0):∀ (i:Nat) (q r:List Int),Qm r→r.length<b.length+i→Qm (psd b (Qo b) i (q,r)).2∧(psd b (Qo b) i (q,r)).2.length<b.length
  | 0,q,r,tr,h=>⟨tr,h⟩
  |
   i+1,q,r,tr,h=>by
   rw [Rz rfl]
   exact Qln hb i _ _ (Zc _ _) (Qw1 tr (by omega) hb rfl)
theorem Qsb {b:List Int} {c:Int} {t:Nat} (hb:Bd t b) (hc:Qt c≤t):∀ (i u:Nat) (q r:List Int),i≤64→Bd u r→Bd (u+i*(t+8)) (psd b c i (q,r)).2
  | 0,u,q,r,_,h=>by simpa [psd] using h
  |
   i+1,u,q,r,hi,h=>by
   rw [Rz rfl]
   have hx:Qt (if r.length=b.length+i then Qo r else 0)≤u:=by
     split
     · exact Yp h
     · rw [Ul]; exact Nat.zero_le _
   have:=Qsb hb hc i (u+t+8) (stq c i (if r.length=b.length+i then Qo r else 0) q) (str b c i (if r.length=b.length+i then Qo r else 0) r) (by omega) (Qgm h hb hc hx (by omega))
   exact Qc this (by rw [Nat.succ_mul]; omega)
theorem A7 {c:Int} (h:c<0):∀ k:Nat,(k % 2=1→c^k<0)∧(k % 2=0→0<c^k)
  | 0=>⟨fun h=>by omega,fun _=>by rw [Int.pow_zero]; decide⟩
  |
   k+1=>by
   obtain ⟨i1,i2⟩:=A7 h k
   rw [Int.pow_succ]
   exact ⟨fun hk=>Int.mul_neg_of_pos_of_neg (i2 (by omega)) h,fun hk=>Int.mul_pos_of_neg_of_neg (i1 (by omega)) h⟩
theorem Lp {a b:List Int} (ta:Qm a) (tb:Qm b) (hb:b.length≠0) (hl:a.length≤60):Qm (Xh a b)∧(Xh a b).length<b.length∧(∀ s,Bd s a→Bd s b→Bd (s+(a.length+1-b.length)*(s+8)) (Xh a b)) ∧
    ∃ u v:Rat,0<u∧0<v∧∃ X:List Rat,∀ t,u*Qg a t=ev X t*Qg b t+v*Qg (Xh a b) t:=by
  obtain ⟨k,hk⟩:∃ k,k=a.length+1-b.length:=⟨_,rfl⟩
  have h1:Qm (J4 a b)∧(J4 a b).length<b.length:=Qln hb _ _ _ ta (by omega)
  obtain ⟨X,hX⟩:=Qsc b (Qo b) k [] a
  have hX:∀ t,(((Qo b)^k:Int):Rat)*Qg a t=ev X t*Qg b t+Qg (J4 a b) t:=by unfold J4; rw [←hk]; exact hX
  have h2:=M5 (a:=a) (b:=b) (r:=J4 a b) (n:=(J4 a b).length) (s:=(J4 a b).foldl (fun m z=>m+Qt z) 0) h1.1 (Nat.le_refl _) (fun z hz=>by
    have key:∀ (l:List Int) (m:Nat),m≤l.foldl (fun m z=>m+Qt z) m∧∀ z∈l,Qt z≤l.foldl (fun m z=>m+Qt z) m:=by
      intro l
      induction l with
      | nil=>exact fun m=>⟨Nat.le_refl _,fun z hz=>by cases hz⟩
      |
       cons y l ih =>
       intro m
       obtain ⟨i1,i2⟩:=ih (m+Qt y)
       refine ⟨by simp only [List.foldl_cons]; omega,fun z hz=>?_⟩
       simp only [List.foldl_cons]
       rcases List.mem_cons.1 hz with rfl | hz
       · omega
       · exact i2 z hz
    exact (key _ 0).2 z hz)
  have h3:=A4 (r:=Ve a b (J4 a b)) (n:=(J4 a b).length) h2.2.1 h2.2.2
  refine ⟨h3.1,by unfold Xh; omega,fun s ha hbs=>?_,?_⟩
  · have h4:=Qsb (c:=Qo b) hbs (Yp hbs) k s [] a (by omega) ha
    have h5:=M5 (a:=a) (b:=b) (n:=(J4 a b).length) h1.1 (Nat.le_refl _) (show Bd (s+k*(s+8)) (J4 a b) by unfold J4; rw [←hk]; exact h4)
    rw [←hk]
    exact (A4 h5.2.1 h5.2.2).2.2
  · obtain ⟨v,vp,hv⟩:=Qr7 h2.1
    have hc:=Wu tb hb
    by_cases ht:k % 2=1∧Qo b<0
    · have e1:Ve a b (J4 a b)=Uv (J4 a b):=by unfold Ve; rw [←hk,if_pos ht]
      have hneg:(Qo b)^k<0:=(A7 ht.2 k).1 ht.1
      have h5:(((Qo b)^k:Int):Rat)<((0:Int):Rat):=Rat.intCast_lt_intCast.2 hneg
      have h5:(((Qo b)^k:Int):Rat)<0:=by simpa using h5
      refine ⟨-(((Qo b)^k:Int):Rat),v,by grind,vp,Kr (-1) X,fun t=>?_⟩
      have h6:=hX t
      have h7:=hv t
      rw [e1,My] at h7
      show _=_+v*Qg (Sw (Ve a b (J4 a b))) t
      rw [e1,←h7,Q5]; grind
    · have e1:Ve a b (J4 a b)=J4 a b:=by unfold Ve; rw [←hk,if_neg ht]
      have hpos:0<(Qo b)^k:=by
        rcases Int.lt_or_lt_of_ne hc with h | h
        · exact (A7 h k).2 (by omega)
        · exact Int.pow_pos h
      have h5:((0:Int):Rat)<(((Qo b)^k:Int):Rat):=Rat.intCast_lt_intCast.2 hpos
      refine ⟨(((Qo b)^k:Int):Rat),v,by simpa using h5,vp,X,fun t=>?_⟩
      have h7:=hv t
      show _=_+v*Qg (Sw (Ve a b (J4 a b))) t
      rw [←h7,e1,hX]
end Orq

namespace Orq
open Orr Go
theorem Ue {p:List Int} (h1:p.length≤64) (h2:Bd 16777216 p):chk p=some p:=by
  unfold chk
  rw [if_pos ⟨h1,List.all_eq_true.2 fun z hz=>Nat.ble_eq_true_of_le (h2 z hz)⟩]
theorem Oa {a b:List Int} {g:List Rat} {c:Rat} (hc:c≠0) (h:∀ t,Qg a t=c*Qg b t):Ht g (cz a)↔Ht g (cz b):=by
  constructor
  · rintro ⟨u,hu⟩
    refine ⟨Kr (1 / c) u,fun t=>?_⟩
    have h1:=hu t
    rw [Qh,h] at h1
    rw [Qh,Q5]
    have h2:1 / c*c=1:=Rat.div_mul_cancel hc
    have:Qg b t=1 / c*(c*Qg b t):=by grind
    rw [this,h1]; grind
  · rintro ⟨u,hu⟩
    refine ⟨Kr c u,fun t=>?_⟩
    have h1:=hu t
    rw [Qh] at h1
    rw [Qh,Q5,h,h1]; grind
structure Gc (g a b:List Int):Prop where
  t:Qm g
  da:Ht (cz g) (cz a)
  db:Ht (cz g) (cz b)
  c:∃ U V,∀ t,Qg g t=ev U t*Qg a t+ev V t*Qg b t
  n:g.length≠0
theorem Gc.scale {g a b g' a' b':List Int} {x y z:Rat} (h:Gc g a b) (hx:x≠0) (hy:y≠0) (hz:z≠0) (tg:Qm g') (eg:∀ t,Qg g t=x*Qg g' t) (ea:∀ t,Qg a' t=y*Qg a t) (eb:∀ t,Qg b' t=z*Qg b t):Gc g' a' b':=by
  have hx1:1 / x*x=1:=Rat.div_mul_cancel hx
  have hy1:1 / y*y=1:=Rat.div_mul_cancel hy
  have hz1:1 / z*z=1:=Rat.div_mul_cancel hz
  have hg:∀ c,Ht (cz g) c→Ht (cz g') c:=fun c ⟨u,hu⟩=>⟨Kr x u,fun t=>by rw [hu,Qh,Qh,eg,Q5]; grind⟩
  obtain ⟨U,V,hc⟩:=h.c
  refine ⟨tg,hg _ ((Oa hy ea).2 h.da),hg _ ((Oa hz eb).2 h.db),⟨Kr (1 / x*(1 / y)) U,Kr (1 / x*(1 / z)) V,fun t=>?_⟩,?_⟩
  · have h1:=hc t
    have h2:Qg g' t=1 / x*Qg g t:=by rw [eg]; grind
    rw [h2,h1,Q5,Q5,ea,eb]
    generalize ev U t=u at *
    generalize ev V t=v at *
    grind
  · rw [←Hd h.t tg hx eg]; exact h.n
theorem Q0k:∀ d:Nat,1≤d→d+2≤3^d
  | 0,h=>by omega
  | 1,_=>by decide
  | d+2,_=>by have:=Q0k (d+1) (by omega); rw [Nat.pow_succ]; omega
theorem Qf4 {k:Nat} {a b:List Int} (ta:Qm a) (tb:Qm b) (hb:b.length≠0) (hl:a.length≤60) (hbl:b.length≤60) (hr:Bd 16777216 (Xh a b)) (ih:∃ g,Ch k b (Xh a b)=some g∧Gc g b (Xh a b)):∃ g,Ch (k+1) a b=some g∧Gc g a b:=by
  obtain ⟨h1,h2,h3,u,v,up,vp,X,hX⟩:=Lp ta tb hb hl
  obtain ⟨g,e,hg⟩:=ih
  refine ⟨g,?_,?_⟩
  · simp only [Ch]
    rw [if_neg hb,Ue (by omega) hr]; exact e
  · obtain ⟨U,V,hc⟩:=hg.c
    obtain ⟨y,hy⟩:=hg.da
    obtain ⟨z,hz⟩:=hg.db
    have hu:1 / u*u=1:=Zh up
    have hv:1 / v*v=1:=Zh vp
    refine ⟨hg.t,⟨Kr (1 / u) (X8 (Za X y) (Kr v z)),fun t=>?_⟩,hg.da,⟨Kr (u / v) V,X8 U (Kr (-1 / v) (Za V X)),fun t=>?_⟩,hg.n⟩
    · have a1:=hX t; have a2:=hy t; have a3:=hz t
      rw [Qh,Qh] at a2 a3
      rw [Qh,Qh,Q5,Q9,Qi,Q5]
      have:Qg a t=1 / u*(u*Qg a t):=by grind
      rw [this,a1,a2,a3]; grind
    · have a1:=hX t; have a2:=hc t
      rw [Q5,Q9,Q5,Qi,a2]
      have:Qg (Xh a b) t=1 / v*(v*Qg (Xh a b) t):=by grind
      rw [this,show v*Qg (Xh a b) t=u*Qg a t-ev X t*Qg b t by grind,Rat.div_def,Rat.div_def,Rat.div_def]
      grind
theorem Ql6 {k:Nat} {a:List Int} (ta:Qm a) (ha:a.length≠0):∃ g,Ch (k+1) a []=some g∧Gc g a [] :=
  ⟨a,rfl,ta,dvd_refl _,⟨[],fun t=>by simp only [cz,List.map_nil,ev]; grind⟩,⟨[1],[],fun t=>by rw [Xj]; simp only [ev]; grind⟩,ha⟩
theorem Ci {s:Nat}:∀ (k:Nat) (a b:List Int),Qm a→Qm b→b.length<k→b.length<a.length→a.length≤60→Bd s a→Bd s b→(s+8)*3^(a.length-1)≤16777216→∃ g,Ch k a b=some g∧Gc g a b
  | 0,_,_,_,_,h,_,_,_,_,_=>by omega
  |
   k+1,a,b,ta,tb,hk,hab,hl,ba,bb,hs=>by
   by_cases hb:b.length=0
   · rw [List.eq_nil_of_length_eq_zero hb]; exact Ql6 ta (by omega)
   · obtain ⟨h1,h2,h3,_⟩:=Lp ta tb hb hl
     have h3:=h3 s ba bb
     obtain ⟨m,hm⟩:∃ m,m=a.length-b.length:=⟨_,rfl⟩
     have e1:a.length+1-b.length=m+1:=by omega
     rw [e1] at h3
     have e2:s+(m+1)*(s+8)+8=(m+2)*(s+8):=by
       rw [show m+2=(m+1)+1 by omega,Nat.succ_mul (m+1)]; omega
     have e3:(m+2)*(s+8)*3^(b.length-1)≤(s+8)*3^(a.length-1):=by
       rw [show a.length-1=m+(b.length-1) by omega,Nat.pow_add,←Nat.mul_assoc,Nat.mul_comm (s+8)]
       exact Nat.mul_le_mul_right _ (Nat.mul_le_mul_right _ (Q0k m (by omega)))
     have e4:s+(m+1)*(s+8)≤16777216:=by
       have:(m+2)*(s+8)≤(m+2)*(s+8)*3^(b.length-1):=Nat.le_mul_of_pos_right _ (Nat.pow_pos (by decide))
       omega
     refine Qf4 ta tb hb hl (by omega) (Qc h3 e4) (Ci (s:=s+(m+1)*(s+8)) k b (Xh a b) tb h1 (by omega) h2 (by omega) (Qc bb (by omega)) h3 ?_)
     rw [e2]; omega
def Szz (n s:Nat):Prop:=n≤10∧2*(s+8)*3^(n-1)≤16777216
theorem Qtm {n s:Nat} (hz:Szz n s) {a b:List Int} (ta:Qm a) (tb:Qm b) (la:a.length≤n) (lb:b.length≤n) (ba:Bd s a) (bb:Bd s b) (h0:a.length≠0∨b.length≠0):∃ g,Ch 66 a b=some g∧Gc g a b:=by
  obtain ⟨hn,hz⟩:=hz
  have hp:∀ l,l≤n→(s+8)*3^(l-1)≤8388608:=fun l hl=>by
    have:(s+8)*3^(l-1)≤(s+8)*3^(n-1):=Nat.mul_le_mul_left _ (Nat.pow_le_pow_right (by decide) (by omega))
    rw [Nat.mul_assoc] at hz; omega
  rcases Nat.lt_or_ge b.length a.length with h | h
  · exact Ci 66 a b ta tb (by omega) h (by omega) ba bb (by have:=hp a.length la; omega)
  · by_cases hb:b.length=0
    · rw [List.eq_nil_of_length_eq_zero hb]; exact Ql6 ta (by omega)
    · obtain ⟨h1,h2,h3,_⟩:=Lp ta tb hb (by omega)
      have h3:=h3 s ba bb
      have h4:(a.length+1-b.length)*(s+8)≤1*(s+8):=Nat.mul_le_mul_right _ (by omega)
      have h5:=hp b.length lb
      have h6:(s+8)*1≤(s+8)*3^(b.length-1):=Nat.mul_le_mul_left _ (Nat.pow_pos (by decide))
      refine Qf4 ta tb hb (by omega) (by omega) (Qc h3 (by omega)) (Ci (s:=2*s+8) 65 b (Xh a b) tb h1 (by omega) h2 (by omega) (Qc bb (by omega)) (Qc h3 (by omega)) ?_)
      rw [show 2*s+8+8=2*(s+8) by omega,Nat.mul_assoc]; omega
theorem O7:Qn []=[]:=rfl
theorem M4 {a:List Int} (ta:Qm a):Qm (Qn a)∧(Qn a).length=a.length∧(∀ s,Bd s a→Bd s (Qn a))∧∃ c:Rat,c≠0∧∀ t,Qg a t=c*Qg (Qn a) t:=by
  by_cases h:a.length=0
  · rw [List.eq_nil_of_length_eq_zero h]
    exact ⟨rfl,rfl,fun s _=>Nv,1,by decide,fun t=>by rw [O7]; grind⟩
  · obtain ⟨h1,h2,h3,h4,h5,h6,h7⟩:=Vr ta h
    exact ⟨h1,h2,h5,_,Rh h6,h7⟩
theorem Py {n s:Nat} (hz:Szz n s) {a b:List Int} (ta:Qm a) (tb:Qm b) (la:a.length≤n) (lb:b.length≤n) (ba:Bd s a) (bb:Bd s b) (h0:a.length≠0∨b.length≠0):∃ g,R7 a b=some g∧Gc g a b∧Prm g∧0<Qo g:=by
  obtain ⟨a1,a2,a3,x,xn,ax⟩:=M4 ta
  obtain ⟨b1,b2,b3,y,yn,bx⟩:=M4 tb
  obtain ⟨g,e,hg⟩:=Qtm hz a1 b1 (by omega) (by omega) (a3 s ba) (b3 s bb) (by omega)
  obtain ⟨g1,g2,g3,g4,g5,g6,g7⟩:=Vr hg.t hg.n
  refine ⟨Qn g,?_,hg.scale (Rh g6) xn yn g1 g7 ax bx,g3,g4⟩
  unfold R7; rw [e]; rfl
theorem Qnp {a:List Int} (ta:Qm a):R7 [] a=some (Qn (Qn a)):=by
  unfold R7
  rw [O7]
  by_cases h:(Qn a).length=0
  · have e:Qn a=[]:=List.eq_nil_of_length_eq_zero h
    rw [e]; rfl
  · have e:Xh [] (Qn a)=[]:=by
      have e1:J4 [] (Qn a)=[]:=by unfold J4; rw [show ([]:List Int).length+1-(Qn a).length=0 by simp; omega]; rfl
      unfold Xh
      rw [e1]
      unfold Ve
      split <;> rfl
    have:Ch 66 [] (Qn a)=some (Qn a):=by
      show (if (Qn a).length=0 then _ else _)=_
      rw [if_neg h,e]; rfl
    rw [this]; rfl
theorem Qqq {n s:Nat} (hz:Szz n s) {a b:List Int} (ta:Qm a) (tb:Qm b) (la:a.length≤n) (lb:b.length≤n) (ba:Bd s a) (bb:Bd s b) (h0:a.length≠0):∃ g,Qb7 a b=some g∧Gc g a b∧Prm g∧0<Qo g:=by
  obtain ⟨a1,a2,a3,x,xn,ax⟩:=M4 ta
  obtain ⟨b1,b2,b3,y,yn,bx⟩:=M4 a1
  obtain ⟨g,e,hg,h1,h2⟩:=Py hz b1 tb (by omega) lb (b3 s (a3 s ba)) bb (by omega)
  refine ⟨g,?_,hg.scale (x:=1) (y:=x*y) (z:=1) (by decide) (fun h=>(Rat.mul_eq_zero.1 h).elim xn yn) (by decide) hg.t (fun t=>by grind) (fun t=>by rw [ax,bx]; grind) (fun t=>by grind),h1,h2⟩
  unfold Qb7
  rw [Qnp ta]; exact e
theorem Ql4:∀ {p q:List Rat} {m n:Nat},HD p m→HD q n→(Za p q).getD (m+n) 0=p.getD m 0*q.getD n 0
  | [],q,m,n,h,_=>absurd (by simp) h.1
  |
   a::p,q,0,n,h,h'=>by
   have h1:∀ k,p.getD k 0=0:=fun k=>by have:=h.2 (k+1) (by omega); rwa [List.getD_cons_succ] at this
   simp only [Za]
   rw [Z9,X5,List.getD_cons_zero,Nat.zero_add]
   cases n with
   | zero=>rw [List.getD_cons_zero]; grind
   | succ n=>rw [List.getD_cons_succ,C7 h1]; grind
  |
   a::p,q,m+1,n,h,h'=>by
   have ih:=Ql4 (p:=p) (q:=q) (m:=m) ⟨by have:=h.1; rwa [List.getD_cons_succ] at this,fun k hk=>by have:=h.2 (k+1) (by omega); rwa [List.getD_cons_succ] at this⟩ h'
   simp only [Za]
   rw [Z9,X5,show m+1+n=(m+n)+1 by omega,List.getD_cons_succ,h'.2 _ (by omega),ih,List.getD_cons_succ]; grind
theorem Qeg {a b c:List Int} (ta:Qm a) (tb:Qm b) (tc:Qm c) (h:∀ t,Qg c t=Qg a t*Qg b t) (la:0<a.length) (lb:0<b.length):Qo c=Qo a*Qo b:=by
  have h1:=C6 ta la
  have h2:=C6 tb lb
  have h3:=Ql4 h1 h2
  have hl:=Yj ta tb tc h la lb
  rw [←Km (p:=cz c) (fun t=>by rw [Qi,Qh,Qh,Qh,h]),Yi,Yi,Yi,show a.length-1+(b.length-1)=c.length-1 by omega] at h3
  unfold Qo; exact_mod_cast h3
theorem Xm {a b c:List Int} (tc:Qm c) (hc:c.length≠0) (h:∀ t,Qg c t=Qg a t*Qg b t):0<a.length∧0<b.length:=by
  constructor
  · rcases Nat.eq_zero_or_pos a.length with e | e
    · exact absurd (fun t=>by rw [h,Ko e]; grind) (Cw tc (by omega))
    · exact e
  · rcases Nat.eq_zero_or_pos b.length with e | e
    · exact absurd (fun t=>by rw [h,Ko e]; grind) (Cw tc (by omega))
    · exact e
theorem Qb6 {b:List Int} (tb:Qm b) (hb:b.length≠0):∀ (i:Nat) (a q h:List Int),Qm a→Qm h→(∀ t,Qg a t=Qg b t*Qg h t)→a.length<b.length+i→i≤q.length→(∀ j,j<i→q.getD j 0=0)→∃ q',Qb5 b i a q=some q'∧q'.length=q.length∧∀ t,Qg q' t=Qg q t+Qg h t
  |
   0,a,q,h,ta,th,e,hl,_,_=>by
   have ha:a.length=0:=by
     rcases Nat.eq_zero_or_pos a.length with e' | e'
     · exact e'
     · obtain ⟨p1,p2⟩:=Xm ta (by omega) e
       have:=Yj tb th ta e p1 p2; omega
   refine ⟨q,by simp only [Qb5]; rw [if_pos ha],rfl,fun t=>?_⟩
   have:∀ t,Qg h t=0:=fun t=>by
     have:=Qgx (p:=cz b) (q:=cz h) (r:=[]) (fun h0=>Cw tb (by omega) fun t=>by rw [←Qh]; exact h0 t) (fun t=>by rw [Qh,Qh,←e,Ko ha]; simp only [ev]; grind) t
     rwa [Qh] at this
   rw [this]; grind
  |
   i+1,a,q,h,ta,th,e,hl,hq,h0=>by
   simp only [Qb5]
   by_cases hlt:a.length<b.length+i
   · rw [if_pos hlt]
     exact Qb6 tb hb i a q h ta th e hlt (by omega) fun j hj=>h0 j (by omega)
   · rw [if_neg hlt]
     obtain ⟨p1,p2⟩:=Xm ta (by omega) e
     have hln:=Yj tb th ta e p1 p2
     have hld:=Qeg tb th ta e p1 p2
     have hlb:=Wu tb hb
     rw [hld,if_pos (Int.mul_emod_right _ _),Int.mul_ediv_cancel_left _ hlb]
     have hli:h.length=i+1:=by omega
     have e2:∀ t,Qg (We a (Zn (Qp (mono i (Qo h))) b)) t=Qg b t*Qg (We h (mono i (Qo h))) t:=fun t=>by
       rw [Vq,Vq,Qy,K0,e]; grind
     have hl2:(We a (Zn (Qp (mono i (Qo h))) b)).length<b.length+i:=by
       have hl:=Qku (i:=i) (x:=Qo h) (b:=b) (a:=a)
       unfold sta at hl
       have:=Qrd (p:=We a (Zn (Qp (mono i (Qo h))) b)) (n:=b.length+i-1) (Zc _ _) (by omega) (by
         rw [Gj,Qk1,if_pos (by omega),show b.length+i-1-i=b.length-1 by omega,show b.length+i-1=a.length-1 by omega]
         have:Qo a=a.getD (a.length-1) 0:=rfl
         rw [←this,hld]
         unfold Qo
         rw [Int.mul_comm,Int.sub_eq_zero])
       omega
     obtain ⟨q',h1,h2,h3⟩:=Qb6 tb hb i _ (q.set i (Qo h)) (We h (mono i (Qo h))) (Zc _ _) (Zc _ _) e2 hl2 (by simp; omega) fun j hj=>by
       rw [List.getD_eq_getElem?_getD,List.getElem?_set,if_neg (by omega),←List.getD_eq_getElem?_getD]
       exact h0 j (by omega)
     refine ⟨q',h1,by rw [h2,List.length_set],fun t=>?_⟩
     rw [h3,Qb4 q i _ t (by omega),h0 i (by omega),Vq,Rw]
     push_cast; grind
theorem Qsn {a b h:List Int} {s:Nat} (ta:Qm a) (tb:Qm b) (th:Qm h) (ha:a.length≠0) (la:a.length≤10) (ba:Bd s a) (hs:s+69≤16777216) (e:∀ t,Qg a t=Qg b t*Qg h t):Ry a b=some h:=by
  obtain ⟨p1,p2⟩:=Xm ta ha e
  have hln:=Yj tb th ta e p1 p2
  obtain ⟨q,h1,h2,h3⟩:=Qb6 tb (by omega) (a.length+1-b.length) a (List.replicate (a.length+1-b.length) 0) h ta th e (by omega) (by simp) fun j _=>Uk _ _
  have h4:Qp q=h:=Qlh (Z2 _) th fun t=>by rw [K0,h3,O4]; grind
  unfold Ry
  rw [if_neg (by omega),h1]
  show chk (Qp q)=_
  rw [h4]
  exact Ue (by omega) (Qc (Re ba la ta th tb ha fun t=>by rw [e]; grind) (by omega))
end Orq

namespace Orq
open Orr Go
structure Pr1 (p:List Int):Prop where
  t:Qm p
  m:Prm p
  l:0<Qo p
theorem Pr1.n {p:List Int} (h:Pr1 p):p.length≠0:=fun e=>by
  have:=h.l
  rw [List.eq_nil_of_length_eq_zero e] at this
  exact absurd this (by decide)
theorem Pr1.one {p:List Int} (h:Pr1 p) (hl:p.length<2):p=[1]:=by
  have hn:=h.n
  obtain ⟨c,rfl⟩:∃ c,p=[c]:=List.length_eq_one_iff.1 (by omega)
  have h1:=h.m c fun k=>by cases k <;> simp
  have h2:0<c:=h.l
  have:=Int.le_of_dvd (by decide) h1
  rw [show c=1 by omega]
theorem Qwh {p g h:List Int} (hp:Prm p) (e:∀ t,Qg p t=Qg g t*Qg h t):Prm h:=fun d hd=>by
  refine hp d fun k=>?_
  have:=Kz (p:=p) (q:=Zn g h) (fun t=>by rw [e,Qy]) k
  rw [this]
  have e2:∀ t,Qg (Zn g h) t=(d:Rat)*Qg (Zn g (h.map (· / d))) t:=fun t=>by
    have h1:Qg h t=(d:Rat)*Qg (h.map (· / d)) t:=by
      have:=Vp d 0 t (max h.length (h.map (· / d)).length) (h.map (· / d)) [] h (by omega) (by simp) (by omega) fun k=>by
        rw [Md,Int.mul_ediv_cancel' (hd k)]; simp
      rw [this]; simp only [Qg]; push_cast; grind
    rw [Qy,Qy,h1]; grind
  have:=Kz (p:=Zn g h) (q:=Zo (Zn g (h.map (· / d))) d) (fun t=>by rw [e2,Xl]; grind) k
  rw [this,Yb]; exact Int.dvd_mul_left _ _
theorem Qwg {p g h:List Int} (hp:Pr1 p) (hg:0<Qo g) (tg:Qm g) (th:Qm h) (e:∀ t,Qg p t=Qg g t*Qg h t):Pr1 h:=by
  obtain ⟨p1,p2⟩:=Xm hp.t hp.n e
  have:=Qeg tg th hp.t e p1 p2
  refine ⟨th,Qwh hp.m e,?_⟩
  have hl:=hp.l
  rw [this] at hl
  rcases Int.lt_trichotomy (Qo h) 0 with h1 | h1 | h1
  · have:=Int.mul_neg_of_pos_of_neg hg h1; omega
  · rw [h1] at hl; omega
  · exact h1
structure Sqp (p g q:List Int):Prop where
  pp:Pr1 p
  pg:Pr1 g
  pq:Pr1 q
  e:∀ t,Qg p t=Qg g t*Qg q t
  c:∃ U V,∀ t,Qg g t=ev U t*Qg p t+ev V t*dv (cz p) t
  d:∃ z,∀ t,dv (cz p) t=Qg g t*ev z t
theorem Sqp.num {p g q:List Int} (h:Sqp p g q) {d:List Rat} (h1:Ht d (cz q)) (h2:Ht d (Y5 (cz q))):∃ c:Rat,c≠0∧∀ t,ev d t=c:=by
  obtain ⟨U,V,hc⟩:=h.c
  have hpow:=sqf (k:=1) (a:=cz p) (g:=cz g) (q:=cz q) (d:=d) (U:=U) (V:=V) (by decide) (fun t=>by rw [Qh,Qh,Qh,h.e]) (fun t=>by rw [Qh,Qh,hc]; grind) h1 h2
  rcases Ae d with h3 | ⟨m,_,h3⟩
  · obtain ⟨u,hu⟩:=h1
    exact absurd (fun t=>by rw [←Qh,hu,h3]; grind) (Cw h.pq.t (by have:=h.pq.n; omega))
  · obtain rfl:=O6 h3 (C6 h.pg.t (by have:=h.pg.n; omega)) hpow
    refine ⟨d.getD 0 0,h3.1,fun t=>?_⟩
    cases d with
    | nil=>exact absurd (by simp) h3.1
    |
     cons c l =>
     have:=Kw (p:=l) fun k=>by have:=h3.2 (k+1) (by omega); rwa [List.getD_cons_succ] at this
     simp only [ev,this,List.getD_cons_zero]; grind
theorem Sqp.bez {p g q:List Int} (h:Sqp p g q):∃ X Y,∀ t,ev X t*ev (cz q) t+ev Y t*dv (cz q) t=1:=by
  obtain ⟨d,U,V,h1,h2,h3⟩:=Qqp (cz q) (Y5 (cz q))
  obtain ⟨c,hc,hd⟩:=h.num h1 h2
  refine ⟨Kr (1 / c) U,Kr (1 / c) V,fun t=>?_⟩
  have h5:=h3 t
  rw [hd,Xs] at h5
  have h4:1 / c*c=1:=Rat.div_mul_cancel hc
  rw [Q5,Q5]
  have:1 / c*ev U t*ev (cz q) t+1 / c*ev V t*dv (cz q) t=1 / c*(ev U t*ev (cz q) t+ev V t*dv (cz q) t):=by grind
  rw [this,←h5,h4]
theorem Qth {n s:Nat} (h:Szz n s):s≤8388600:=by
  have:2*(s+8)*1≤2*(s+8)*3^(n-1):=Nat.mul_le_mul_left _ (Nat.pow_pos (by decide))
  have:=h.2; omega
theorem Qgl {s:Nat} {p:List Int} (h:Bd s p) (hl:p.length≤10):Bd (s+4) (Zv p):=Qi9 h (t:=4) (by omega)
theorem Ql0 {n s:Nat} (hz:Szz n (s+73)) {p:List Int} (pp:Pr1 p) (l2:2≤p.length) (lp:p.length≤n) (bp:Bd (s+69) p) {p0 h0:List Int} (b0:Bd s p0) (l0:p0.length≤10) (t0:Qm p0) (th0:Qm h0) (z0:p0.length≠0) (e0:∀ t,Qg p0 t=Qg h0 t*Qg p t) :
    ∃ g q,chk (Zv p)=some (Zv p)∧R7 p (Zv p)=some g∧Ry p g=some q∧Sqp p g q∧g.length<p.length:=by
  have hn:=hz.1
  have hs:=Qth hz
  have bd:=Qgl bp (by omega)
  have ld:=Ky p
  have td:Qm (Zv p):=Zc _ _
  obtain ⟨g,e1,hg,m,l⟩:=Py hz pp.t td lp (by omega) (Qc bp (by omega)) bd (.inl pp.n)
  obtain ⟨q,tq,eq⟩:=Qqi m hg.da
  have hdnz:(Zv p).length≠0:=fun h=>by
    have h1:=Vb p (p.length-2)
    rw [List.eq_nil_of_length_eq_zero h,show p.length-2+1=p.length-1 by omega] at h1
    have h2:p.getD (p.length-1) 0≠0:=Xi pp.t (by omega)
    rcases Int.mul_eq_zero.1 (h1.symm.trans (by simp)) with h3 | h3
    · exact h2 h3
    · omega
  have pg:Pr1 g:=⟨hg.t,m,l⟩
  have hql:=Qsn (s:=s+69) pp.t hg.t tq pp.n (by omega) bp (by omega) eq
  refine ⟨g,q,Ue (by omega) (Qc bd (by omega)),e1,hql,⟨pp,pg,Qwg pp l hg.t tq eq,eq,?_,?_⟩,?_⟩
  · obtain ⟨U,V,hc⟩:=hg.c
    exact ⟨U,V,fun t=>by rw [hc,Gf]⟩
  · obtain ⟨z,hz⟩:=hg.db
    exact ⟨z,fun t=>by rw [←Gf,←Qh,hz,Qh]⟩
  · obtain ⟨z,tz,ez⟩:=Qqi m hg.db
    obtain ⟨q1,q2⟩:=Xm td hdnz ez
    have:=Yj hg.t tz td ez q1 q2
    omega
theorem Qwb:Sqp [1] [1] [1]:=by
  have p1:Pr1 [1]:=⟨rfl,fun d hd=>by have:=hd 0; rwa [List.getD_cons_zero] at this,by decide⟩
  have e1:∀ t,Qg [1] t=1:=fun t=>by simp only [Qg]; push_cast; grind
  exact ⟨p1,p1,p1,fun t=>by rw [e1]; grind,⟨[1],[],fun t=>by rw [e1,Xj]; simp only [ev]; grind⟩,⟨[],fun t=>by simp only [cz,List.map_cons,List.map_nil,dv,ev]; grind⟩⟩
structure Okp (n s:Nat) (p:List Int):Prop where
  z:Szz n (s+73)
  t:Qm p
  nz:p.length≠0
  l:p.length≤n
  b:Bd s p
theorem Okp.pr {n s:Nat} {p:List Int} (h:Okp n s p):Pr1 (Qn p)∧(Qn p).length=p.length∧Bd s (Qn p):=by
  obtain ⟨h1,h2,h3,h4,h5,_⟩:=Vr h.t h.nz
  exact ⟨⟨h1,h3,h4⟩,h2,h5 s h.b⟩
theorem Tz {n s:Nat} {p:List Int} (h:Okp n s p):∃ g q,Yk p=some q∧Sqp (Qn p) g q:=by
  obtain ⟨pp,hl,hb⟩:=h.pr
  have hn:=h.z.1
  have:=h.l
  unfold Yk
  by_cases h2:(Qn p).length<2
  · rw [if_pos h2,pp.one h2]; exact ⟨[1],[1],rfl,Qwb⟩
  · rw [if_neg h2]
    obtain ⟨g,q,h3,h4,h5,h6,_⟩:=Ql0 h.z pp (by omega) (by omega) (Qc hb (by omega)) (p0:=Qn p) (h0:=[1]) hb (by omega) pp.t rfl pp.n fun t=>by simp only [Qg]; push_cast; grind
    exact ⟨g,q,by rw [h3]; show (R7 (Qn p) (Zv (Qn p))).bind _=_; rw [h4]; exact h5,h6⟩
inductive LW:List Int→List (List Int)→Prop
  | nil:LW [1] []
  | cons {g h w:List Int} {ws:List (List Int)} (hs:Sqp g h w) (hl:LW h ws):LW g (w::ws)
theorem Q0a {g:List Int} {ws:List (List Int)} (h:LW g ws):∀ t,Qg g t=ev (Gd (ws.map cz)) t:=by
  induction h with
  | nil=>intro t; simp only [List.map_nil,Gd,Qg]; rw [Xj]; push_cast; grind
  | cons hs hl ih=>intro t; simp only [List.map_cons,Gd]; rw [Qi,Qh,hs.e,ih]; grind
theorem Qk0 {g:List Int} {w v:List Int} {ws:List (List Int)} (h:LW g (w::v::ws)):∃ f,Qm f∧∀ t,Qg w t=Qg f t*Qg v t:=by
  cases h with
  |
   @cons _ h _ _ hs hl =>
   cases hl with
   |
    @cons _ h2 _ _ hs2 hl2 =>
    obtain ⟨X,Y,hb⟩:=hs2.bez
    obtain ⟨z,hz⟩:=hs.d
    have hd:=Qwy (a:=cz g) (g:=cz h) (q:=cz w) (z:=z) (r:=cz v) (X:=X) (Y:=Y) (n:=h.length-1) (fun t=>by rw [Qh,Qh,Qh,hs.e]) (fun t=>by rw [hz,Qh]) (C6 hs.pg.t (by have:=hs.pg.n; omega)) hb
      ⟨Za (cz h2) (cz w),fun t=>by rw [Qi,Qh,Qh,Qh,Qh,hs.e,hs2.e]; grind⟩
    obtain ⟨f,tf,ef⟩:=Qqi hs2.pq.m hd
    exact ⟨f,tf,fun t=>by rw [ef]; grind⟩
theorem Qem {g w:List Int} {ws:List (List Int)} (h:LW g (w::ws)):∀ v∈w::ws,Pr1 v∧Ht (cz v) (cz w):=by
  have key:∀ (ws:List (List Int)) (g w:List Int),LW g (w::ws)→∀ v∈w::ws,Pr1 v∧Ht (cz v) (cz w):=by
    intro ws
    induction ws with
    |
     nil =>
     intro g w h v hv
     rw [List.mem_singleton.1 hv]
     cases h with
     | cons hs hl=>exact ⟨hs.pq,dvd_refl _⟩
    |
     cons u ws ih =>
     intro g w h v hv
     have hn:=Qk0 h
     cases h with
     |
      @cons _ h _ _ hs hl =>
      rcases List.mem_cons.1 hv with rfl | hv
      · exact ⟨hs.pq,dvd_refl _⟩
      · obtain ⟨i1,i2⟩:=ih h u hl v hv
        obtain ⟨f,_,hf⟩:=hn
        exact ⟨i1,dvd_trans i2 ⟨cz f,fun t=>by rw [Qh,Qh,Qh,hf]; grind⟩⟩
  exact key ws g w h
theorem lay_ok {n s:Nat} (hz:Szz n (s+73)) {p0:List Int} (b0:Bd s p0) (l0:p0.length≤10) (t0:Qm p0) (z0:p0.length≠0):∀ (k:Nat) (g h0:List Int),Pr1 g→g.length≤k→g.length≤n→Qm h0→(∀ t,Qg p0 t=Qg h0 t*Qg g t)→∃ ws,Bv k g=some ws∧LW g ws
  | 0,g,_,pg,hk,_,_,_=>absurd pg.n (by omega)
  |
   k+1,g,h0,pg,hk,hn,th0,e0=>by
   simp only [Bv]
   by_cases h2:g.length<2
   · rw [if_pos h2,pg.one h2]; exact ⟨[],rfl,.nil⟩
   · rw [if_neg h2]
     have bg:Bd (s+69) g:=Re b0 l0 t0 pg.t th0 z0 fun t=>by rw [e0]; grind
     obtain ⟨h,w,h3,h4,h5,h6,h7⟩:=Ql0 hz pg (by omega) hn bg b0 l0 t0 th0 z0 e0
     obtain ⟨ws,i1,i2⟩:=lay_ok hz b0 l0 t0 z0 k h (Zn h0 w) h6.pg (by omega) (by omega) (Z0 _ _) fun t=>by rw [e0,Qy,h6.e]; grind
     refine ⟨w::ws,?_,.cons h6 i2⟩
     rw [h3]
     show (R7 g (Zv g)).bind _=_
     rw [h4]
     show (Ry g h).bind _=_
     rw [h5]
     show (Bv k h).bind _=_
     rw [i1]; rfl
theorem Qqd {s:Nat} {p0:List Int} (b0:Bd s p0) (l0:p0.length≤10) (t0:Qm p0) (z0:p0.length≠0) (hs:s+69+69≤16777216):∀ (ws:List (List Int)) (g h0:List Int),LW g ws→Qm h0→(∀ t,Qg p0 t=Qg h0 t*Qg g t)→∃ fs,Iu ws=some fs∧Lay (ws.map cz) (fs.map cz)∧∀ f∈fs,Qm f
  | [],g,_,_,_,_=>⟨[],rfl,trivial,fun f hf=>by cases hf⟩
  |
   [w],g,_,hl,_,_=>by
   cases hl with
   | cons hs hl=>exact ⟨[w],rfl,fun t=>rfl,fun f hf=>by rw [List.mem_singleton.1 hf]; exact hs.pq.t⟩
  |
   w::v::ws,g,h0,hl,th0,e0=>by
   obtain ⟨f,tf,ef⟩:=Qk0 hl
   cases hl with
   |
    @cons _ h _ _ hs1 hl =>
    have hpv:=(Qem hl v (List.mem_cons_self ..)).1
    obtain ⟨fs,i1,i2,i3⟩:=Qqd b0 l0 t0 z0 hs (v::ws) h (Zn h0 w) hl (Z0 _ _) fun t=>by rw [e0,Qy,hs1.e]; grind
    have ew:∀ t,Qg p0 t=Qg w t*Qg (Zn h0 h) t:=fun t=>by rw [e0,Qy,hs1.e]; grind
    have bw:Bd (s+69) w:=Re b0 l0 t0 hs1.pq.t (Z0 _ _) z0 ew
    obtain ⟨p1,p2⟩:=Xm t0 z0 ew
    have lw:=Yj hs1.pq.t (Z0 _ _) t0 ew p1 p2
    have hq:=Qsn (s:=s+69) hs1.pq.t hpv.t tf hs1.pq.n (by omega) bw hs fun t=>by rw [ef]; grind
    refine ⟨f::fs,?_,⟨fun t=>by rw [Qh,Qh,Qh,ef],i2⟩,fun x hx=>?_⟩
    · show (Ry w v).bind _=_
      rw [hq]
      show (Iu (v::ws)).bind _=_
      rw [i1]; rfl
    · rcases List.mem_cons.1 hx with rfl | hx
      · exact tf
      · exact i3 x hx
def Yq:List (List Int)→List Int
  | []=>[1]
  | [f]=>f
  | f::_::l=>Zn f (Yq l)
theorem Qey:∀ (fs:List (List Int)) (t:Rat),ev (Do (fs.map cz)) t=Qg (Yq fs) t
  | [],t=>by simp only [List.map_nil,Do,Yq,Qg]; rw [Xj]; push_cast; grind
  | [f],t=>by simp only [List.map_cons,List.map_nil,Do,Yq]; rw [Qh]
  | f::g::l,t=>by simp only [List.map_cons,Do,Yq]; rw [Qi,Qh,Qy,Qey l]
theorem Yx (t:Rat):Qg [1] t=1:=by simp only [Qg]; push_cast; grind
theorem Og:∀ {w:List Int} {ws fs:List (List Int)},Lay ((w::ws).map cz) (fs.map cz)→(∀ f∈fs,Qm f)→(∀ v∈w::ws,Qm v)→∃ E,Qm E∧∀ t,Qg w t=Qg (Yq fs) t*Qg E t
  |
   w,[],[f],h,_,_=>⟨[1],rfl,fun t=>by
   have:=h t
   rw [Qh,Qh] at this
   rw [this,Yx]; simp only [Yq]; grind⟩
  |
   w,[v],[f,f2],h,_,hw=>⟨v,hw v (by simp),fun t=>by
   have:=h.1 t
   rw [Qh,Qh,Qh] at this
   rw [this]; simp only [Yq]; rw [Qy,Yx]; grind⟩
  |
   w,v::x::l,f::f2::fs,h,hf,hw=>by
   obtain ⟨E,hE,e⟩:=Og (w:=x) (ws:=l) (fs:=fs) h.2.2 (fun g hg=>hf g (by simp [hg])) (fun g hg=>hw g (by simp at hg ⊢; exact .inr (.inr hg)))
   refine ⟨Zn f2 E,Z0 _ _,fun t=>?_⟩
   have a1:=h.1 t
   have a2:=h.2.1 t
   rw [Qh,Qh,Qh] at a1 a2
   have e2:Qg (Yq (f::f2::fs)) t=Qg f t*Qg (Yq fs) t:=by simp only [Yq]; rw [Qy]
   rw [a1,a2,e,e2,Qy]; grind
  | w,[],[],h,_,_=>h.elim
  | w,[],_::_::_,h,_,_=>h.elim
  | w,[v],[],h,_,_=>h.elim
  | w,[v],[f],h,_,_=>h.2.elim
  | w,[v],_::_::_::_,h,_,_=>h.2.elim
  | w,v::x::l,[f],h,_,_=>h.2.elim
  | w,v::x::l,[],h,_,_=>h.elim
theorem Tu {s:Nat} {p0:List Int} (b0:Bd s p0) (l0:p0.length≤10) (t0:Qm p0) (z0:p0.length≠0) (hs:s+69≤16777216):∀ (fs:List (List Int)) (i:Nat) (a E:List Int),i % 2=0→Qm a→Qm E→(∀ f∈fs,Qm f)→(∀ t,Qg p0 t=Qg a t*Qg (Yq fs) t*Qg E t)→∃ o,Mt i a fs=some o∧Qm o∧∀ t,Qg o t=Qg a t*Qg (Yq fs) t
  | [],i,a,E,hi,ta,_,_,_=>⟨a,rfl,ta,fun t=>by simp only [Yq]; rw [Yx]; grind⟩
  |
   [f],i,a,E,hi,ta,tE,tf,hE=>by
   have e1:∀ t,Qg p0 t=Qg (Zn a f) t*Qg E t:=fun t=>by rw [hE,Qy]; rfl
   have b1:=Re b0 l0 t0 (Z0 a f) tE z0 e1
   obtain ⟨p1,p2⟩:=Xm t0 z0 e1
   have hl:=Yj (Z0 a f) tE t0 e1 p1 p2
   refine ⟨Zn a f,?_,Z0 _ _,fun t=>by rw [Qy]; rfl⟩
   simp only [Mt]
   rw [if_pos hi,Ue (by omega) (Qc b1 (by omega))]; rfl
  |
   f::g::fs,i,a,E,hi,ta,tE,tf,hE=>by
   have e0:∀ t,Qg (Yq (f::g::fs)) t=Qg f t*Qg (Yq fs) t:=fun t=>by simp only [Yq]; rw [Qy]
   have e1:∀ t,Qg p0 t=Qg (Zn a f) t*Qg (Zn (Yq fs) E) t:=fun t=>by rw [hE,e0,Qy,Qy]; grind
   have b1:=Re b0 l0 t0 (Z0 a f) (Z0 _ _) z0 e1
   obtain ⟨p1,p2⟩:=Xm t0 z0 e1
   have hl:=Yj (Z0 a f) (Z0 _ _) t0 e1 p1 p2
   obtain ⟨o,o1,o2,o3⟩:=Tu b0 l0 t0 z0 hs fs (i+2) (Zn a f) E (by omega) (Z0 _ _) tE (fun x hx=>tf x (by simp [hx])) fun t=>by rw [hE,e0,Qy]; grind
   refine ⟨o,?_,o2,fun t=>by rw [o3,e0,Qy]; grind⟩
   have h1:Mt (i+1) (Zn a f) (g::fs)=Mt (i+2) (Zn a f) fs:=by
     show (if (i+1) % 2=0 then _ else _)=_
     rw [if_neg (by omega)]
   show (if i % 2=0 then (chk (Zn a f)).bind fun q=>Mt (i+1) q (g::fs) else _)=_
   rw [if_pos hi,Ue (by omega) (Qc b1 (by omega))]
   exact h1.trans o1
structure Parts (p q o:List Int):Prop where
  sq:∃ g,Sqp (Qn p) g q
  ws:∃ ws:List (List Int),(∀ w∈ws,Pr1 w∧Ht (cz w) (cz q))∧∀ t,Qg (Qn p) t=ev (Gd (ws.map cz)) t
  oq:Ht (cz o) (cz q)
  ot:Qm o
  oh:∃ h,Qm h∧∀ t,Qg (Qn p) t=Qg o t*Qg h t
  os:∃ S,∀ t,Qg (Qn p) t=Qg o t*(ev S t*ev S t)
theorem Qrv {n s:Nat} {p:List Int} (h:Okp n s p):∃ q o,Yk p=some q∧Qhv p=some o∧Parts p q o:=by
  obtain ⟨pp,hl,hb⟩:=h.pr
  have hn:=h.z.1
  have Mg:=h.l
  have hs:=Qth h.z
  obtain ⟨g,q,hq,sq⟩:=Tz h
  obtain ⟨ws,w1,w2⟩:=lay_ok h.z hb (by omega) pp.t pp.n 66 (Qn p) [1] pp (by omega) (by omega) rfl fun t=>by rw [Yx]; grind
  obtain ⟨fs,f1,f2,f3⟩:=Qqd hb (by omega) pp.t pp.n (by omega) ws (Qn p) [1] w2 rfl fun t=>by rw [Yx]; grind
  have hw:=Q0a w2
  -- the first layer is q
  have hfirst:(∀ w∈ws,Pr1 w∧Ht (cz w) (cz q))∧∃ E,Qm E∧∀ t,Qg q t=Qg (Yq fs) t*Qg E t:=by
    cases ws with
    |
     nil =>
     have e:fs=[]:=by
       cases fs with
       | nil=>rfl
       | cons f l=>exact f2.elim
     subst e
     exact ⟨(fun w hw=>by cases hw),q,sq.pq.t,fun t=>by simp only [Yq]; rw [Yx]; grind⟩
    |
     cons w ws =>
     have hwq:w=q:=by
       have w3:(if (Qn p).length<2 then some [] else (chk (Zv (Qn p))).bind fun d=>(R7 (Qn p) d).bind fun h=>(Ry (Qn p) h).bind fun w=>(Bv 65 h).bind fun l=>some (w::l))=some (w::ws):=w1
       have hlen:¬(Qn p).length<2:=fun h2=>by
         rw [if_pos h2] at w3
         injection w3 with w3
         cases w3
       rw [if_neg hlen] at w3
       unfold Yk at hq
       rw [if_neg hlen] at hq
       obtain ⟨d,d1,w3⟩:=Option.bind_eq_some_iff.1 w3
       obtain ⟨h,d2,w3⟩:=Option.bind_eq_some_iff.1 w3
       obtain ⟨w',d3,w3⟩:=Option.bind_eq_some_iff.1 w3
       obtain ⟨l,d4,w3⟩:=Option.bind_eq_some_iff.1 w3
       rw [d1] at hq
       have hq:(R7 (Qn p) d).bind (fun g=>Ry (Qn p) g)=some q:=hq
       rw [d2] at hq
       have hq:Ry (Qn p) h=some q:=hq
       rw [d3] at hq
       injection hq with hq
       injection w3 with w3
       injection w3 with w3 _
       rw [←w3,hq]
     subst hwq
     have hall:=Qem w2
     exact ⟨hall,Og f2 f3 fun v hv=>(hall v hv).1.t⟩
  obtain ⟨ha,E,tE,hE⟩:=hfirst
  obtain ⟨o,o1,o2,o3⟩:=Tu hb (by omega) pp.t pp.n (by omega) fs 0 [1] (Zn E g) rfl rfl (Z0 _ _) f3 fun t=>by rw [Yx,Qy,sq.e,hE]; grind
  have o3:∀ t,Qg o t=Qg (Yq fs) t:=fun t=>by rw [o3,Yx]; grind
  refine ⟨q,o,hq,?_,⟨g,sq⟩,⟨ws,ha,hw⟩,⟨cz E,fun t=>by rw [Qh,Qh,Qh,hE,o3]⟩,o2,⟨Zn E g,Z0 _ _,fun t=>by rw [sq.e,hE,o3,Qy]; grind⟩,?_⟩
  · unfold Qhv
    rw [if_neg pp.n,w1]
    show (Iu ws).bind _=_
    rw [f1]; exact o1
  · obtain ⟨S,hS⟩:=Qkr f2
    exact ⟨S,fun t=>by rw [hw,hS,Qey,o3]⟩
theorem Qju {s:Nat}:∀ (k:Nat) (a b:List Int),Qm a→Qm b→b.length≠0→b.length<k→b.length<a.length→a.length≤60→Bd s a→Bd s b→(s+8)*3^(a.length-1)≤16777216→(∀ d,Ht d (cz a)→Ht d (cz b)→∃ c:Rat,c≠0∧∀ t,ev d t=c)→∃ l,chF k a b=some (b::l)∧SCl (cz a) (cz b) (l.map cz)
  | 0,_,_,_,_,_,h,_,_,_,_,_,_=>by omega
  |
   k+1,a,b,ta,tb,hb,hk,hab,hl,ba,bb,hs,hd=>by
   obtain ⟨h1,h2,h3,u,v,up,vp,X,hX⟩:=Lp ta tb hb hl
   have h3:=h3 s ba bb
   obtain ⟨m,hm⟩:∃ m,m=a.length-b.length:=⟨_,rfl⟩
   have e1:a.length+1-b.length=m+1:=by omega
   rw [e1] at h3
   have e2:s+(m+1)*(s+8)+8=(m+2)*(s+8):=by
     rw [show m+2=(m+1)+1 by omega,Nat.succ_mul (m+1)]; omega
   have e3:(m+2)*(s+8)*3^(b.length-1)≤(s+8)*3^(a.length-1):=by
     rw [show a.length-1=m+(b.length-1) by omega,Nat.pow_add,←Nat.mul_assoc,Nat.mul_comm (s+8)]
     exact Nat.mul_le_mul_right _ (Nat.mul_le_mul_right _ (Q0k m (by omega)))
   have e4:s+(m+1)*(s+8)≤16777216:=by
     have:(m+2)*(s+8)≤(m+2)*(s+8)*3^(b.length-1):=Nat.le_mul_of_pos_right _ (Nat.pow_pos (by decide))
     omega
   simp only [chF]
   rw [if_neg hb,Ue (by omega) (Qc h3 e4)]
   show ∃ l,((chF k b (Uv (Xh a b))).bind fun l=>some (b::l))=some (b::l)∧_
   have lneg:(Uv (Xh a b)).length≤(Xh a b).length:=Aq _
   by_cases hr:(Xh a b).length=0
   · have e:Uv (Xh a b)=[]:=List.eq_nil_of_length_eq_zero (by omega)
     rw [e]
     refine ⟨[],?_,?_⟩
     · obtain ⟨j,rfl⟩:∃ j,k=j+1:=⟨k-1,by omega⟩
       rfl
     · obtain ⟨c,hc,hcc⟩:=hd (cz b) ⟨Kr (1 / u) X,fun t=>by
         have:=hX t
         rw [Ko hr] at this
         have hu:1 / u*u=1:=Zh up
         rw [Qh,Qh,Q5]
         have:Qg a t=1 / u*(u*Qg a t):=by grind
         rw [this,hX,Ko hr]; grind⟩ (dvd_refl _)
       exact .base hc hcc
   · have tn:Qm (Uv (Xh a b)):=Zc _ _
     have hn0:(Uv (Xh a b)).length≠0:=fun h0=>by
       have:=Hd (c:=-1) h1 tn (by decide) fun t=>by rw [My]; grind
       omega
     obtain ⟨l,i1,i2⟩:=Qju (s:=s+(m+1)*(s+8)) k b (Uv (Xh a b)) tb tn hn0 (by omega) (by omega) (by omega) (Qc bb (by omega)) (Qav h3) (by rw [e2]; omega) fun d d1 d2=>by
       refine hd d ?_ d1
       obtain ⟨y,hy⟩:=d1
       obtain ⟨z,hz⟩:=d2
       have hu:1 / u*u=1:=Zh up
       refine ⟨Kr (1 / u) (X8 (Za X y) (Kr (-v) z)),fun t=>?_⟩
       have a1:=hX t; have a2:=hy t; have a3:=hz t
       rw [Qh] at a2 a3
       rw [My] at a3
       rw [Qh,Q5,Q9,Qi,Q5]
       have:Qg a t=1 / u*(u*Qg a t):=by grind
       rw [this,a1,a2,show Qg (Xh a b) t=-(ev d t*ev z t) by grind]; grind
     refine ⟨Uv (Xh a b)::l,by rw [i1]; rfl,?_⟩
     rw [List.map_cons]
     exact .step (q:=X) up vp (fun t=>by rw [Qh,Qh,Qh,hX,My]; clear i2 i1 hd h3 hs; grind) i2
theorem Px (x:Rat):∀ (l:List (List Int)) (n:Nat) (s:Int),(l.foldl (Jq fun p=>Xb p x) (n,s)).1=n+tc x s (l.map cz)
  | [],n,s=>rfl
  |
   p::l,n,s=>by
   simp only [List.foldl_cons,List.map_cons,tc,Jq]
   rw [Vs,Qh]
   split
   · exact Px x l n s
   · rw [Px x l]
     split <;> omega
theorem Hi (l:List (List Int)) (x:Rat):V2 l x=vv (l.map cz) x:=by
  have:=Px x l 0 0
  unfold V2 V1 vv
  rw [this]; omega
theorem Qpm {n s:Nat} (hz:Szz n (s+73)) {P g q:List Int} (sq:Sqp P g q) (lq:q.length≤n) (bq:Bd (s+69) q):∃ d,chk (Zv q)=some d∧∃ l,chF 66 q (Qn d)=some l∧Dk (cz q) ((q::l).map cz)∧(q.length<2→l=[]):=by
  have hn:=hz.1
  have hs:=Qth hz
  have bd:=Qgl bq (by omega)
  have ld:=Ky q
  refine ⟨Zv q,Ue (by omega) (Qc bd (by omega)),?_⟩
  have hq0:=sq.pq.n
  by_cases h2:q.length<2
  · have e:Qn (Zv q)=[]:=by rw [List.eq_nil_of_length_eq_zero (l:=Zv q) (by omega)]; rfl
    rw [e]
    refine ⟨[],rfl,.inl ⟨1,by decide,fun t=>?_,rfl⟩,fun _=>rfl⟩
    rw [Qh,sq.pq.one h2,Yx]
  · have hdnz:(Zv q).length≠0:=fun h=>by
      have h1:=Vb q (q.length-2)
      rw [List.eq_nil_of_length_eq_zero h,show q.length-2+1=q.length-1 by omega] at h1
      have h3:q.getD (q.length-1) 0≠0:=Xi sq.pq.t (by omega)
      rcases Int.mul_eq_zero.1 (h1.symm.trans (by simp)) with h4 | h4
      · exact h3 h4
      · omega
    obtain ⟨p1,p2,p3,p4,p5,p6,p7⟩:=Vr (p:=Zv q) (Zc _ _) hdnz
    have hdl:Qo (Zv q)=Qo q*((q.length-1:Nat):Int):=by
      have hld:(Zv q).length=q.length-1:=by
        rcases Nat.lt_or_ge (Zv q).length (q.length-1) with h | h
        · have h1:=Vb q (q.length-2)
          rw [List.getD_eq_getElem?_getD,List.getElem?_eq_none (by omega),show q.length-2+1=q.length-1 by omega] at h1
          have h3:q.getD (q.length-1) 0≠0:=Xi sq.pq.t (by omega)
          rcases Int.mul_eq_zero.1 (h1.symm.trans (by simp)) with h4 | h4
          · exact absurd h4 h3
          · omega
        · omega
      unfold Qo
      rw [hld,Vb,show q.length-1-1+1=q.length-1 by omega]
    have hfac:0<Zr (Zv q):=by
      have hlp:0<Qo (Zv q):=by rw [hdl]; exact Int.mul_pos sq.pq.l (by omega)
      have hc:=Rv (p:=Zv q) (Zc _ _) hdnz
      unfold Zr
      rw [if_neg (by omega)]
      unfold Jl at hc ⊢; omega
    have hfq:((0:Int):Rat)<(Zr (Zv q):Rat):=Rat.intCast_lt_intCast.2 hfac
    have hfq:(0:Rat)<(Zr (Zv q):Rat):=by simpa using hfq
    have hff:1 / (Zr (Zv q):Rat)*(Zr (Zv q):Rat)=1:=Zh hfq
    have hz2:=hz.2
    have hp3:(s+73+8)*3^(q.length-1)≤16777216:=by
      have:(s+73+8)*3^(q.length-1)≤(s+73+8)*3^(n-1):=Nat.mul_le_mul_left _ (Nat.pow_le_pow_right (by decide) (by omega))
      rw [Nat.mul_assoc] at hz2; omega
    obtain ⟨l,h3,h4⟩:=Qju (s:=s+73) 66 q (Qn (Zv q)) sq.pq.t p1 (by omega) (by omega) (by omega) (by omega) (Qc bq (by omega)) (p5 _ bd) hp3 fun d d1 d2=>sq.num d1 (by
      obtain ⟨z,hz⟩:=d2
      exact ⟨Kr (Zr (Zv q)) z,fun t=>by
        have:=hz t
        rw [Qh] at this
        rw [Xs,←Gf,p7,this,Q5]; grind⟩)
    refine ⟨Qn (Zv q)::l,h3,.inr ⟨cz (Qn (Zv q)),l.map cz,1 / (Zr (Zv q):Rat),Uh (by decide) hfq,fun t=>?_,h4,rfl⟩,fun h=>absurd h h2⟩
    rw [Qh,←Gf,p7 t]; grind
theorem chain_ok {n s:Nat} {p:List Int} (h:Okp n s p):∃ q l,Yk p=some q∧Hm p=some (q::l)∧Dk (cz q) ((q::l).map cz)∧(q.length<2→l=[]):=by
  obtain ⟨pp,hl,hb⟩:=h.pr
  have hn:=h.z.1
  have Mg:=h.l
  obtain ⟨g,q,hq,sq⟩:=Tz h
  have e1:∀ t,Qg (Qn p) t=Qg q t*Qg g t:=fun t=>by rw [sq.e]; grind
  obtain ⟨p1,p2⟩:=Xm pp.t pp.n e1
  have hll:=Yj sq.pq.t sq.pg.t pp.t e1 p1 p2
  obtain ⟨d,d1,l,d2,d3⟩:=Qpm h.z sq (by omega) (Re hb (by omega) pp.t sq.pq.t sq.pg.t pp.n e1)
  refine ⟨q,l,hq,?_,d3⟩
  unfold Hm
  rw [hq]
  show (if q.length=0 then none else _)=_
  rw [if_neg sq.pq.n,d1]
  show (chF 66 q (Qn d)).bind _=_
  rw [d2]; rfl
end Orq

namespace Orq
open Orr Go
structure Gr (D M k:Nat) (q:Rat):Prop where
  u:∃ u:Int,q*((D*2^k:Nat):Rat)=(u:Rat)
  b:Ql q≤(M:Rat)
  d:0<D
theorem nat_pos {n:Nat} (h:0<n):(0:Rat)<(n:Rat):=by
  have:((0:Nat):Rat)<(n:Rat):=Rat.natCast_lt_natCast.2 h
  simpa using this
theorem Ot {D M k:Nat} {q:Rat} (h:Gr D M k q):Gr D M (k+1) q:=by
  obtain ⟨u,hu⟩:=h.u
  refine ⟨⟨u*2,?_⟩,h.b,h.d⟩
  rw [Nat.pow_succ,←Nat.mul_assoc]
  push_cast at hu ⊢
  rw [←hu]; grind
theorem Qqy {D M k:Nat} {a b:Rat} (ha:Gr D M k a) (hb:Gr D M k b):Gr D M (k+1) ((a+b) / 2):=by
  obtain ⟨u,hu⟩:=ha.u
  obtain ⟨v,hv⟩:=hb.u
  have h2:(a+b) / 2*2=a+b:=Zh (by decide)
  refine ⟨⟨u+v,?_⟩,?_,ha.d⟩
  · rw [Nat.pow_succ,←Nat.mul_assoc]
    push_cast at hu hv ⊢
    rw [←hu,←hv]
    generalize (a+b) / 2=c at *
    generalize (D:Rat)*2^k=z at *
    have:c*(z*2)=(c*2)*z:=by grind
    rw [this,h2]; grind
  · have h3:=ha.b
    have h4:=hb.b
    rw [Yd] at *
    constructor <;> grind
theorem Qzz {D M k:Nat} {q:Rat} (h:Gr D M k q):q.den≤D*2^k:=by
  obtain ⟨u,hu⟩:=h.u
  have hp:0<D*2^k:=Nat.mul_pos h.d (Nat.pow_pos (by decide))
  have e:q=Rat.divInt u ((D*2^k:Nat):Int):=by
    rw [←Z3,←hu]
    have hz:=nat_pos hp
    rw [show ((((D*2^k:Nat):Int)):Rat)=((D*2^k:Nat):Rat) from rfl]
    rw [Rat.div_def]
    have:=Rat.mul_inv_cancel ((D*2^k:Nat):Rat) (by grind)
    generalize ((D*2^k:Nat):Rat)=z at *
    have:q*z*z⁻¹=q*(z*z⁻¹):=by grind
    rw [this,‹z*z⁻¹=1›]; grind
  rw [e,Rat.den_divInt,if_neg (by omega),Int.natAbs_natCast]
  exact Nat.div_le_self _ _
theorem Al {a b k:Nat} {z:Int} (h:z.natAbs≤a*(b*2^k)):Qt z≤Qt (a:Int)+Qt (b:Int)+k:=by
  have h1:Qt (a:Int)≤Qt (a:Int):=Nat.le_refl _
  have h2:Qt (b:Int)≤Qt (b:Int):=Nat.le_refl _
  rw [Y3] at h1 h2 ⊢
  rw [Int.natAbs_natCast] at h1 h2
  rw [Nat.pow_add,Nat.pow_add]
  have h3:a*b<2^Qt (a:Int)*2^Qt (b:Int):=Nat.mul_lt_mul_of_lt_of_le h1 (Nat.le_of_lt h2) (Nat.pow_pos (by decide))
  have h4:=Nat.mul_lt_mul_of_pos_right h3 (show 0<2^k from Nat.pow_pos (by decide))
  rw [←Nat.mul_assoc] at h; omega
theorem Qkg {D M k B:Nat} {q:Rat} (h:Gr D M k q) (hM:0<M) (hs:Qt (D:Int)+Qt (M:Int)+k≤B):Qs B q:=by
  have hd:=Qzz h
  have hden:=nat_pos q.den_pos
  have h1:(q.num.natAbs:Rat)≤((M*(D*2^k):Nat):Rat):=by
    have e:(q.num:Rat)=q*(q.den:Rat):=by
      have:(q.num:Rat) / (((q.den:Int)):Rat)=q:=by rw [Z3,Rat.num_divInt_den]
      have h2:(q.num:Rat) / (q.den:Rat)*(q.den:Rat)=q.num:=Rat.div_mul_cancel (by grind)
      rw [show (q.num:Rat) / (q.den:Rat)=q from this] at h2; exact h2.symm
    rw [←Jc,e]
    have h3:=Zg (x:=q) (y:=(q.den:Rat)) (b:=((D*2^k:Nat):Rat)) h.b (by
      have:Ql (q.den:Rat)=(q.den:Rat):=by unfold Ql; rw [if_neg (by grind)]
      rw [this]; exact Rat.natCast_le_natCast.2 hd)
    push_cast at h3 ⊢; exact h3
  have h1:=Rat.natCast_le_natCast.1 h1
  refine ⟨?_,?_⟩
  · have:=Al (z:=q.num) h1; omega
  · have:=Al (z:=(q.den:Int)) (a:=M) (b:=D) (k:=k) (by
      rw [Int.natAbs_natCast]
      exact Nat.le_trans hd (Nat.le_mul_of_pos_left _ hM))
    omega
theorem Qhn (a b:Rat):mid a b=(a+b) / 2:=by
  unfold mid
  rw [←Z3]
  have ha:(a.num:Rat)=a*(a.den:Rat):=by
    have:(a.num:Rat) / (((a.den:Int)):Rat)=a:=by rw [Z3,Rat.num_divInt_den]
    have h2:(a.num:Rat) / (a.den:Rat)*(a.den:Rat)=a.num:=Rat.div_mul_cancel (by have:=nat_pos a.den_pos; grind)
    rw [show (a.num:Rat) / (a.den:Rat)=a from this] at h2; exact h2.symm
  have hb:(b.num:Rat)=b*(b.den:Rat):=by
    have:(b.num:Rat) / (((b.den:Int)):Rat)=b:=by rw [Z3,Rat.num_divInt_den]
    have h2:(b.num:Rat) / (b.den:Rat)*(b.den:Rat)=b.num:=Rat.div_mul_cancel (by have:=nat_pos b.den_pos; grind)
    rw [show (b.num:Rat) / (b.den:Rat)=b from this] at h2; exact h2.symm
  have pa:=nat_pos a.den_pos
  have pb:=nat_pos b.den_pos
  rw [Rat.intCast_add,Rat.intCast_mul,Rat.intCast_mul,Rat.intCast_mul,Rat.intCast_mul,ha,hb]
  rw [show (((a.den:Int)):Rat)=(a.den:Rat) from rfl,show (((b.den:Int)):Rat)=(b.den:Rat) from rfl,show (((2:Int)):Rat)=2 from rfl]
  generalize (a.den:Rat)=x at *
  generalize (b.den:Rat)=y at *
  have hxy:=Fe (Fe pa pb) (show (0:Rat)<2 by decide)
  have h1:(a*x*y+b*y*x) / (x*y*2)*(x*y*2)=a*x*y+b*y*x:=Zh hxy
  have h2:(a+b) / 2*2=a+b:=Zh (by decide)
  generalize (a*x*y+b*y*x) / (x*y*2)=c at *
  generalize (a+b) / 2=d at *
  have h3:(x*y*2)*(c-d)=0:=by grind
  rcases Rat.mul_eq_zero.1 h3 with h4 | h4 <;> grind
theorem Lr (a b:Rat):Ie a b=a-b:=by
  unfold Ie
  rw [Rat.sub_def',←Rat.divInt_ofNat]
  push_cast; rfl
theorem Qjy {a b:Rat}:Zm a b=0↔a=b:=by
  constructor
  · intro h
    have h1:¬a<b:=fun h'=>by have:=Kk.2 h'; omega
    have h2:¬b<a:=fun h'=>by have:=Ws.2 h'; omega
    grind
  · intro h; subst h; exact W0 a
theorem D3 {a b:Rat}:Zm a b≤0↔a≤b:=by
  constructor
  · intro h
    have h2:¬b<a:=fun h'=>by have:=Ws.2 h'; omega
    grind
  · intro h
    have h2:¬0<Zm a b:=fun h'=>by have:=Ws.1 h'; grind
    omega
theorem D2 {a b:Rat}:0≤Zm a b↔b≤a:=by
  constructor
  · intro h
    have h2:¬a<b:=fun h'=>by have:=Kk.2 h'; omega
    grind
  · intro h
    have h2:¬Zm a b<0:=fun h'=>by have:=Kk.1 h'; grind
    omega
theorem Vj (a b:Rat):Zm a b=1∧b<a∨Zm a b=0∧a=b∨Zm a b=-1∧a<b:=by
  have hb:=Gz a b
  rcases (show Zm a b=1∨Zm a b=0∨Zm a b=-1 by omega) with h | h | h
  · exact .inl ⟨h,Ws.1 (by omega)⟩
  · exact .inr (.inl ⟨h,Qjy.1 h⟩)
  · exact .inr (.inr ⟨h,Kk.1 (by omega)⟩)
theorem Qel (p:List Int) (x:Rat):low p x=Jo (cz p) x:=by
  unfold low Jo
  rw [Vs,Vs,Qh,Gf]
theorem Vk {t:Tm} (h:t.lo<t.hi) (q:Rat):Qu t q=cq (cz t.p) t.lo t.hi q:=by
  have hp:t.point=false:=by
    unfold Tm.point
    have:¬0≤Zm t.lo t.hi:=fun h'=>by have:=D2.1 h'; grind
    simp [this]
  unfold Qu cq
  rw [hp,if_neg (by decide)]
  have e1:(Zm q t.lo≤0)=(q≤t.lo):=propext D3
  have e2:(0<Zm q t.hi)=(t.hi<q):=propext Ws
  rw [Vs,Qel,←Qh]
  simp only [e1,e2]
theorem Vd {t:Tm}:t.point=true↔t.hi≤t.lo:=by
  unfold Tm.point
  rw [decide_eq_true_iff]; exact D2
theorem Uz {t:Tm} (h:t.lo=t.hi) (q:Rat):Qu t q=Zm t.lo q:=by
  have hp:t.point=true:=Vd.2 (by rw [h]; exact Rat.le_refl)
  unfold Qu; rw [if_pos hp]
theorem Qzj {c:Rat→Int} {x:Rat} (h:∀ q,c q=Zm x q):Cut c where
  val q:=by rw [h]; have:=Gz x q; omega
  mono q r hqr h1:=by
    rw [h] at h1 ⊢
    rcases Vj x q with ⟨e,e'⟩ | ⟨e,e'⟩ | ⟨e,e'⟩
    · exact absurd e h1
    · rcases Vj x r with ⟨f,f'⟩ | ⟨f,f'⟩ | ⟨f,f'⟩ <;> grind
    · rcases Vj x r with ⟨f,f'⟩ | ⟨f,f'⟩ | ⟨f,f'⟩ <;> grind
  up q h1:=by
    rw [h] at h1
    have h2:=Ws.1 (show 0<Zm x q by omega)
    have h3:(x+q) / 2*2=x+q:=Zh (by decide)
    have h4:=Ws.2 (show (x+q) / 2<x by grind)
    have:=Gz x ((x+q) / 2)
    exact ⟨(x+q) / 2,by grind,by rw [h]; omega⟩
  dn q h1:=by
    rw [h] at h1
    have h2:=Kk.1 (show Zm x q<0 by omega)
    have h3:(x+q) / 2*2=x+q:=Zh (by decide)
    have h4:=Kk.2 (show x<(x+q) / 2 by grind)
    have:=Gz x ((x+q) / 2)
    exact ⟨(x+q) / 2,by grind,by rw [h]; omega⟩
  lo:=⟨x-1,by
    rw [h]
    have h4:=Ws.2 (show x-1<x by grind)
    have:=Gz x (x-1); omega⟩
  hi:=⟨x+1,by
    rw [h]
    have h4:=Kk.2 (show x<x+1 by grind)
    have:=Gz x (x+1); omega⟩
structure Va (t:Tm):Prop where
  i:t.lo=t.hi∧Qg t.p t.lo=0∨∃ L,Vt (cz t.p) L t.lo t.hi
  tr:Qm t.p
  n:t.p.length≤9
  n2:2≤t.p.length
  b:Bd 1000000 t.p
  bi:t.point=false→Bd 1000 t.p
  g:∃ D M k,Gr D M k t.lo∧Gr D M k t.hi∧0<M∧Qt (D:Int)+Qt (M:Int)+k≤1000000
theorem Va.le {t:Tm} (h:Va t):t.lo≤t.hi:=by
  rcases h.i with ⟨e,_⟩ | ⟨L,V⟩
  · rw [e]; exact Rat.le_refl
  · exact Rat.le_of_lt V.l
theorem Va.pt {t:Tm} (h:Va t) (hp:t.point=true):t.lo=t.hi∧Qg t.p t.lo=0:=by
  rcases h.i with e | ⟨L,V⟩
  · exact e
  · have:=Vd.1 hp
    have:=V.l
    grind
theorem Va.iv {t:Tm} (h:Va t) (hp:t.point=false):∃ L,Vt (cz t.p) L t.lo t.hi:=by
  rcases h.i with ⟨e,_⟩ | h
  · have:=Vd.2 (show t.hi≤t.lo by rw [e]; exact Rat.le_refl)
    rw [hp] at this; cases this
  · exact h
theorem Va.cut {t:Tm} (h:Va t):Cut (Qu t):=by
  rcases h.i with ⟨e,_⟩ | ⟨L,V⟩
  · exact Qzj (x:=t.lo) fun q=>Uz e q
  · have:Qu t=cq (cz t.p) t.lo t.hi:=funext fun q=>Vk V.l q
    rw [this]; exact V.cut
theorem Q1b {c:Rat→Int} (hc:Cut c) {p:List Rat} {x:Rat} (h:c x=0) (h0:ev p x=0):Fl p c:=by
  rcases Ti hc p with h1 | ⟨s,hs,h1⟩
  · exact h1
  · have:=Qex hc h h1
    rw [Q0.2 h0] at this; exact absurd this.symm hs
theorem Va.van {t:Tm} (h:Va t):Fl (cz t.p) (Qu t):=by
  have hc:=h.cut
  rcases h.i with ⟨e,h0⟩ | ⟨L,V⟩
  · exact Q1b hc (x:=t.lo) (by rw [Uz e,W0]) (by rw [Qh]; exact h0)
  · have:Qu t=cq (cz t.p) t.lo t.hi:=funext fun q=>Vk V.l q
    rw [this]; exact V.van
theorem Va.qs {t:Tm} (h:Va t):Qs 1000000 t.lo∧Qs 1000000 t.hi:=by
  obtain ⟨D,M,k,h1,h2,h3,h4⟩:=h.g
  exact ⟨Qkg h1 h3 h4,Qkg h2 h3 h4⟩
theorem Va.tb {t:Tm} (h:Va t):Tb t:=⟨⟨h.tr,by have:=h.n; omega,Qc h.b (by omega)⟩,h.qs.1.mono (t:=16777216) (by omega),h.qs.2.mono (t:=16777216) (by omega)⟩
structure Hv (t:Tm) (D M k:Nat) (u:Tm):Prop where
  p:u.p=t.p
  i:u.lo=u.hi∧Qg u.p u.lo=0∨∃ L,Vt (cz u.p) L u.lo u.hi
  c:∀ q,Qu u q=Qu t q
  l:Gr D M k u.lo
  h:Gr D M k u.hi
theorem Qdq {c:Rat→Int} (hc:Cut c) {x:Rat} (h:c x=0) (q:Rat):c q=Zm x q:=by
  rcases Vj x q with ⟨e,e'⟩ | ⟨e,e'⟩ | ⟨e,e'⟩
  · rw [e]; exact hc.mono' e' (by omega)
  · rw [e,←e',h]
  · rw [e]; exact hc.mono x q e' (by omega)
theorem Qbp {t u:Tm} {D M k:Nat} (hu:Hv t D M k u) (hM:0<M) (hs:Qt (D:Int)+Qt (M:Int)+(k+1)≤16777216):∃ v,Qbo u=some v∧Hv t D M (k+1) v∧v.hi-v.lo≤(u.hi-u.lo) / 2∧u.lo≤v.lo∧v.hi≤u.hi:=by
  have h2:∀ x:Rat,x / 2*2=x:=fun x=>Zh (by decide)
  unfold Qbo
  rcases hu.i with ⟨e,h0⟩ | ⟨L,V⟩
  · have hp:u.point=true:=Vd.2 (by rw [e]; exact Rat.le_refl)
    rw [if_pos hp]
    refine ⟨u,rfl,⟨hu.p,hu.i,hu.c,Ot hu.l,Ot hu.h⟩,?_,Rat.le_refl,Rat.le_refl⟩
    rw [e]; have:=h2 (u.hi-u.hi); grind
  · have hp:u.point=false:=by
      have:¬u.point=true:=fun h=>by have:=Vd.1 h; have:=V.l; grind
      simpa using this
    rw [hp,if_neg (by decide)]
    obtain ⟨m,hm⟩:∃ m,m=(u.lo+u.hi) / 2:=⟨_,rfl⟩
    have hmg:Gr D M (k+1) m:=by rw [hm]; exact Qqy hu.l hu.h
    have hmm:=h2 (u.lo+u.hi)
    rw [←hm] at hmm
    have hl:=V.l
    have hl1:u.lo<m:=by grind
    have hl2:m<u.hi:=by grind
    have hch:chq (mid u.lo u.hi)=some m:=by
      rw [Qhn,←hm]
      have:=Qkg hmg hM hs
      unfold chq
      rw [if_pos ⟨this.1,this.2⟩]
    have hcm:mid u.lo u.hi=m:=by rw [Qhn,←hm]
    rw [hch]
    show ∃ v,some (if Qu u m=0 then (⟨u.p,m,m⟩:Tm) else if Qu u m=-1 then ⟨u.p,u.lo,m⟩ else ⟨u.p,m,u.hi⟩)=some v∧_
    have hw:=h2 (u.hi-u.lo)
    have hcu:=Vk hl
    have hcut:=V.cut
    have hcut':Cut (Qu u):=by rw [show Qu u=cq (cz u.p) u.lo u.hi from funext hcu]; exact hcut
    by_cases c0:Qu u m=0
    · rw [if_pos c0]
      have hz:Qg u.p m=0:=by
        have:=Ck hcut (q:=m) (by rw [←hcu]; exact c0) V.van
        rwa [Qh] at this
      refine ⟨_,rfl,⟨hu.p,.inl ⟨rfl,hz⟩,fun q=>?_,hmg,hmg⟩,by show m-m≤_; grind,by show u.lo≤m; grind,by show m≤u.hi; grind⟩
      rw [Uz rfl,←hu.c]
      exact (Qdq hcut' c0 q).symm
    · rw [if_neg c0]
      by_cases c1:Qu u m=-1
      · rw [if_pos c1]
        have hv:vv L m=vv L u.hi:=V.eq_hi hl1 (Rat.le_of_lt hl2) (by rw [←hcu,c1]; decide)
        have V':Vt (cz u.p) L u.lo m:=⟨V.s,hl1,by rw [hv]; exact V.v⟩
        refine ⟨_,rfl,⟨hu.p,.inr ⟨L,V'⟩,fun q=>?_,Ot hu.l,hmg⟩,by show m-u.lo≤_; grind,Rat.le_refl,by show m≤u.hi; grind⟩
        rw [Vk hl1,←hu.c,hcu]
        exact V.uniq V'.cut (Uf Rat.le_refl) (by rw [P8 hl1 hl2]; decide) V'.van q
      · rw [if_neg c1]
        have c2:Qu u m=1:=by rcases hcut'.val m with h | h | h <;> omega
        have hv:vv L m=vv L u.lo:=V.eq_lo hl1 (Rat.le_of_lt hl2) (by rw [←hcu]; exact c2)
        have V':Vt (cz u.p) L m u.hi:=⟨V.s,hl2,by rw [hv]; exact V.v⟩
        refine ⟨_,rfl,⟨hu.p,.inr ⟨L,V'⟩,fun q=>?_,hmg,Ot hu.h⟩,by show u.hi-m≤_; grind,by show u.lo≤m; grind,Rat.le_refl⟩
        rw [Vk hl2,←hu.c,hcu]
        exact V.uniq V'.cut (Uf (by grind)) V'.hi1 V'.van q
end Orq
