/- KGoL SortQ HullG RawL NewsL BegL TurnL PairN DetL H1 HullQ HullS HullT TouL TouQ RiseL AscL HLineL HGrowL H2 H3 SplitL -/
import Derived.Test.YtledghfgedoofaaGreatPart07
import Derived.Test.YtledghfgedoofaaGreatPart05
import Derived.Test.YtledghfgedoofaaGreatPart04
set_option linter.all false
namespace Orq
open Orr Go
theorem Q2m {a b c:Tm} (hb:Cut (Qu b)) (hc:Cut (Qu c)) (h:K9 a b) (h':K9 b c):K9 a c:=by
  obtain ⟨q,q1,q2⟩:=h
  obtain ⟨r,r1,r2⟩:=h'
  exact ⟨q,q1,hc.mono' (hb.lt q2 r1) (by omega)⟩
theorem Qhg {a b:Tm} (ha:Cut (Qu a)) (hb:Cut (Qu b)) (h:¬K9 b a):Leq a (Qu b):=fun q hq=>by
  rcases ha.val q with e | e | e
  · exact absurd ⟨q,hq,e⟩ h
  · obtain ⟨r,r1,r2⟩:=hb.dn q hq
    exact absurd ⟨r,r2,ha.mono' r1 (by omega)⟩ h
  · exact e
theorem Qks {a b c:Tm} (_:Cut (Qu a)) (hb:Cut (Qu b)) (hc:Cut (Qu c)) (h:K9 a b) (h':¬K9 c b):K9 a c:=by
  obtain ⟨q,q1,q2⟩:=h
  refine ⟨q,q1,?_⟩
  have hl:=Qhg hb hc h'
  rcases hc.val q with e | e | e
  · exact e
  · obtain ⟨r,r1,r2⟩:=hb.up q q2
    have h1:=hc.mono q r r1 (by omega)
    have:=hl r h1
    omega
  · have:=hl q e; omega
theorem Qz9 {a b:Tm} (ha:Cut (Qu a)) (hb:Cut (Qu b)) (h:K9 a b):¬K9 b a:=fun h'=>B5 ha hb h h'
theorem Qew {p:List Int} {a b:Tm} {o:Option Tm} (ha:Cut (Qu a)) (hb:Cut (Qu b)) (hab:¬K9 b a) (h:Wi p a o) (ho:∀ t,o=some t→K9 b t):Wi p b o:=by
  have hl:=Qhg ha hb hab
  cases o with
  |
   none =>
   rcases h with h | ⟨s,s0,h⟩
   · exact .inl h
   · exact .inr ⟨s,s0,fun c hc hbc=>h c hc fun q hq=>hl q (hbc q hq)⟩
  |
   some t =>
   obtain ⟨h1,h2,_,s,s0,h4,h5⟩:=h
   exact ⟨h1,h2,ho t rfl,s,s0,fun c hc hbc hm=>h4 c hc (fun q hq=>hl q (hbc q hq)) hm,h5⟩
theorem Oo {p:List Int} {a b:Tm} {o:Option Tm} (hp:Dp p) (ha:Va a) (hb:Va b) (hab:¬K9 b a) (h:Wi p a o) (ho:∀ t,o=some t→K9 b t):X4 (Zp b) p=X4 (Zp a) p:=by
  by_cases h0:p.length=0
  · obtain rfl:=List.eq_nil_of_length_eq_zero h0; rfl
  obtain ⟨ra,_⟩:=G8 ha hp h0
  obtain ⟨rb,_⟩:=G8 hb hp h0
  have hl:=Qhg ha.cut hb.cut hab
  cases o with
  |
   none =>
   rcases h with h | ⟨s,s0,h⟩
   · exact absurd (by rw [h]; rfl) h0
   · exact (Qlw rb (h _ hb.cut hl)).trans (Qlw ra (h _ ha.cut fun _ h=>h)).symm
  |
   some t =>
   obtain ⟨h1,h2,h3,s,s0,h4,h5⟩:=h
   exact (Qlw rb (h4 _ hb.cut hl (ho t rfl))).trans (Qlw ra (h4 _ ha.cut (fun _ h=>h) h3)).symm
theorem Ql5 (t q:Rat):Qu (tq t) q=Zm t q:=Uz (t:=tq t) rfl q
theorem Eo {a:Tm} {t:Rat} (ha:Cut (Qu a)):0<Qu a t↔K9 (tq t) a:=by
  constructor
  · intro h
    have h1:Qu a t=1:=by rcases ha.val t with e | e | e <;> omega
    obtain ⟨r,r1,r2⟩:=ha.up t h1
    exact ⟨r,by rw [Ql5]; rcases Vj t r with ⟨e,e'⟩ | ⟨e,e'⟩ | ⟨e,e'⟩ <;> first | exact e | (exfalso; grind),r2⟩
  · rintro ⟨q,q1,q2⟩
    rw [Ql5] at q1
    have:t<q:=by rcases Vj t q with ⟨e,e'⟩ | ⟨e,e'⟩ | ⟨e,e'⟩ <;> first | exact e' | omega
    have:=ha.mono' this (by omega)
    omega
open Classical in
noncomputable def mu (T:List Tm) (a:Tm):Nat:=(T.filter fun t=>decide (K9 a t)).length
theorem Oe {α:Type} {p q:α→Bool} (h:∀ x,p x=true→q x=true):∀ l:List α,(l.filter p).length≤(l.filter q).length
  | []=>Nat.le_refl _
  |
   x::l=>by
   have ih:=Oe h l
   by_cases hp:p x=true
   · rw [List.filter_cons_of_pos hp,List.filter_cons_of_pos (h x hp)]; simp; exact ih
   · rw [List.filter_cons_of_neg hp]
     by_cases hq:q x=true
     · rw [List.filter_cons_of_pos hq]; simp; omega
     · rw [List.filter_cons_of_neg hq]; exact ih
theorem Of {α:Type} {p q:α→Bool} (h:∀ x,p x=true→q x=true) {y:α} (hp:p y=false) (hq:q y=true):∀ {l:List α},y∈l→(l.filter p).length<(l.filter q).length
  | [],hy=>by cases hy
  |
   x::l,hy=>by
   rcases List.mem_cons.1 hy with rfl | hy
   · rw [List.filter_cons_of_neg (by simp [hp]),List.filter_cons_of_pos hq]
     have:=Oe h l
     simp; omega
   · have ih:=Of h hp hq hy
     by_cases hp:p x=true
     · rw [List.filter_cons_of_pos hp,List.filter_cons_of_pos (h x hp)]; simp; exact ih
     · rw [List.filter_cons_of_neg hp]
       by_cases hq:q x=true
       · rw [List.filter_cons_of_pos hq]; simp; omega
       · rw [List.filter_cons_of_neg hq]; exact ih
open Classical in
theorem Qyf {T:List Tm} {a b:Tm} (ha:Cut (Qu a)) (hb:Cut (Qu b)) (hT:∀ t∈T,Cut (Qu t)) (h:K9 a b) (hm:b∈T):mu T b<mu T a:=by
  have key:∀ l:List Tm,(∀ t∈l,Cut (Qu t))→l.filter (fun t=>decide (K9 b t))=l.filter (fun t=>decide (Cut (Qu t)∧K9 b t)):=fun l hl=>List.filter_congr fun x hx=>by simp [hl x hx]
  have key2:∀ l:List Tm,(∀ t∈l,Cut (Qu t))→l.filter (fun t=>decide (K9 a t))=l.filter (fun t=>decide (Cut (Qu t)∧K9 a t)):=fun l hl=>List.filter_congr fun x hx=>by simp [hl x hx]
  unfold mu
  rw [key T hT,key2 T hT]
  refine Of (fun x hx=>?_) (y:=b) ?_ ?_ hm
  · have hx:=of_decide_eq_true hx
    exact decide_eq_true ⟨hx.1,Q2m hb hx.1 h hx.2⟩
  · exact decide_eq_false fun hx=>B5 hb hb hx.2 hx.2
  · exact decide_eq_true ⟨hb,h⟩
def tms (p:List Int):List Tm:=(Pw p).getD []
structure KInv (c:Cr):Prop where
  ok:CrOk c
  k:∀ w∈c.l,w.known=true→Wi w.c.p c.now w.fails∧∀ t,w.fails=some t→t∈tms w.c.p
theorem Qho {p:List Int} (h:Cp p) {a:Tm} (ha:Va a):∃ r,C9 p a=some r∧Wi p a r∧∀ t,r=some t→t∈tms p:=by
  obtain ⟨l,l1,_,_,l3⟩:=Tg h
  obtain ⟨r,r1,r2,r3⟩:=l3 a ha
  refine ⟨r,?_,r2,fun t ht=>by unfold tms; rw [l1]; exact r3 t ht⟩
  unfold C9; rw [l1]; exact r1
theorem Q06 {p:List Int} (h:Cp p):∀ t∈tms p,Va t:=by
  obtain ⟨l,l1,_,l2,_⟩:=Tg h
  unfold tms; rw [l1]; exact l2
theorem Qkw {now:Tm} (hn:Va now):∀ {l:List Wt},(∀ w∈l,WtOk w)→(∀ w∈l,w.known=true→Wi w.c.p now w.fails∧∀ t,w.fails=some t→t∈tms w.c.p) →
    ∃ ws,Rp now l=some ws∧ws.map (·.c)=l.map (·.c)∧∀ w∈ws,w.known=true∧Wi w.c.p now w.fails∧∀ t,w.fails=some t→t∈tms w.c.p
  | [],_,_=>⟨[],rfl,rfl,fun w hw=>by cases hw⟩
  |
   w::l,h,h'=>by
   obtain ⟨ws,w1,w2,w3⟩:=Qkw hn (fun v hv=>h v (List.mem_cons_of_mem _ hv)) (fun v hv=>h' v (List.mem_cons_of_mem _ hv))
   by_cases hk:w.known=true
   · refine ⟨w::ws,by simp only [Rp,hk,if_true,w1]; rfl,by simp [w2],fun v hv=>?_⟩
     rcases List.mem_cons.1 hv with rfl | hv
     · exact ⟨hk,h' v (by simp) hk⟩
     · exact w3 v hv
   · obtain ⟨r,r1,r2,r3⟩:=Qho (h w (by simp)).p hn
     refine ⟨⟨w.c,true,r⟩::ws,by simp only [Rp]; rw [if_neg hk,r1,w1]; rfl,by simp [w2],fun v hv=>?_⟩
     rcases List.mem_cons.1 hv with rfl | hv
     · exact ⟨rfl,r2,r3⟩
     · exact w3 v hv
theorem Qko {at_:Tm} (ha:Va at_) {x:Ct}:∀ {l:List Wt},(∀ w∈l,WtOk w)→∃ w,Um l x at_=some w∧w.c=x
  | [],_=>⟨fresh x,rfl,rfl⟩
  |
   v::l,h=>by
   obtain ⟨w,w1,w2⟩:=Qko ha (x:=x) fun v hv=>h v (List.mem_cons_of_mem _ hv)
   simp only [Um]
   split
   · cases hf:v.fails with
     | none=>exact ⟨_,rfl,rfl⟩
     |
      some t =>
      obtain ⟨c,c1,_⟩:=Dz ((h v (by simp)).f t hf) ha
      dsimp only
      rw [c1]
      show ∃ w,(if 0<c then some ⟨x,true,some t⟩ else Um l x at_)=some w∧w.c=x
      split
      · exact ⟨_,rfl,rfl⟩
      · exact ⟨w,w1,w2⟩
   · exact ⟨w,w1,w2⟩
theorem Qrc {at_:Tm} (ha:Va at_) {ol:List Wt} (ho:∀ w∈ol,WtOk w):∀ l:List Ct,∃ ws,Mk ol at_ l=some ws∧ws.map (·.c)=l
  | []=>⟨[],rfl,rfl⟩
  |
   x::l=>by
   obtain ⟨w,w1,w2⟩:=Qko ha (x:=x) ho
   obtain ⟨ws,s1,s2⟩:=Qrc ha ho l
   exact ⟨w::ws,by simp only [Mk,w1,s1]; rfl,by simp [w2,s2]⟩
theorem Qm3 {out:List Ct} {c x:Ct}:x∈Pf out c↔x=c∨x∈out:=by
  have h:x∈out↔x∈out.take (Rx out c out.length)∨x∈out.drop (Rx out c out.length):=by
    rw [←List.mem_append,List.take_append_drop]
  simp only [Pf,List.mem_append,List.mem_cons,h]
  constructor
  · rintro (h | h | h)
    · exact .inr (.inl h)
    · exact .inl h
    · exact .inr (.inr h)
  · rintro (h | h | h)
    · exact .inr (.inl h)
    · exact .inl h
    · exact .inr (.inr h)
theorem Oi:∀ (l acc:List Ct) {y:Ct},y∈l.foldl Pf acc↔y∈l∨y∈acc
  | [],acc,y=>by simp
  |
   c::l,acc,y=>by
   simp only [List.foldl_cons]
   rw [Oi l,Qm3,List.mem_cons]
   constructor
   · rintro (h | h | h)
     · exact .inl (.inr h)
     · exact .inl (.inl h)
     · exact .inr h
   · rintro ((h | h) | h)
     · exact .inr (.inl h)
     · exact .inl h
     · exact .inr (.inr h)
theorem Qah {l:List Ct} {x:Ct}:x∈Z4 l↔x∈l:=by unfold Z4; rw [Oi]; simp
theorem Q0e {ws:List Wt} (hw:∀ w∈ws,WtOk w):∃ o,Qev ws=some o∧match o with
    | none=>∀ w∈ws,w.fails=none
    | some a=>Va a∧(∃ w∈ws,w.fails=some a)∧∀ w∈ws,∀ t,w.fails=some t→¬K9 t a:=by
  have hv:∀ t∈ws.filterMap (·.fails),Va t:=fun t ht=>by
    obtain ⟨w,w1,w2⟩:=List.mem_filterMap.1 ht
    exact (hw w w1).f t w2
  unfold Qev
  cases hf:ws.filterMap (·.fails) with
  |
   nil =>
   refine ⟨none,rfl,fun w h=>?_⟩
   cases e:w.fails with
   | none=>rfl
   |
    some t =>
    have:t∈ws.filterMap (·.fails):=List.mem_filterMap.2 ⟨w,h,e⟩
    rw [hf] at this; cases this
  |
   cons b l =>
   rw [hf] at hv
   obtain ⟨m,m1,m2,m3⟩:=Bw l b hv
   refine ⟨some m,by show (Ha b l).map some=_; rw [m1]; rfl,hv m m2,?_,fun w h t e=>?_⟩
   · rw [←hf] at m2
     exact List.mem_filterMap.1 m2
   · exact m3 t (by rw [←hf]; exact List.mem_filterMap.2 ⟨w,h,e⟩)
theorem Qzf {t a:Tm} (ht:Va t) (ha:Va a) {c:Int} (h:En t a=some c) (h0:0<c):K9 a t:=by
  obtain ⟨c',c1,c2⟩:=Dz ht ha
  rw [h] at c1; injection c1 with c1; subst c1
  rcases c2 with ⟨e,_⟩ | ⟨e,_⟩ | ⟨_,e⟩
  · omega
  · omega
  · exact e
theorem Qvu {ol ws:List Wt} {now a:Tm} {l:List Ct} (hn:Va now) (ha:Va a) (hna:¬K9 a now) (ho:∀ w∈ol,WtOk w) (hk:∀ w∈ol,w.known=true→Wi w.c.p now w.fails∧∀ t,w.fails=some t→t∈tms w.c.p) (h:Mk ol a l=some ws) :
    ∀ w∈ws,w.known=true→Wi w.c.p a w.fails∧∀ t,w.fails=some t→t∈tms w.c.p:=by
  obtain ⟨h1,h2⟩:=Ml h
  intro w hw hkn
  obtain ⟨i,hi⟩:=List.getElem?_of_mem hw
  have hil:i<l.length:=by rw [←h1]; exact (List.getElem?_eq_some_iff.1 hi).1
  obtain ⟨v,h3,h4⟩:=h2 i _ (List.getElem?_eq_getElem hil)
  rw [hi] at h4; injection h4 with h4; subst h4
  rcases Am h3 with e | ⟨v,v1,v2,v3,e,v5⟩
  · rw [e] at hkn; cases hkn
  · obtain ⟨k1,k2⟩:=hk v v1 v2
    rw [e]
    show Wi (l[i]).p a v.fails∧∀ t,v.fails=some t→t∈tms (l[i]).p
    rw [←v3]
    refine ⟨Qew hn.cut ha.cut hna k1 fun t ht=>?_,k2⟩
    obtain ⟨c,c1,c2⟩:=v5 t ht
    exact Qzf ((ho v v1).f t ht) ha c1 c2
structure Stab {β:Type} (Bc:Tm→List Ct) (Br:Tm→β):Prop where
  ok:BuildOk Bc
  fin:∃ Ps:List (List Int),(∀ p∈Ps,Cp p)∧∀ a,Va a→∀ x∈Bc a,x.p∈Ps
  st:∀ a b,Va a→Va b→(∀ x∈Bc a,X4 (Zp b) x.p=X4 (Zp a) x.p)→Bc b=Bc a∧Br b=Br a
structure KSt {β:Type} (Bc:Tm→List Ct) (Br:Tm→β) (c:Cr) (r1:β):Prop where
  inv:KInv c
  cs:c.l.map (·.c)=Z4 (Bc c.now)
  r:r1=Br c.now
inductive Evs (Bc:Tm→List Ct) (t:Rat):Tm→List Tm→Prop
  | nil {a:Tm} (h:∀ x∈Bc a,∃ o,Wi x.p a o∧∀ u,o=some u→K9 (tq t) u):Evs Bc t a []
  | cons {a e:Tm} {E:List Tm} (he:Va e) (h1:K9 a e) (h2:¬K9 (tq t) e) (h3:∀ x∈Bc a,∃ o,Wi x.p a o∧∀ u,o=some u→¬K9 u e) (h4:∃ x∈Bc a,Wi x.p a (some e)) (h5:Evs Bc t e E):Evs Bc t a (e::E)
theorem Q2c {β:Type} {Bc:Tm→List Ct} {Br:Tm→β} (S:Stab Bc Br) {t:Rat} (ht:Qs 400000 t) {Ps:List (List Int)} (hP:∀ p∈Ps,Cp p) (hPs:∀ a,Va a→∀ x∈Bc a,x.p∈Ps) :
    ∀ (m:Nat) (c:Cr) (r1:β) (n:Int),mu (Ps.flatMap tms) c.now≤m→KSt Bc Br c r1→¬K9 (tq t) c.now →
    ∃ c' r' E,goF Bc Br t (m+1) c r1 n=some (c',r',n+(E.length:Nat))∧c'.now=tq t∧KSt Bc Br c' r'∧c'.ev=c.ev+(E.length:Nat)∧E.length≤m∧Evs Bc t c.now E:=by
  have hT:∀ t∈Ps.flatMap tms,Cut (Qu t):=fun u hu=>by
    obtain ⟨p,p1,p2⟩:=List.mem_flatMap.1 hu
    exact (Q06 (hP p p1) u p2).cut
  have hq:=Qw8 ht
  intro m
  induction m with
  | zero=>?_
  | succ m ih=>?_
  all_goals
    intro c r1 n hm hS hnow
    obtain ⟨⟨ok,kk⟩,hcs,hr⟩:=hS
    obtain ⟨ws,w1,w2,w3⟩:=Qkw ok.n ok.l kk
    have ok':=Ld ok w1
    rw [hcs] at w2
    have hc_w:∀ x∈Bc c.now,∃ w∈ws,w.c=x:=fun x hx=>by
      have:x∈ws.map (·.c):=by rw [w2]; exact Qah.2 hx
      exact List.mem_map.1 this
    have hw_c:∀ w∈ws,w.c∈Bc c.now:=fun w hw=>Qah.1 (by rw [←w2]; exact List.mem_map_of_mem hw)
    obtain ⟨o,o1,o2⟩:=Q0e ok'.l
    -- the end
    have fin:(∀ w∈ws,∀ u,w.fails=some u→K9 (tq t) u)→KSt Bc Br ⟨tq t,ws,c.ev⟩ r1∧Evs Bc t c.now []:=fun hall=>by
      have hg:∀ x∈Bc c.now,X4 (Zp (tq t)) x.p=X4 (Zp c.now) x.p:=fun x hx=>by
        obtain ⟨w,hw,rfl⟩:=hc_w x hx
        exact Oo (S.ok.p _ ok.n _ hx).dp ok.n hq hnow (w3 w hw).2.1 (hall w hw)
      obtain ⟨s1,s2⟩:=S.st _ _ ok.n hq hg
      refine ⟨⟨⟨⟨hq,ok'.l,ok'.k⟩,fun w hw _=>⟨Qew ok.n.cut hq.cut hnow (w3 w hw).2.1 (hall w hw),(w3 w hw).2.2⟩⟩,?_,?_⟩,.nil fun x hx=>?_⟩
      · show ws.map (·.c)=Z4 (Bc (tq t)); rw [w2,s1]
      · show r1=Br (tq t); rw [s2,hr]
      · obtain ⟨w,hw,rfl⟩:=hc_w x hx
        exact ⟨_,(w3 w hw).2.1,hall w hw⟩
  · cases o with
    |
     none =>
     obtain ⟨f1,f2⟩:=fin fun w hw u hu=>by rw [o2 w hw] at hu; cases hu
     exact ⟨_,_,[],by simp only [goF]; rw [w1]; simp only [Option.bind_some]; rw [o1]; simp,rfl,f1,by simp,by simp,f2⟩
    |
     some a =>
     obtain ⟨va,⟨w,hw,hwa⟩,hmin⟩:=o2
     by_cases h0:0<Qu a t
     · obtain ⟨f1,f2⟩:=fin fun v hv u hu=>by
         have hu':=(ok'.l v hv).f u hu
         exact Qks hq.cut va.cut hu'.cut ((Eo va.cut).1 h0) (hmin v hv u hu)
       exact ⟨_,_,[],by simp only [goF]; rw [w1]; simp only [Option.bind_some]; rw [o1]; simp [h0],rfl,f1,by simp,by simp,f2⟩
     · exfalso
       obtain ⟨k1,k2,k3⟩:=w3 w hw
       rw [hwa] at k2
       have:a∈Ps.flatMap tms:=List.mem_flatMap.2 ⟨_,hPs _ ok.n _ (hw_c w hw),k3 a hwa⟩
       have:=Qyf ok.n.cut va.cut hT k2.2.2.1 this
       omega
  · cases o with
    |
     none =>
     obtain ⟨f1,f2⟩:=fin fun w hw u hu=>by rw [o2 w hw] at hu; cases hu
     exact ⟨_,_,[],by simp only [goF]; rw [w1]; simp only [Option.bind_some]; rw [o1]; simp,rfl,f1,by simp,by simp,f2⟩
    |
     some a =>
     obtain ⟨va,⟨w,hw,hwa⟩,hmin⟩:=o2
     by_cases h0:0<Qu a t
     · obtain ⟨f1,f2⟩:=fin fun v hv u hu=>by
         have hu':=(ok'.l v hv).f u hu
         exact Qks hq.cut va.cut hu'.cut ((Eo va.cut).1 h0) (hmin v hv u hu)
       exact ⟨_,_,[],by simp only [goF]; rw [w1]; simp only [Option.bind_some]; rw [o1]; simp [h0],rfl,f1,by simp,by simp,f2⟩
     · obtain ⟨k1,k2,k3⟩:=w3 w hw
       rw [hwa] at k2
       have hna:=Qz9 ok.n.cut va.cut k2.2.2.1
       have hmem:a∈Ps.flatMap tms:=List.mem_flatMap.2 ⟨_,hPs _ ok.n _ (hw_c w hw),k3 a hwa⟩
       have hlt:=Qyf ok.n.cut va.cut hT k2.2.2.1 hmem
       obtain ⟨w2',l1,l2⟩:=Qrc va ok'.l (Z4 (Bc a))
       have hl:=Qvu ok.n va hna ok'.l (fun v hv _=>(w3 v hv).2) l1
       have hS':KSt Bc Br ⟨a,w2',c.ev+1⟩ (Br a):=⟨⟨Orr.lay_ok _ ok' va (S.ok.p a va) (S.ok.n a va) l1,hl⟩,l2,rfl⟩
       obtain ⟨c',r',E,g1,g2,g3,g4,g5,g6⟩:=ih ⟨a,w2',c.ev+1⟩ (Br a) (n+1) (by show mu _ a≤m; omega) hS' (fun h=>h0 ((Eo va.cut).2 h))
       refine ⟨c',r',a::E,?_,g2,g3,by rw [g4]; simp; omega,by simp; omega,.cons va k2.2.2.1 (fun h=>h0 ((Eo va.cut).2 h)) (fun x hx=>?_) ⟨w.c,hw_c w hw,k2⟩ g6⟩
       · conv=>lhs; unfold goF
         rw [w1]; simp only [Option.bind_some]; rw [o1]; simp only [Option.bind_some]; rw [if_neg h0,l1]; simp only [Option.bind_some]
         rw [g1]; simp; omega
       · obtain ⟨v,hv,rfl⟩:=hc_w x hx
         exact ⟨_,(w3 v hv).2.1,hmin v hv⟩
end Orq

namespace Orq
open Orr Go
theorem Ac {a:Tm} (ha:Va a):∀ (L:List (List Int)),(∀ p∈L,Dp p)→∃ y,Qu a y=-1∧∀ q,Qu a q=-1→q≤y→∀ p∈L,X4 (Zp a) p=Qj (Qg p q)
  |
   [],_=>by
   obtain ⟨y,hy⟩:=ha.cut.hi
   exact ⟨y,hy,fun q _ _ p hp=>by cases hp⟩
  |
   p::L,h=>by
   obtain ⟨y,y1,y2⟩:=Ac ha L (fun q hq=>h q (List.mem_cons_of_mem _ hq))
   by_cases h0:p.length=0
   · obtain rfl:=List.eq_nil_of_length_eq_zero h0
     refine ⟨y,y1,fun q q1 q2 r hr=>?_⟩
     rcases List.mem_cons.1 hr with rfl | hr
     · rw [Ab]; exact (Q0.2 rfl).symm
     · exact y2 q q1 q2 r hr
   · obtain ⟨⟨z,z1,z2⟩,_⟩:=G8 ha (h p (by simp)) h0
     refine ⟨if y≤z then y else z,by split <;> assumption,fun q q1 q2 r hr=>?_⟩
     rcases List.mem_cons.1 hr with rfl | hr
     · rw [←Qh]; exact (z2 q q1 (by grind)).symm
     · exact y2 q q1 (by grind) r hr
section Srt
variable {α:Type} {lt:α→α→Bool} {R:α→α→Prop}
theorem O8 (irr:∀ x,¬R x x) (tr:∀ x y z,R x y→R y z→R x z):∀ {l m:List α},l.Pairwise R→m.Pairwise R→(∀ x,x∈l↔x∈m)→l=m
  | [],[],_,_,_=>rfl
  | [],y::m,_,_,h=>by have:=(h y).2 (by simp); cases this
  | x::l,[],_,_,h=>by have:=(h x).1 (by simp); cases this
  |
   x::l,y::m,hl,hm,h=>by
   rw [List.pairwise_cons] at hl hm
   have e:x=y:=by
     rcases List.mem_cons.1 ((h x).1 (by simp)) with e | h1
     · exact e
     · rcases List.mem_cons.1 ((h y).2 (by simp)) with e | h2
       · exact e.symm
       · exact absurd (tr _ _ _ (hl.1 y h2) (hm.1 x h1)) (irr x)
   subst e
   rw [O8 irr tr hl.2 hm.2 fun z=>?_]
   constructor
   · intro hz
     rcases List.mem_cons.1 ((h z).1 (List.mem_cons_of_mem _ hz)) with e | h1
     · subst e; exact absurd (hl.1 z hz) (irr z)
     · exact h1
   · intro hz
     rcases List.mem_cons.1 ((h z).2 (List.mem_cons_of_mem _ hz)) with e | h1
     · subst e; exact absurd (hm.1 z hz) (irr z)
     · exact h1
theorem O5 {out:List α} {x:α}:∀ k,k≤out.length→(∀ j y,Wd lt out x k≤j→j<k→out[j]? = some y→lt x y=true)∧(0<Wd lt out x k→∃ y,out[Wd lt out x k-1]? = some y∧lt x y=false)
  | 0,_=>⟨fun j y _ h=>by omega,fun h=>by simp [Wd] at h⟩
  |
   k+1,hk=>by
   obtain ⟨y,hy⟩:∃ y,out[k]? = some y:=⟨_,List.getElem?_eq_getElem (by omega)⟩
   by_cases h:lt x y=true
   · rw [Qlk hy h]
     obtain ⟨h1,h2⟩:=O5 (out:=out) (x:=x) k (by omega)
     refine ⟨fun j z a1 a2 a3=>?_,h2⟩
     by_cases e:j=k
     · subst e; rw [hy] at a3; injection a3 with a3; subst a3; exact h
     · exact h1 j z a1 (by omega) a3
   · have h:lt x y=false:=by simpa using h
     rw [Qfd hy h]
     exact ⟨fun j z a1 a2 _=>by omega,fun _=>⟨y,by simpa using hy,h⟩⟩
theorem Qvq (tr:∀ x y z,R x y→R y z→R x z) {out:List α} {x:α} (ho:out.Pairwise R) (h1:∀ y∈out,lt x y=true→R x y) (h2:∀ y∈out,lt x y=false→R y x):(Wa lt out x).Pairwise R:=by
  obtain ⟨s1,s2⟩:=O5 (lt:=lt) (out:=out) (x:=x) out.length (Nat.le_refl _)
  have hle:=Qb8 lt out x out.length
  unfold Wa
  obtain ⟨k,hk⟩:∃ k,k=Wd lt out x out.length:=⟨_,rfl⟩
  rw [←hk] at s1 s2 hle ⊢
  have hd:(out.take k++out.drop k).Pairwise R:=by rw [List.take_append_drop]; exact ho
  obtain ⟨d1,d2,d3⟩:=List.pairwise_append.1 hd
  have hR:∀ y∈out.drop k,R x y:=fun y hy=>by
    obtain ⟨i,hi⟩:=List.getElem?_of_mem hy
    rw [List.getElem?_drop] at hi
    have:k+i<out.length:=(List.getElem?_eq_some_iff.1 hi).1
    exact h1 y (List.mem_of_mem_drop hy) (s1 (k+i) y (by omega) this hi)
  have hL:∀ y∈out.take k,R y x:=fun y hy=>by
    obtain ⟨i,hi⟩:=List.getElem?_of_mem hy
    have hik:i<k:=by have:=(List.getElem?_eq_some_iff.1 hi).1; simp at this; omega
    rw [List.getElem?_take_of_lt hik] at hi
    obtain ⟨z,z1,z2⟩:=s2 (by omega)
    have hz:=h2 z (List.mem_of_getElem? z1) z2
    by_cases e:i=k-1
    · subst e; rw [hi] at z1; injection z1 with z1; subst z1; exact hz
    · have hp:=List.pairwise_iff_getElem.1 ho i (k-1) (by omega) (by omega) (by omega)
      obtain ⟨_,e1⟩:=List.getElem?_eq_some_iff.1 hi
      obtain ⟨_,e2⟩:=List.getElem?_eq_some_iff.1 z1
      rw [e1,e2] at hp
      exact tr _ _ _ hp hz
  refine List.pairwise_append.2 ⟨d1,List.pairwise_cons.2 ⟨hR,d2⟩,fun y hy z hz=>?_⟩
  rcases List.mem_cons.1 hz with rfl | hz
  · exact hL y hy
  · exact d3 y hy z hz
theorem E8 (tr:∀ x y z,R x y→R y z→R x z) {S:α→Prop} (h1:∀ x y,S x→S y→lt x y=true→R x y) {D:α→α→Prop} (h2:∀ x y,S x→S y→D y x→lt x y=false→R y x) :
    ∀ (l acc:List α),acc.Pairwise R→(∀ x∈acc,S x)→(∀ x∈l,S x)→l.Pairwise D→(∀ x∈acc,∀ y∈l,D x y)→(l.foldl (Wa lt) acc).Pairwise R
  | [],acc,ha,_,_,_,_=>ha
  |
   x::l,acc,ha,hs,hl,hd,hx=>by
   rw [List.pairwise_cons] at hd
   refine E8 tr h1 h2 l (Wa lt acc x) ?_ ?_ (fun y hy=>hl y (List.mem_cons_of_mem _ hy)) hd.2 ?_
   · exact Qvq tr ha (fun y hy=>h1 x y (hl x (by simp)) (hs y hy)) (fun y hy=>h2 x y (hl x (by simp)) (hs y hy) (hx y hy x (by simp)))
   · intro y hy
     rcases Mi.1 hy with rfl | hy
     · exact hl _ (by simp)
     · exact hs y hy
   · intro y hy z hz
     rcases Mi.1 hy with rfl | hy
     · exact hd.1 z hz
     · exact hx y hy z (List.mem_cons_of_mem _ hz)
theorem Dd:∀ {l:List α},l.Pairwise R→∀ {u v:α},u∈l→v∈l→u≠v→R u v∨R v u
  | [],_,_,_,h,_,_=>by cases h
  |
   x::l,hp,u,v,hu,hv,hne=>by
   rw [List.pairwise_cons] at hp
   rcases List.mem_cons.1 hu with e | hu
   · rcases List.mem_cons.1 hv with e' | hv
     · exact absurd (e.trans e'.symm) hne
     · rw [e]; exact .inl (hp.1 v hv)
   · rcases List.mem_cons.1 hv with e' | hv
     · rw [e']; exact .inr (hp.1 u hu)
     · exact Dd hp.2 hu hv hne
end Srt
theorem Q4u:(1:Rat)⁻¹=1:=by
  have:=Rat.mul_inv_cancel (1:Rat) (by decide)
  grind
def px (p:Pt) (q:Rat):Rat:=Qg p.c.x q / (p.c.d:Rat)
def py (p:Pt) (q:Rat):Rat:=Qg p.c.y q / (p.c.d:Rat)
def V5 (q:Rat) (x y:Pt):Prop:=px x q<px y q∨px x q=px y q∧(py x q<py y q∨py x q=py y q∧x.id<y.id)
theorem Rm (q:Rat) (x:Pt):¬V5 q x x:=by unfold V5; grind
theorem Ts (q:Rat) (x y z:Pt) (h:V5 q x y) (h':V5 q y z):V5 q x z:=by unfold V5 at *; grind
theorem Qej {q:Rat} {x y:Pt} (h:x.id≠y.id) (h':¬V5 q x y):V5 q y x:=by unfold V5 at *; grind
theorem Qae {u v:Rat} {c d:Int} (hc:0<c) (hd:0<d):Qj (v*(c:Rat)-u*(d:Rat))=Qj (v / (d:Rat)-u / (c:Rat)):=by
  have hc':(0:Rat)<(c:Rat):=by exact_mod_cast hc
  have hd':(0:Rat)<(d:Rat):=by exact_mod_cast hd
  have e:v*(c:Rat)-u*(d:Rat)=((c:Rat)*(d:Rat))*(v / (d:Rat)-u / (c:Rat)):=by
    rw [Rat.div_def,Rat.div_def]
    have h1:=Rat.mul_inv_cancel (c:Rat) (by grind)
    have h2:=Rat.mul_inv_cancel (d:Rat) (by grind)
    grind
  rw [e,Wy (Rat.mul_pos hc' hd')]
theorem Qaf {x y:Pt} (hx:Sc x.c) (hy:Sc y.c) (q:Rat):Qj (Qg (Jd x.c y.c) q)=Qj (px y q-px x q):=by
  unfold Jd px; rw [Vq,Xl,Xl]; exact Qae hx.n.2.2.1 hy.n.2.2.1
theorem Qad {x y:Pt} (hx:Sc x.c) (hy:Sc y.c) (q:Rat):Qj (Qg (Jg x.c y.c) q)=Qj (py y q-py x q):=by
  unfold Jg py; rw [Vq,Xl,Xl]; exact Qae hx.n.2.2.1 hy.n.2.2.1
theorem L9 {a:Tm} (ha:Va a) {x y:Pt} (hx:Sc x.c) (hy:Sc y.c) {q:Rat} (h1:X4 (Zp a) (Jd x.c y.c)=Qj (Qg (Jd x.c y.c) q)) (h2:X4 (Zp a) (Jg x.c y.c)=Qj (Qg (Jg x.c y.c) q)):Xu (Zp a) x y=true↔V5 q x y:=by
  rw [Qaf hx hy] at h1
  rw [Qad hx hy] at h2
  have d1:=(H6 hx hy).dp
  have d2:=(H5 hx hy).dp
  unfold Xu
  simp only [Hg]
  have t1:=Qz (px y q-px x q)
  have t2:=Qz (py y q-py x q)
  by_cases e1:(Jd x.c y.c).length=0
  · rw [if_neg (by omega)]
    rw [List.eq_nil_of_length_eq_zero e1,Ab] at h1
    have:px x q=px y q:=by grind
    by_cases e2:(Jg x.c y.c).length=0
    · rw [if_neg (by omega)]
      rw [List.eq_nil_of_length_eq_zero e2,Ab] at h2
      unfold V5
      simp only [decide_eq_true_eq]
      grind
    · rw [if_pos (by omega)]
      have:=(G8 ha d2 e2).2
      unfold V5
      simp only [decide_eq_true_eq]
      grind
  · rw [if_pos (by omega)]
    have:=(G8 ha d1 e1).2
    unfold V5
    simp only [decide_eq_true_eq]
    grind
def Np (l:List Pt):List (List Int):=l.flatMap fun x=>l.flatMap fun y=>[Jd x.c y.c,Jg x.c y.c]
theorem Kt {l:List Pt} {x y:Pt} (hx:x∈l) (hy:y∈l):Jd x.c y.c∈Np l∧Jg x.c y.c∈Np l :=
  ⟨List.mem_flatMap.2 ⟨x,hx,List.mem_flatMap.2 ⟨y,hy,by simp⟩⟩,List.mem_flatMap.2 ⟨x,hx,List.mem_flatMap.2 ⟨y,hy,by simp⟩⟩⟩
theorem Qi1 {l:List Pt} (hl:∀ p∈l,Sc p.c):∀ p∈Np l,Cp p:=fun p hp=>by
  obtain ⟨x,hx,hp⟩:=List.mem_flatMap.1 hp
  obtain ⟨y,hy,hp⟩:=List.mem_flatMap.1 hp
  simp at hp
  rcases hp with rfl | rfl
  · exact H6 (hl x hx) (hl y hy)
  · exact H5 (hl x hx) (hl y hy)
theorem Qlu {l:List Pt} (hl:∀ p∈l,Sc p.c) (hd:l.Pairwise fun x y=>x.id≠y.id) {a:Tm} (ha:Va a):∃ y,Qu a y=-1∧∀ q,Qu a q=-1→q≤y→(∀ u∈l,∀ v∈l,(Xu (Zp a) u v=true↔V5 q u v))∧(X9 a l).Pairwise (V5 q):=by
  obtain ⟨y,y1,y2⟩:=Ac ha (Np l) fun p hp=>(Qi1 hl p hp).dp
  refine ⟨y,y1,fun q q1 q2=>?_⟩
  have h:=y2 q q1 q2
  have hb:∀ u∈l,∀ v∈l,(Xu (Zp a) u v=true↔V5 q u v):=fun u hu v hv=>L9 ha (hl u hu) (hl v hv) (h _ (Kt hu hv).1) (h _ (Kt hu hv).2)
  refine ⟨hb,?_⟩
  exact E8 (S:=fun x=>x∈l) (D:=fun x y=>x.id≠y.id) (Ts q) (fun u v hu hv h=>(hb u hu v hv).1 h) (fun u v hu hv hne h=>Qej (fun e=>hne e.symm) fun h'=>by
    rw [(hb u hu v hv).2 h'] at h; cases h) l [] .nil (fun x hx=>by cases hx) (fun x hx=>hx) hd (fun x hx=>by cases hx)
theorem Qhr {a b:Tm} {x y:Pt} (h:X4 (Zp b) (Fg x y)=X4 (Zp a) (Fg x y)):Xu (Zp b) x y=Xu (Zp a) x y:=by
  unfold Fg Ra at h
  unfold Xu
  simp only [Hg]
  by_cases e1:0<(Jd x.c y.c).length
  · rw [if_pos e1,if_pos e1]; rw [if_pos e1] at h; rw [h]
  · rw [if_neg e1,if_neg e1]; rw [if_neg e1] at h; rw [h]
theorem Ek {a b:Tm} {q r:Rat}:∀ (l:List Pt),(∀ u∈l,∀ v∈l,(Xu (Zp a) u v=true↔V5 q u v))→(∀ u∈l,∀ v∈l,(Xu (Zp b) u v=true↔V5 r u v))→l.Pairwise (V5 q)→(∀ x∈Yt (Zp a) l,X4 (Zp b) x.p=X4 (Zp a) x.p)→l.Pairwise (V5 r)∧Yt (Zp b) l=Yt (Zp a) l
  | [],_,_,_,_=>⟨.nil,rfl⟩
  | [x],_,_,_,_=>⟨List.pairwise_singleton _ _,rfl⟩
  |
   x::y::l,ha,hb,hp,hc=>by
   rw [List.pairwise_cons] at hp
   obtain ⟨i1,i2⟩:=Ek (a:=a) (b:=b) (q:=q) (r:=r) (y::l) (fun u hu v hv=>ha u (List.mem_cons_of_mem _ hu) v (List.mem_cons_of_mem _ hv)) (fun u hu v hv=>hb u (List.mem_cons_of_mem _ hu) v (List.mem_cons_of_mem _ hv)) hp.2 (fun z hz=>hc z (by simp only [Yt]; exact List.mem_cons_of_mem _ hz))
   have h0:X4 (Zp b) (Fg x y)=X4 (Zp a) (Fg x y):=hc (Tt (Zp a) x y) (by simp [Yt])
   have h1:V5 r x y:=(hb x (by simp) y (by simp)).1 (by rw [Qhr h0]; exact (ha x (by simp) y (by simp)).2 (hp.1 y (by simp)))
   refine ⟨List.pairwise_cons.2 ⟨fun z hz=>?_,i1⟩,?_⟩
   · rcases List.mem_cons.1 hz with rfl | hz
     · exact h1
     · exact Ts r x y z h1 ((List.pairwise_cons.1 i1).1 z hz)
   · simp only [Yt]
     rw [i2]; congr 1
     unfold Tt; rw [h0]
theorem Qab {sg:List Int→Int}:∀ {l:List Pt},∀ x∈Yt sg l,∃ u∈l,∃ v∈l,x.p=Fg u v
  | [],x,hx=>by cases hx
  | [_],x,hx=>by cases hx
  |
   a::b::l,x,hx=>by
   simp only [Yt] at hx
   rcases List.mem_cons.1 hx with rfl | hx
   · exact ⟨a,by simp,b,by simp,rfl⟩
   · obtain ⟨u,hu,v,hv,e⟩:=Qab (l:=b::l) x hx
     exact ⟨u,List.mem_cons_of_mem _ hu,v,List.mem_cons_of_mem _ hv,e⟩
theorem Qnc {l:List Pt} {u v:Pt} (hu:u∈l) (hv:v∈l):Fg u v∈Np l:=by
  unfold Fg Ra; split
  · exact (Kt hu hv).1
  · exact (Kt hu hv).2
theorem Quc {l:List Pt} {a:Tm}:∀ x∈bcS l a,x.p∈Np l:=fun x hx=>by
  obtain ⟨u,hu,v,hv,e⟩:=Qab x hx
  rw [e]; exact Qnc (Zb.1 hu) (Zb.1 hv)
theorem Qn4 (l:List Pt):(Np l).length=l.length*(l.length*2):=by
  have h1:∀ (x:Pt) (m:List Pt),(m.flatMap fun y=>[Jd x.c y.c,Jg x.c y.c]).length=m.length*2:=fun x m=>by
    induction m with
    | nil=>rfl
    | cons y m ih=>rw [List.flatMap_cons,List.length_append,ih,List.length_cons]; simp; omega
  have h2:∀ m:List Pt,(m.flatMap fun x=>l.flatMap fun y=>[Jd x.c y.c,Jg x.c y.c]).length=m.length*(l.length*2):=fun m=>by
    induction m with
    | nil=>simp
    | cons y m ih=>rw [List.flatMap_cons,List.length_append,ih,List.length_cons,h1,Nat.add_mul,Nat.one_mul,Nat.add_comm]
  exact h2 l
theorem Qsv {l:List Pt} (hl:∀ p∈l,Sc p.c) (hd:l.Pairwise fun x y=>x.id≠y.id) {a b:Tm} (ha:Va a) (hb:Va b) (h:∀ x∈bcS l a,X4 (Zp b) x.p=X4 (Zp a) x.p):X9 b l=X9 a l∧bcS l b=bcS l a:=by
  obtain ⟨q,q1,q2⟩:=Qlu hl hd ha
  obtain ⟨r,r1,r2⟩:=Qlu hl hd hb
  obtain ⟨a1,a2⟩:=q2 q q1 Rat.le_refl
  obtain ⟨b1,b2⟩:=r2 r r1 Rat.le_refl
  obtain ⟨c1,c2⟩:=Ek (a:=a) (b:=b) (X9 a l) (fun u hu v hv=>a1 u (Zb.1 hu) v (Zb.1 hv)) (fun u hu v hv=>b1 u (Zb.1 hu) v (Zb.1 hv)) a2 h
  have e:X9 b l=X9 a l:=O8 (Rm r) (Ts r) b2 c1 fun x=>by rw [Zb,Zb]
  exact ⟨e,by unfold bcS; rw [e,c2]⟩
end Orq

namespace Orq
theorem ang {ux uy vx vy wx wy:Rat} (hu:0<ux∨ux=0∧0<uy) (hv:0<vx∨vx=0∧0<vy) (hw:0<wx∨wx=0∧0<wy)
    (h1:0≤ux*vy-vx*uy) (h2:0≤vx*wy-wx*vy):0≤ux*wy-wx*uy∧(0<ux*vy-vx*uy∨0<vx*wy-wx*vy→0<ux*wy-wx*uy):=by
  have ux0:0≤ux:=by grind
  have wx0:0≤wx:=by grind
  rcases hv with hv | ⟨hv,hv2⟩
  · have e:vx*(ux*wy-wx*uy)=ux*(vx*wy-wx*vy)+wx*(ux*vy-vx*uy):=by grind
    have hux:0<ux:=by
      rcases hu with h | ⟨h,h'⟩
      · exact h
      · have:=Rat.mul_pos hv h'
        rw [h] at h1; grind
    have p1:=Rat.mul_nonneg ux0 h2
    have p2:=Rat.mul_nonneg wx0 h1
    have key:∀ z:Rat,vx*z=ux*(vx*wy-wx*vy)+wx*(ux*vy-vx*uy)→0≤z:=fun z hz=>by
      refine Rat.not_lt.1 fun hn=>?_
      have:=Rat.mul_pos hv (show 0 < -z by grind)
      grind
    refine ⟨key _ e,fun hs=>?_⟩
    rcases hw with hw | ⟨hw,hw2⟩
    · have hpos:0<vx*(ux*wy-wx*uy):=by
        rcases hs with hs | hs
        · have:=Rat.mul_pos hw hs; grind
        · have:=Rat.mul_pos hux hs; grind
      have h0:=key _ e
      refine Rat.not_le.1 fun hn=>?_
      have:ux*wy-wx*uy=0:=by grind
      rw [this] at hpos; grind
    · have:=Rat.mul_pos hux hw2
      rw [hw]; grind
  · rw [hv] at h1 h2
    have hw0:wx=0:=by
      rcases hw with hw | hw
      · have:=Rat.mul_pos hw hv2; grind
      · exact hw.1
    have hwy:0<wy:=by grind
    have p:=Rat.mul_nonneg ux0 (Rat.le_of_lt hwy)
    refine ⟨by rw [hw0]; grind,fun hs=>?_⟩
    rw [hv,hw0] at hs
    have hux:0<ux:=by
      rcases hs with hs | hs
      · refine Rat.not_le.1 fun hn=>?_
        have:ux=0:=by grind
        rw [this] at hs; grind
      · grind
    have:=Rat.mul_pos hux hwy
    rw [hw0]; grind
section
variable {α:Type} (X Y:α→Rat)
def lx (a b:α):Prop:=X a<X b∨X a=X b∧Y a<Y b
def J5 (a b c:α):Rat:=(X b-X a)*(Y c-Y a)-(X c-X a)*(Y b-Y a)
variable {X Y}
theorem J9 (a:α):¬lx X Y a a:=by unfold lx; grind
theorem Su {a b c:α} (h:lx X Y a b) (h':lx X Y b c):lx X Y a c:=by unfold lx at *; grind
theorem Wb {a b:α} (h:lx X Y a b):0<X b-X a∨X b-X a=0∧0<Y b-Y a:=by unfold lx at h; grind
theorem Mv (a b:α):J5 X Y a b a=0∧J5 X Y a b b=0:=by unfold J5; grind
theorem Qe1 (a b c:α):J5 X Y a c b=- J5 X Y a b c:=by unfold J5; grind
theorem Qb2 (a b c:α):J5 X Y a b c=(X b-X a)*(Y c-Y b)-(X c-X b)*(Y b-Y a):=by unfold J5; grind
def Edg (Q:α→α→Prop):List α→Prop
  | a::b::r=>Q a b∧Edg Q (b::r)
  | _=>True
def Cnv (R:α→α→α→Prop):List α→Prop
  | a::b::c::r=>R a b c∧Cnv R (b::c::r)
  | _=>True
theorem Edg.tail {Q:α→α→Prop} {a:α} {l:List α} (h:Edg Q (a::l)):Edg Q l:=by
  cases l with
  | nil=>trivial
  | cons b l=>exact h.2
theorem Cnv.tail {R:α→α→α→Prop} {a:α} {l:List α} (h:Cnv R (a::l)):Cnv R l:=by
  match l,h with
  | [],_=>trivial
  | [_],_=>trivial
  | b::c::l,h=>exact h.2
theorem Edg.imp {Q Q':α→α→Prop}:∀ {l:List α},(∀ a∈l,∀ b∈l,Q a b→Q' a b)→Edg Q l→Edg Q' l
  | [],_,_=>trivial
  | [_],_,_=>trivial
  | a::b::l,hq,h=>⟨hq a (by simp) b (by simp) h.1,Edg.imp (l:=b::l) (fun x hx y hy=>hq x (List.mem_cons_of_mem _ hx) y (List.mem_cons_of_mem _ hy)) h.2⟩
theorem Cnv.imp {R R':α→α→α→Prop}:∀ {l:List α},(∀ a∈l,∀ b∈l,∀ c∈l,R a b c→R' a b c)→Cnv R l→Cnv R' l
  | [],_,_=>trivial
  | [_],_,_=>trivial
  | [_,_],_,_=>trivial
  | a::b::c::l,hq,h=>⟨hq a (by simp) b (by simp) c (by simp) h.1,Cnv.imp (l:=b::c::l) (fun x hx y hy z hz=>hq x (List.mem_cons_of_mem _ hx) y (List.mem_cons_of_mem _ hy) z (List.mem_cons_of_mem _ hz)) h.2⟩
def K5 (s:α→α→α→Bool) (c:α):List α→List α
  | b::a::r=>if s a b c=true then b::a::r else K5 s c (a::r)
  | l=>l
def Jv (s:α→α→α→Bool):List α→List α→List α
  | acc,[]=>acc
  | acc,c::l=>Jv s (c::K5 s c acc) l
structure Stk (X Y:α→Rat) (P:List α) (st:List α):Prop where
  srt:st.Pairwise fun b a=>lx X Y a b
  mem:∀ p∈st,p∈P
  edg:Edg (fun b a=>∀ p∈P,0≤J5 X Y a b p) st
  cnv:Cnv (fun c b a=>0<J5 X Y a b c) st
theorem Stk.tail {P:List α} {a:α} {st:List α} (h:Stk X Y P (a::st)):Stk X Y P st:=⟨(List.pairwise_cons.1 h.srt).2,fun p hp=>h.mem p (List.mem_cons_of_mem _ hp),h.edg.tail,h.cnv.tail⟩
theorem Qr8 {P:List α} {s:α→α→α→Bool} {c:α} (hs:∀ a∈P,∀ b∈P,(s a b c=true↔0<J5 X Y a b c)) (hc:∀ p∈P,lx X Y p c) :
    ∀ (st:List α) (t:α),Stk X Y P (t::st)→(∀ p∈P,lx X Y t p→0≤J5 X Y t c p) →
    ∃ t' st',K5 s c (t::st)=t'::st'∧Stk X Y P (t'::st')∧(∀ p∈P,lx X Y t' p→0≤J5 X Y t' c p)∧(∀ a r,st'=a::r→0<J5 X Y a t' c)∧(t'::st').getLast? = (t::st).getLast?
  | [],t,h,h2=>⟨t,[],rfl,h,h2,fun a r e=>(by cases e),rfl⟩
  |
   a::r,t,h,h2=>by
   have ht:=h.mem t (by simp)
   have ha:=h.mem a (by simp)
   by_cases e:s a t c=true
   · refine ⟨t,a::r,by simp only [K5]; rw [if_pos e],h,h2,fun a' r' e'=>?_,rfl⟩
     injection e' with e1 _
     rw [←e1]; exact (hs a ha t ht).1 e
   · have hle:J5 X Y a t c≤0:=Rat.not_lt.1 fun h'=>e ((hs a ha t ht).2 h')
     have hat:lx X Y a t:=(List.pairwise_cons.1 h.srt).1 a (by simp)
     obtain ⟨t',st',g1,g2,g3,g4,g5⟩:=Qr8 hs hc r a h.tail fun p hp hap=>by
       have e1:=h.edg.1 p hp
       have k:=ang (Wb (hc a ha)) (Wb hat) (Wb hap) (by rw [Qe1] at *; unfold J5 at *; grind) (by unfold J5 at *; grind)
       unfold J5; grind
     exact ⟨t',st',by simp only [K5]; rw [if_neg e]; exact g1,g2,g3,g4,by rw [g5]; rfl⟩
theorem Od {P:List α} {c:α}:∀ (st:List α) (t:α),Stk X Y P (t::st)→lx X Y t c→(∀ a r,st=a::r→0<J5 X Y a t c)→Edg (fun b a=>0<J5 X Y a b c) (t::st)
  | [],_,_,_,_=>trivial
  | [a],t,_,_,h=>⟨h a [] rfl,trivial⟩
  |
   a::q::r,t,hS,htc,h=>by
   have h1:=h a (q::r) rfl
   have h0:0<J5 X Y q a t:=hS.cnv.1
   have p1:=List.pairwise_cons.1 hS.srt
   have p2:=List.pairwise_cons.1 p1.2
   have hat:lx X Y a t:=p1.1 a (by simp)
   have hqa:lx X Y q a:=p2.1 q (by simp)
   refine ⟨h1,Od (q::r) a hS.tail (Su hat htc) fun a' r' e=>?_⟩
   injection e with e _
   rw [←e]
   rw [Qb2] at h0 h1 ⊢
   have k:=(ang (Wb hqa) (Wb hat) (Wb htc) (Rat.le_of_lt h0) (Rat.le_of_lt h1)).2 (.inl h0)
   grind
theorem Qwl {P:List α} {t:α} {st:List α} {c:α} (h:Stk X Y P (t::st)) (hc:∀ p∈P,lx X Y p c) (hP:∀ p∈P,p=t∨lx X Y p t∨lx X Y t p) (hb:∀ p∈P,(t::st).getLast? = some p∨∃ b,(t::st).getLast? = some b∧lx X Y b p) (h2:∀ p∈P,lx X Y t p→0≤J5 X Y t c p) (h3:∀ a r,st=a::r→0<J5 X Y a t c):Stk X Y (P++[c]) (c::t::st):=by
  have ht:=h.mem t (by simp)
  have htc:=hc t ht
  have hf:=Od st t h htc h3
  refine ⟨List.pairwise_cons.2 ⟨fun p hp=>hc p (h.mem p hp),h.srt⟩,fun p hp=>?_,⟨fun p hp=>?_,?_⟩,?_⟩
  · rcases List.mem_cons.1 hp with rfl | hp
    · simp
    · exact List.mem_append_left _ (h.mem p hp)
  · rcases List.mem_append.1 hp with hp | hp
    · rcases hP p hp with rfl | hpt | htp
      · rw [(Mv p c).1]; exact Rat.le_refl
      · cases st with
        |
         nil =>
         exfalso
         rcases hb p hp with e | ⟨b,e,hb⟩
         · injection e with e; subst e; exact J9 _ hpt
         · injection e with e; subst e; exact J9 _ (Su hpt hb)
        |
         cons a r =>
         have e1:=h.edg.1 p hp
         have h3:=h3 a r rfl
         have hat:lx X Y a t:=(List.pairwise_cons.1 h.srt).1 a (by simp)
         have k:=(ang (Wb hpt) (Wb hat) (Wb htc) (by unfold J5 at *; grind) (by unfold J5 at *; grind)).1
         unfold J5; grind
      · exact h2 p hp htp
    · rw [List.mem_singleton.1 hp,(Mv t c).2]; exact Rat.le_refl
  · cases st with
    | nil=>trivial
    |
     cons a r =>
     have key:∀ l:List α,Edg (fun b a=>∀ p∈P,0≤J5 X Y a b p) l→Edg (fun b a=>0<J5 X Y a b c) l→Edg (fun b a=>∀ p∈P++[c],0≤J5 X Y a b p) l:=by
       intro l
       induction l with
       | nil=>intros; trivial
       |
        cons x l ih =>
        cases l with
        | nil=>intros; trivial
        |
         cons y l =>
         intro k1 k2
         refine ⟨fun p hp=>?_,ih k1.2 k2.2⟩
         rcases List.mem_append.1 hp with hp | hp
         · exact k1.1 p hp
         · rw [List.mem_singleton.1 hp]; exact Rat.le_of_lt k2.1
     exact key _ h.edg hf
  · cases st with
    | nil=>trivial
    | cons a r=>exact ⟨h3 a r rfl,h.cnv⟩
theorem I6 {s:α→α→α→Bool} {row:List α} (hs:∀ a∈row,∀ b∈row,∀ c∈row,(s a b c=true↔0<J5 X Y a b c)) (hrow:row.Pairwise (lx X Y)) :
    ∀ (l P:List α) (t:α) (st:List α),row=P++l→Stk X Y P (t::st)→P.getLast? = some t→(t::st).getLast? = P.head? →
    ∃ t' st',Jv s (t::st) l=t'::st'∧Stk X Y row (t'::st')∧row.getLast? = some t'∧(t'::st').getLast? = row.head?
  |
   [],P,t,st,e,h,h1,h2=>by
   rw [List.append_nil] at e; subst e
   exact ⟨t,st,rfl,h,h1,h2⟩
  |
   c::l,P,t,st,e,h,h1,h2=>by
   have hPm:∀ p∈P,p∈row:=fun p hp=>by rw [e]; exact List.mem_append_left _ hp
   have hcm:c∈row:=by rw [e]; simp
   have hpw:=hrow
   rw [e] at hpw
   obtain ⟨w1,w2,w3⟩:=List.pairwise_append.1 hpw
   have hc:∀ p∈P,lx X Y p c:=fun p hp=>w3 p hp c (by simp)
   have htop:∀ p∈P,p=t∨lx X Y p t:=fun p hp=>by
     obtain ⟨P1,rfl⟩:∃ P1,P=P1++[t]:=by
       have:=List.getLast?_eq_some_iff.1 h1
       exact this
     rcases List.mem_append.1 hp with hp | hp
     · exact .inr ((List.pairwise_append.1 w1).2.2 p hp t (by simp))
     · exact .inl (List.mem_singleton.1 hp)
   obtain ⟨t',st',g1,g2,g3,g4,g5⟩:=Qr8 (fun a ha b hb=>hs a (hPm a ha) b (hPm b hb) c hcm) hc st t h fun p hp htp=>by
     rcases htop p hp with rfl | h'
     · exact absurd htp (J9 _)
     · exact absurd (Su htp h') (J9 _)
   have tot:∀ p∈P,p=t'∨lx X Y p t'∨lx X Y t' p:=fun p hp=>by
     obtain ⟨i,hi,rfl⟩:=List.mem_iff_getElem.1 hp
     obtain ⟨j,hj,e2⟩:=List.mem_iff_getElem.1 (g2.mem t' (by simp))
     rcases Nat.lt_trichotomy i j with h' | h' | h'
     · exact .inr (.inl (by rw [←e2]; exact List.pairwise_iff_getElem.1 w1 i j hi hj h'))
     · subst h'; exact .inl e2
     · exact .inr (.inr (by rw [←e2]; exact List.pairwise_iff_getElem.1 w1 j i hj hi h'))
   have hPne:P≠[]:=fun h'=>by rw [h'] at h1; cases h1
   have hb:∀ p∈P,(t'::st').getLast? = some p∨∃ b,(t'::st').getLast? = some b∧lx X Y b p:=fun p hp=>by
     rw [g5,h2]
     cases P with
     | nil=>exact absurd rfl hPne
     |
      cons f P' =>
      rcases List.mem_cons.1 hp with rfl | hp
      · exact .inl rfl
      · exact .inr ⟨f,rfl,(List.pairwise_cons.1 w1).1 p hp⟩
   have hpush:=Qwl g2 hc tot hb g3 g4
   obtain ⟨t2,st2,k1,k2,k3,k4⟩:=I6 hs hrow l (P++[c]) c (t'::st') (by rw [e]; simp) hpush (by simp) (by
     rw [List.getLast?_cons_cons,g5,h2]
     cases P with
     | nil=>exact absurd rfl hPne
     | cons f P'=>rfl)
   exact ⟨t2,st2,by simp only [Jv]; rw [g1]; exact k1,k2,k3,k4⟩
theorem Qpn {P:List α} (tot:∀ p∈P,∀ q∈P,p=q∨lx X Y p q∨lx X Y q p) {z:α} :
    ∀ (L L':List α) (f:α),(f::L).Pairwise (lx X Y)→(f::L').Pairwise (lx X Y)→(∀ p∈f::L,p∈P)→(∀ p∈f::L',p∈P) →
    Edg (fun a b=>∀ p∈P,0≤J5 X Y a b p) (f::L)→Edg (fun a b=>∀ p∈P,0≤J5 X Y a b p) (f::L') →
    Cnv (fun a b c=>0<J5 X Y a b c) (f::L)→Cnv (fun a b c=>0<J5 X Y a b c) (f::L')→(f::L).getLast? = some z→(f::L').getLast? = some z→L=L':=by
  have one:∀ (L L':List α) (f b b':α),(f::b::L).Pairwise (lx X Y)→(f::b'::L').Pairwise (lx X Y)→(∀ p∈f::b::L,p∈P)→b'∈P →
      Edg (fun a b=>∀ p∈P,0≤J5 X Y a b p) (f::b::L)→0≤J5 X Y f b' b→Cnv (fun a b c=>0<J5 X Y a b c) (f::b::L)→(f::b::L).getLast? = some z→(f::b'::L').getLast? = some z→¬lx X Y b b':=by
    intro L L' f b b' s s' m m' e e' c l l' hlt
    have s1:=List.pairwise_cons.1 s
    have hfb:lx X Y f b:=s1.1 b (by simp)
    have hcol:J5 X Y f b b'=0:=by
      have:=e.1 b' m'
      rw [Qe1] at e'; grind
    cases L with
    |
     nil =>
     simp at l
     subst l
     have hz:b'=b∨lx X Y b' b:=by
       have:b∈f::b'::L':=List.mem_of_getLast? l'
       have s2:=(List.pairwise_cons.1 s').2
       rcases List.mem_cons.1 this with rfl | h
       · exact absurd hfb (J9 _)
       · rcases List.mem_cons.1 h with h | h
         · exact .inl h.symm
         · exact .inr ((List.pairwise_cons.1 s2).1 b h)
     rcases hz with rfl | hz
     · exact J9 _ hlt
     · exact J9 _ (Su hlt hz)
    |
     cons d M =>
     have h1:0<J5 X Y f b d:=c.1
     have h2:=e.2.1 b' m'
     have s2:=List.pairwise_cons.1 s1.2
     have hbd:lx X Y b d:=s2.1 d (by simp)
     have k:=(ang (Wb hlt) (Wb hfb) (Wb hbd) (by unfold J5 at hcol; grind) (by rw [Qb2] at h1; exact Rat.le_of_lt h1)).2 (.inr (by rw [Qb2] at h1; exact h1))
     unfold J5 at h2; grind
  intro L
  induction L with
  |
   nil =>
   intro L' f s s' m m' e e' c c' l l'
   simp at l
   cases L' with
   | nil=>rfl
   |
    cons b' M' =>
    exfalso
    subst l
    have h1:=(List.pairwise_cons.1 s').1 f (by
      rw [List.getLast?_cons_cons] at l'
      exact List.mem_of_getLast? l')
    exact J9 _ h1
  |
   cons b M ih =>
   intro L' f s s' m m' e e' c c' l l'
   cases L' with
   |
    nil =>
    exfalso
    simp at l'
    subst l'
    have h1:=(List.pairwise_cons.1 s).1 f (by
      rw [List.getLast?_cons_cons] at l
      exact List.mem_of_getLast? l)
    exact J9 _ h1
   |
    cons b' M' =>
    have hb:=m b (by simp)
    have hb':=m' b' (by simp)
    have heq:b=b':=by
      rcases tot b hb b' hb' with h | h | h
      · exact h
      · exact absurd h (one M M' f b b' s s' m hb' e (e'.1 b hb) c l l')
      · exact absurd h (one M' M f b' b s' s m' hb e' (e.1 b' hb') c' l' l)
    subst heq
    rw [List.getLast?_cons_cons] at l l'
    rw [ih M' b (List.pairwise_cons.1 s).2 (List.pairwise_cons.1 s').2 (fun p hp=>m p (List.mem_cons_of_mem _ hp)) (fun p hp=>m' p (List.mem_cons_of_mem _ hp)) e.2 e'.2 c.tail c'.tail l l']
end
end Orq

namespace Orr
open Go
structure RawInt where
  b:Bool
  l:List Nat
structure RawPt where
  x:List RawInt
  y:List RawInt
  d:RawInt
  id:Int
structure RawInt.Ok (z:RawInt):Prop where
  u:∀ u∈z.l,u<4294967296
structure RawPt.Ok (z:RawPt):Prop where
  x:∀ a∈z.x,a.Ok
  y:∀ a∈z.y,a.Ok
  d:z.d.Ok
  id:-9223372036854775808≤z.id∧z.id≤9223372036854775807
def RawInt.cut (z:RawInt):RawInt:=⟨z.b,z.l.take 1⟩
end Orr

namespace Orr
def Qiy (l:List Pt):Prop:=l.Pairwise fun a b=>a.id<b.id
theorem Qvn (id:Int):has [] id=false:=rfl
theorem Qq2 (p:Pt) (l:List Pt) (id:Int):has (p::l) id=if p.id<id then has l id else decide (p.id=id):=by
  by_cases h:p.id<id
  · rw [if_pos h]; unfold has; simp only [Lj]; rw [if_pos h]; simp
  · rw [if_neg h]; unfold has; simp only [Lj]; rw [if_neg h]; simp
theorem Qsh (p:Pt) (l:List Pt) (q:Pt):put (p::l) q=if p.id<q.id then p::put l q else q::p::l:=by
  unfold put
  simp only [Lj]
  split <;> simp
theorem Qki:∀ {l:List Pt} {id:Int},Qiy l→(has l id=true↔∃ p∈l,p.id=id)
  | [],id,_=>by simp [Qvn]
  |
   p::l,id,h=>by
   have h1:=List.pairwise_cons.1 h
   rw [Qq2]
   split
   · rename_i hlt
     rw [Qki h1.2]
     constructor
     · rintro ⟨x,hx,e⟩; exact ⟨x,List.mem_cons_of_mem _ hx,e⟩
     · rintro ⟨x,hx,e⟩
       rcases List.mem_cons.1 hx with rfl | hx
       · omega
       · exact ⟨x,hx,e⟩
   · rename_i hge
     rw [decide_eq_true_iff]
     constructor
     · intro e; exact ⟨p,List.mem_cons_self ..,e⟩
     · rintro ⟨x,hx,e⟩
       rcases List.mem_cons.1 hx with rfl | hx
       · exact e
       · have:=h1.1 x hx; omega
theorem Qsg {l:List Pt} {q:Pt} (h:l.length<6):Hq l q=if has l q.id=true then 6 else 0:=by
  unfold Hq
  split
  · rfl
  · rw [if_neg (by omega)]
end Orr

namespace Orr
open Go
section
variable {α:Type} {lt:α→α→Bool}
theorem Qm4 (out:List α) (c:α):(Wa lt out c).Perm (c::out):=by
  unfold Wa
  exact (List.perm_middle).trans (by rw [List.take_append_drop])
theorem E7:∀ (l acc:List α),(l.foldl (Wa lt) acc).Perm (l++acc)
  | [],acc=>List.Perm.refl _
  |
   c::l,acc=>by
   simp only [List.foldl_cons]
   exact (E7 l _).trans (((Qm4 acc c).append_left l).trans List.perm_middle)
theorem Qik (l:List α):(Wm lt l).Perm l:=by
  have:=E7 (lt:=lt) l []
  rwa [List.append_nil] at this
end
def Q4f (l:List Pt):Prop:=l.Pairwise fun a b=>a.id≠b.id
end Orr

namespace Orr
open Go
theorem Qqm (c:Int) (l:List Int):Xf (l.map (· * c))=Xf l*c.natAbs:=by
  have key:∀ (l:List Int) (g:Nat),(l.map (· * c)).foldl (fun g z=>Nat.gcd g z.natAbs) (g*c.natAbs)=l.foldl (fun g z=>Nat.gcd g z.natAbs) g*c.natAbs:=by
    intro l
    induction l with
    | nil=>intro g; rfl
    |
     cons z l ih =>
     intro g
     simp only [List.map_cons,List.foldl_cons,Int.natAbs_mul,Nat.gcd_mul_right]
     exact ih _
  have:=key l 0
  rwa [Nat.zero_mul] at this
end Orr

namespace Orr
def Q2q (s m:Pt×Pt):Bool:=decide (m.1.id≠s.1.id) || decide (m.2.id≠s.2.id)
end Orr

namespace Orr
def U4 (l:List (List (List Int))):List (List LV):=l.map fun r=>[.row (r.map fun p=>[pl p])]
abbrev Sl (r:List (List Int)):List (List LV):=r.map fun p=>[pl p]
theorem Tw (l:List (List (List Int))):(U4 l).length=l.length:=by simp [U4]
def Rq (i:Nat) (rows:List (List (List Int))):Nat→List (List (List Int))
  | 0=>[]
  | j+1=>if j=i then Rq i rows j else Rq i rows j++[(rows.getD j []).drop 1]
def Sk (rows:List (List (List Int))) (i:Nat):List (List (List Int)):=Rq i rows rows.length
def Kf (f:Nat→List Int) (rows:List (List (List Int))):Nat→List Int
  | 0=>[]
  |
   i+1=>if ((rows.getD i []).getD 0 []).length=0 then Kf f rows i else
   if i % 2=0 then Mx (Kf f rows i) (Zn ((rows.getD i []).getD 0 []) (f i)) else We (Kf f rows i) (Zn ((rows.getD i []).getD 0 []) (f i))
def Wc:Nat→List (List (List Int))→List Int
  | 0,_=>[1]
  | k+1,rows=>Kf (fun i=>Wc k (Sk rows i)) rows (k+1)
structure Sq (s:Nat) (ds:List Nat) (k w:Nat) (rows:List (List (List Int))):Prop where
  l:rows.length=k
  w:∀ r∈rows,r.length=w
  t:∀ r∈rows,∀ p∈r,Qm p
  b:∀ r∈rows,∀ p∈r,Bd s p
  n:∀ r∈rows,∀ (j:Nat) (p:List Int),r[j]? = some p→p.length≤ds.getD j 0+1
theorem Au {i:Nat} {rows:List (List (List Int))}:∀ {j:Nat} {r:List (List Int)},j≤rows.length→r∈Rq i rows j→∃ q∈rows,r=q.drop 1
  | 0,r,_,h=>by simp [Rq] at h
  |
   j+1,r,hj,h=>by
   simp only [Rq] at h
   split at h
   · exact Au (by omega) h
   · rcases List.mem_append.1 h with h | h
     · exact Au (by omega) h
     · rw [List.mem_singleton.1 h]
       exact ⟨rows.getD j [],List.mem_of_getElem? (i:=j) (by rw [List.getD_eq_getElem?_getD,List.getElem?_eq_getElem (by omega)]; rfl),rfl⟩
theorem As {i:Nat} {rows:List (List (List Int))}:∀ (j:Nat),(Rq i rows j).length=if i<j then j-1 else j
  | 0=>rfl
  |
   j+1=>by
   have ih:=As (i:=i) (rows:=rows) j
   simp only [Rq]
   split
   · rename_i e; subst e; rw [ih,if_neg (by omega),if_pos (by omega)]; omega
   · rw [List.length_append,ih,List.length_singleton]
     split <;> split <;> omega
theorem Sq.min {s d k w:Nat} {ds:List Nat} {rows:List (List (List Int))} (h:Sq s (d::ds) (k+1) (w+1) rows) {i:Nat} (hi:i<k+1):Sq s ds k w (Sk rows i):=by
  have hl:=h.l
  have hm:∀ {r:List (List Int)},r∈Sk rows i→∃ q∈rows,r=q.drop 1:=fun h=>Au (Nat.le_refl _) h
  refine ⟨by unfold Sk; rw [As,hl,if_pos hi]; omega,fun r hr=>?_,fun r hr p hp=>?_,fun r hr p hp=>?_,fun r hr j p hp=>?_⟩
  · obtain ⟨q,hq,rfl⟩:=hm hr
    rw [List.length_drop,h.w q hq]; omega
  all_goals obtain ⟨q,hq,rfl⟩:=hm hr
  · exact h.t q hq p (List.mem_of_mem_drop hp)
  · exact h.b q hq p (List.mem_of_mem_drop hp)
  · rw [List.getElem?_drop] at hp
    have:=h.n q hq (1+j) p hp
    rw [Nat.add_comm 1 j] at this
    exact this
theorem Sq.at {s d k w:Nat} {ds:List Nat} {rows:List (List (List Int))} (h:Sq s (d::ds) k (w+1) rows) {i:Nat} (hi:i<k):∃ p r,rows[i]? = some (p::r)∧(rows.getD i []).getD 0 []=p∧Qm p∧Bd s p∧p.length≤d+1:=by
  obtain ⟨r,hr⟩:∃ r,rows[i]? = some r:=⟨_,List.getElem?_eq_getElem (by rw [h.l]; exact hi)⟩
  have hm:=List.mem_of_getElem? hr
  cases r with
  | nil=>have:=h.w _ hm; simp at this
  |
   cons p r =>
   have e:rows.getD i []=p::r:=by rw [List.getD_eq_getElem?_getD,hr]; rfl
   refine ⟨p,r,hr,by rw [e]; rfl,h.t _ hm p (by simp),h.b _ hm p (by simp),h.n _ hm 0 p rfl⟩
theorem Qbf {s d k w:Nat} {ds:List Nat} {f:Nat→List Int} {rows:List (List (List Int))} {B L:Nat} (h:Sq s (d::ds) k (w+1) rows) (hn:d<31) (hf:∀ i,i<k→Bd B (f i)∧(f i).length≤L+1):∀ i,i≤k→Qm (Kf f rows i)∧Bd (s+B+5+i) (Kf f rows i)∧(Kf f rows i).length≤d+L+1
  | 0,_=>⟨rfl,fun z hz=>(by cases hz),Nat.zero_le _⟩
  |
   i+1,hi=>by
   obtain ⟨h1,h2,h3⟩:=Qbf h hn hf i (by omega)
   obtain ⟨p,r,_,e,t,b,l⟩:=h.at (i:=i) (by omega)
   obtain ⟨f1,f2⟩:=hf i (by omega)
   have hp1:Bd (s+B+5) (Zn p (f i)):=Qau b f1 (by omega)
   have hp2:=Ap p (f i)
   simp only [Kf]
   rw [e]
   split
   · exact ⟨h1,Qc h2 (by omega),h3⟩
   · split
     · exact ⟨Zc _ _,Qc (Qi8 h2 hp1) (by omega),Nat.le_trans (Qeh _ _) (by omega)⟩
     · exact ⟨Zc _ _,Qc (P5 h2 hp1) (by omega),Nat.le_trans (Rk _ _) (by omega)⟩
theorem Qb3 {s:Nat}:∀ (k:Nat) (ds:List Nat) (rows:List (List (List Int))),k≤4→ds.length=k→ds.sum<31→Sq s ds k k rows→Qm (Wc k rows)∧Bd (k*(s+10)+1) (Wc k rows)∧(Wc k rows).length≤ds.sum+1
  | 0,ds,rows,_,_,_,_=>⟨rfl,fun z hz=>(by simp [Wc] at hz; subst hz; rw [Nat.zero_mul]; decide),by simp [Wc]⟩
  | k+1,[],rows,_,hl,_,_=>by simp at hl
  |
   k+1,d::ds,rows,hk,hl,hd,h=>by
   rw [List.sum_cons] at hd
   have ih:=fun i (hi:i<k+1)=>Qb3 k ds (Sk rows i) (by omega) (by simpa using hl) (by omega) (h.min hi)
   obtain ⟨h1,h2,h3⟩:=Qbf (f:=fun i=>Wc k (Sk rows i)) (B:=k*(s+10)+1) (L:=ds.sum) h (by omega) (fun i hi=>⟨(ih i hi).2.1,(ih i hi).2.2⟩) (k+1) (Nat.le_refl _)
   have e1:(k+1)*(s+10)=k*(s+10)+(s+10):=Nat.succ_mul ..
   rw [List.sum_cons]
   exact ⟨h1,Qc h2 (by omega),h3⟩
def Qe2 (a b c:Crv):List (List (List Int)):=[[a.x,a.y,[a.d]],[b.x,b.y,[b.d]],[c.x,c.y,[c.d]]]
def Zs (a b c:Crv):List Int:=Wc 3 (Qe2 a b c)
end Orr

namespace Orr
open Go Go.Proofs Orq
set_option maxRecDepth 10000
theorem gz {P:Program} [Mo P] {n:Nat} {Q:Exit→Sg→List OB→Prop} {L L':Sg} {B B':List OB} (i:Nat) {it:List It} (hs:Jj it=true) (h:Qsf [i] L B=some (L',B')) (k:AK P n Q it L' B'):AK P n Q it L B:=AK.sub (Lk h) hs k
theorem Ib {r:List (List Int)} {i:Nat} {p:List Int} (h:r[i]? = some p):(Sl r)[i]? = some [pl p]:=J0 h
theorem Ua {l:List (List (List Int))} {i:Nat} {r:List (List Int)} (h:l[i]? = some r):(U4 l)[i]? = some [.row (Sl r)]:=J0 h
theorem Qy4 {r:List (List Int)} (ht:∀ p∈r,Qm p) (hb:∀ p∈r,Bd 1000000 p) (hl:∀ p∈r,p.length≤1000000) (hn:r.length≤1000):Qf Tryz.prog 160 [.one (.row (Sl r))] [.one (.row (Sl r))]:=by
  have hrl:(Sl r).length=r.length:=by simp
  refine Jb Tryz.func160 rfl ?_
  refine go tt [.o 3 24 1] rfl trivial ?_
  refine lp (S:=Nat) 1 (fun L1 i=>(8,.v (.one (.int .i64 (i:Int))))::(3,.v (.one (.orow 0 1 none)))::L1) (fun i=>[.row false 24 1 (Sl (r.take i))]) (fun i=>r.length-i) (fun i=>i≤r.length) 0 (Nat.zero_le _) rfl (fun _ _=>rfl) rfl fun i hi=>?_
  by_cases h:i<r.length
  · obtain ⟨p,hp⟩:∃ p,r[i]? = some p:=⟨_,List.getElem?_eq_getElem h⟩
    have hm:=List.mem_of_getElem? hp
    have hs:∀ y∈[[pl p]],y.length=1:=fun y hy=>by rw [List.mem_singleton.1 hy]; rfl
    have e:Sl (r.take (i+1))=Sl (r.take i)++[[pl p]]:=by rw [List.take_succ,hp]; simp
    refine go tt [.t (decide_eq_true (by omega)),.x (Ib hp),.c [] (Zy (ht p hm) (by have:=hl p hm; omega) (Qc (hb p hm) (by decide))),.s (sz:=1) hs] rfl (by simp [Qa] <;> omega) ?_
    exact rd (i+1) (by omega) h (by rw [e]; rfl)
  · obtain rfl:i=r.length:=by omega
    rw [List.take_length]
    exact en tt [.f (decide_eq_false (by omega))] rfl rfl trivial
theorem Q15 {s k w:Nat} {ds:List Nat} {rows:List (List (List Int))} (h:Sq s ds k k rows) (_hw:w=k) (hk:k≤4):Qf Tryz.prog 206 [.one (.row (U4 rows))] [.one (.bool true)]:=by
  have hrl:=Tw rows
  have hl:=h.l
  refine Jb Tryz.func206 rfl ?_
  refine go tt [] rfl trivial ?_
  refine lp (S:=Nat) 0 (fun L1 i=>(7,.v (.one (.int .i64 (i:Int))))::L1) (fun _=>[]) (fun i=>rows.length-i) (fun i=>i≤rows.length) 0 (Nat.zero_le _) rfl (fun _ _=>rfl) rfl fun i hi=>?_
  by_cases hlt:i<rows.length
  · obtain ⟨r,hr⟩:∃ r,rows[i]? = some r:=⟨_,List.getElem?_eq_getElem hlt⟩
    have hw:=h.w r (List.mem_of_getElem? hr)
    have hql:(Sl r).length=r.length:=by simp
    refine go tt [.t (decide_eq_true (by omega)),.x (Ua hr),.f (decide_eq_false (fun h=>h (by omega)))] rfl (by simp [Qa] <;> omega) ?_
    exact rd (i+1) (by omega) hlt rfl
  · exact en tt [.f (decide_eq_false (by omega))] rfl (by rw [decide_eq_true (by omega:((U4 rows).length:Int)≤4)]) trivial
theorem Qux {s k w:Nat} {ds:List Nat} {rows:List (List (List Int))} (h:Sq s ds k w rows) (hs:s≤1000000) (hk:k≤4) (hw:w≤4) (hd:∀ j,ds.getD j 0≤1000) (i:Nat):Qf Tryz.prog 238 [.one (.int .i64 (i:Int)),.one (.int .i64 0),.one (.row (U4 rows))] [.one (.row (U4 (Sk rows i)))]:=by
  have hrl:=Tw rows
  have hl:=h.l
  have hml:∀ j,j≤rows.length→(U4 (Rq i rows j)).length≤4:=fun j hj=>by
    rw [Tw,As]; split <;> omega
  refine Jb Tryz.func238 rfl ?_
  refine go tt [.o 7 227 1] rfl trivial ?_
  refine lp (S:=Nat) 1 (fun L1 j=>(15,.v (.one (.int .i64 (j:Int))))::(7,.v (.one (.orow 0 1 none)))::L1) (fun j=>[.row false 227 1 (U4 (Rq i rows j))]) (fun j=>rows.length-j) (fun j=>j≤rows.length) 0 (Nat.zero_le _) rfl (fun _ _=>rfl) rfl fun j hj=>?_
  have hmlj:=hml j hj
  by_cases hlt:j<rows.length
  · obtain ⟨r,hr⟩:∃ r,rows[j]? = some r:=⟨_,List.getElem?_eq_getElem hlt⟩
    have hm:=List.mem_of_getElem? hr
    have hw:=h.w r hm
    have hql:(Sl r).length=r.length:=by simp
    by_cases hij:j=i
    · have e:Rq i rows (j+1)=Rq i rows j:=by simp only [Rq]; rw [if_pos hij]
      refine go tt [.t (decide_eq_true (by omega)),.x (Ua hr),.t (decide_eq_true (by omega))] rfl (by simp [Qa] <;> omega) ?_
      exact rd (j+1) (by omega) hlt (by rw [e]; rfl)
    · have e:Rq i rows (j+1)=Rq i rows j++[r.drop 1]:=by
        simp only [Rq]; rw [if_neg hij,List.getD_eq_getElem?_getD,hr]; rfl
      refine go tt [.t (decide_eq_true (by omega)),.x (Ua hr),.f (decide_eq_false (by omega)),.o 10 24 1] rfl (by simp [Qa]) ?_
      refine lp (S:=Nat) 2 (fun L1 c=>(25,.v (.one (.int .i64 (c:Int))))::(10,.v (.one (.orow 1 1 none)))::L1) (fun c=>[.row false 227 1 (U4 (Rq i rows j)),.row false 24 1 (Sl ((r.take c).drop 1))]) (fun c=>r.length-c) (fun c=>c≤r.length) 0 (Nat.zero_le _) rfl (fun _ _=>rfl) rfl fun c hc=>?_
      by_cases hcl:c<r.length
      · obtain ⟨p,hp⟩:∃ p,r[c]? = some p:=⟨_,List.getElem?_eq_getElem hcl⟩
        have hpm:=List.mem_of_getElem? hp
        by_cases h0:c=0
        · subst h0
          refine go tt [.t (decide_eq_true (by omega)),.x (Ib hp),.f (decide_eq_false (by simp))] rfl (by simp [Qa]) ?_
          exact rd 1 (by omega) hcl (by rw [List.take_succ,hp]; rfl)
        · have hs1:∀ y∈[[pl p]],y.length=1:=fun y hy=>by rw [List.mem_singleton.1 hy]; rfl
          have e2:Sl ((r.take (c+1)).drop 1)=Sl ((r.take c).drop 1)++[[pl p]]:=by
            rw [List.take_succ,hp,List.drop_append_of_le_length (by rw [List.length_take]; omega)]; simp
          refine go tt [.t (decide_eq_true (by omega)),.x (Ib hp),.t (decide_eq_true (by omega)),.c [] (Zy (h.t r hm p hpm) (by have:=h.n r hm c p hp; have:=hd c; omega) (Qc (h.b r hm p hpm) (by omega))),.s (sz:=1) hs1] rfl (by simp [Qa] <;> omega) ?_
          exact rd (c+1) (by omega) hcl (by rw [e2]; rfl)
      · obtain rfl:c=r.length:=by omega
        rw [List.take_length]
        have hs1:∀ y∈[[LV.row (Sl (r.drop 1))]],y.length=1:=fun y hy=>by rw [List.mem_singleton.1 hy]; rfl
        refine go tt [.f (decide_eq_false (by omega))] rfl trivial ?_
        refine gz 1 rfl rfl ?_
        refine go tt [.s (sz:=1) hs1] rfl (by simp [Qa] <;> omega) ?_
        exact rd (j+1) (by omega) hlt (by rw [e]; simp [U4]; rfl)
  · obtain rfl:j=rows.length:=by omega
    exact en tt [.f (decide_eq_false (by omega))] rfl rfl trivial
theorem C5:∀ (ds:List Nat) (j:Nat),ds.getD j 0≤ds.sum
  | [],j=>by simp
  | d::ds,0=>by simp
  |
   d::ds,j+1=>by
   have:=C5 ds j
   rw [List.sum_cons]
   show ds.getD j 0≤_
   omega
theorem Qxv {s:Nat} (hs:s≤100000):∀ (k:Nat) (ds:List Nat) (rows:List (List (List Int))),k≤4→ds.length=k→ds.sum<31→Sq s ds k k rows→Qf Tryz.prog 207 [.one (.row (U4 rows))] [pr (Wc k rows)]
  |
   0,ds,rows,_,_,_,h=>by
   have e:=List.eq_nil_of_length_eq_zero h.l
   subst e
   have co:=Qdf (p:=[1]) (by decide) (by decide)
   exact w tt Tryz.func207 rfl [.t rfl,.c [] co] rfl rfl trivial
  | k+1,[],_,_,hl,_,_=>by simp at hl
  |
   k+1,d::ds,rows,hk,hl,hd,h=>by
   rw [List.sum_cons] at hd
   have hl':ds.length=k:=by simpa using hl
   have hrl:=Tw rows
   have hrn:=h.l
   have hmin:=fun i (hi:i<k+1)=>h.min hi
   have ih:=fun i (hi:i<k+1)=>Qxv hs k ds (Sk rows i) (by omega) hl' (by omega) (hmin i hi)
   have hok:=fun i (hi:i<k+1)=>Qb3 k ds (Sk rows i) (by omega) hl' (by omega) (hmin i hi)
   have hb:k*(s+10)+1≤500000:=by
     have:k*(s+10)≤4*(100010):=Nat.mul_le_mul (by omega) (by omega)
     omega
   have hds:=Qbf (f:=fun i=>Wc k (Sk rows i)) (B:=k*(s+10)+1) (L:=ds.sum) h (by omega) (fun i hi=>⟨(hok i hi).2.1,(hok i hi).2.2⟩)
   have cm:=Qux h (by omega) hk hk (fun j=>by have:=C5 (d::ds) j; rw [List.sum_cons] at this; omega)
   show Qf Tryz.prog 207 [.one (.row (U4 rows))] [pr (Kf (fun i=>Wc k (Sk rows i)) rows (k+1))]
   obtain ⟨f,hf⟩:∃ f,f=fun i=>Wc k (Sk rows i):=⟨_,rfl⟩
   rw [←hf] at hds ⊢
   have hfi:∀ i,f i=Wc k (Sk rows i):=fun i=>by rw [hf]
   refine Jb Tryz.func207 rfl ?_
   refine go tt [.f (decide_eq_false (by omega)),.z 3] rfl trivial ?_
   refine lp (S:=Nat) 0 (fun L1 i=>(14,.v (.one (.int .i64 (i:Int))))::(3,.v (pr (Kf f rows i)))::L1) (fun _=>[]) (fun i=>k+1-i) (fun i=>i≤k+1) 0 (Nat.zero_le _) rfl (fun _ _=>rfl) rfl fun i hi=>?_
   obtain ⟨d1,d2,d3⟩:=hds i hi
   by_cases hlt:i<k+1
   · obtain ⟨p,r,hr,e,t,b,l⟩:=h.at hlt
     have hx0:(Sl (p::r))[0]? = some [pl p]:=rfl
     have Mg:(p.map Z1).length=p.length:=by simp
     have cn:=Zy t (by omega) (Qc b (by omega))
     by_cases h0:p.length=0
     · have es:Kf f rows (i+1)=Kf f rows i:=by simp only [Kf]; rw [e,if_pos h0]
       refine go tt [.t (decide_eq_true (by omega)),.x (Ua hr),.x hx0,.c [] cn,.t (decide_eq_true (by omega))] rfl (by simp [Qa] <;> omega) ?_
       exact rd (i+1) (by omega) hlt (by rw [es]; rfl)
     · obtain ⟨k1,k2,k3⟩:=hok i hlt
       have ci:=ih i hlt
       have cp:=Qoo (p:=p) (q:=f i) t (by rw [hfi]; exact k1) (by omega) (by rw [hfi]; omega) b (by rw [hfi]; exact k2) (by omega)
       have hmb:Bd (s+(k*(s+10)+1)+5) (Zn p (f i)):=Qau b (by rw [hfi]; exact k2) (by omega)
       have hml:=Ap p (f i)
       have hfl:(f i).length≤ds.sum+1:=by rw [hfi]; exact k3
       rw [←hfi] at ci
       by_cases h2:i % 2=0
       · have es:Kf f rows (i+1)=Mx (Kf f rows i) (Zn p (f i)):=by simp only [Kf]; rw [e,if_neg h0,if_pos h2]
         refine go tt [.t (decide_eq_true (by omega)),.x (Ua hr),.x hx0,.c [] cn,.f (decide_eq_false (by omega)),.x hx0,.c [] (cm i),.c [] ci,.c [] cp,.r 34 (eI (b:=((i % 2:Nat):Int)) rfl),.t (decide_eq_true (by omega)),.c [] (Qol (p:=Kf f rows i) (q:=Zn p (f i)) (by omega) (by omega) (Qc d2 (by omega)) (Qc hmb (by omega)))] rfl (by simp [Qa] <;> omega) ?_
         exact rd (i+1) (by omega) hlt (by rw [es]; rfl)
       · have es:Kf f rows (i+1)=We (Kf f rows i) (Zn p (f i)):=by simp only [Kf]; rw [e,if_neg h0,if_neg h2]
         refine go tt [.t (decide_eq_true (by omega)),.x (Ua hr),.x hx0,.c [] cn,.f (decide_eq_false (by omega)),.x hx0,.c [] (cm i),.c [] ci,.c [] cp,.r 34 (eI (b:=((i % 2:Nat):Int)) rfl),.f (decide_eq_false (by omega)),.c [] (Ed (p:=Kf f rows i) (q:=Zn p (f i)) (by omega) (by omega) (Qc d2 (by omega)) (Qc hmb (by omega)))] rfl (by simp [Qa] <;> omega) ?_
         exact rd (i+1) (by omega) hlt (by rw [es]; rfl)
   · obtain rfl:i=k+1:=by omega
     exact en tt [.f (decide_eq_false (by omega))] rfl rfl trivial
theorem Q1r {s:Nat} (hs:s≤100000) {k:Nat} {ds:List Nat} {rows:List (List (List Int))} (hk:k≤4) (hl:ds.length=k) (hd:ds.sum<31) (h:Sq s ds k k rows):Qf Tryz.prog 161 [.one (.row (U4 rows))] [pr (Wc k rows),.one (.int .i64 0)] :=
  w tt Tryz.func161 rfl [.c [] (Q15 h rfl hk),.f rfl,.c [] (Qxv hs k ds rows hk hl hd h)] rfl rfl trivial
theorem Qgv {k:Crv} (hk:Sc k):Qf Tryz.prog 159 [.agg (cl k)] [.one (.row (Sl [k.x,k.y,[k.d]]))]:=by
  have h0:k.d≠0:=by have:=hk.n.2.2.1; omega
  have td:Qm [k.d]:=by unfold Qm; simp [Qp,h0]
  have cd:=Qy4 (r:=[k.x,k.y,[k.d]]) (fun p hp=>by
      rcases List.mem_cons.1 hp with rfl | hp
      · exact hk.n.1
      rcases List.mem_cons.1 hp with rfl | hp
      · exact hk.n.2.1
      · rw [List.mem_singleton.1 hp]; exact td) (fun p hp=>by
      rcases List.mem_cons.1 hp with rfl | hp
      · exact Qc hk.c.x (by decide)
      rcases List.mem_cons.1 hp with rfl | hp
      · exact Qc hk.c.y (by decide)
      · rw [List.mem_singleton.1 hp]
        intro z hz; rw [List.mem_singleton.1 hz]; exact Nat.le_trans hk.c.d (by decide)) (fun p hp=>by
      rcases List.mem_cons.1 hp with rfl | hp
      · have:=hk.c.lx; omega
      rcases List.mem_cons.1 hp with rfl | hp
      · have:=hk.c.ly; omega
      · rw [List.mem_singleton.1 hp]; show 1≤1000000; decide) (by show 3≤1000; decide)
  exact w tt Tryz.func159 rfl [.c [] (P7 hk.n (hk.c.mono (by decide) (by decide))),.c [] cd] rfl rfl trivial
theorem Qfv {a b c:Crv} (ha:Sc a) (hb:Sc b) (hc:Sc c):Sq 90 [2,2,0] 3 3 (Qe2 a b c):=by
  have key:∀ k:Crv,Sc k→(∀ p∈[k.x,k.y,[k.d]],Qm p∧Bd 90 p)∧∀ (j:Nat) (p:List Int),[k.x,k.y,[k.d]][j]? = some p→p.length≤[2,2,0].getD j 0+1:=fun k hk=>by
    have h0:k.d≠0:=by have:=hk.n.2.2.1; omega
    have td:Qm [k.d]:=by unfold Qm; simp [Qp,h0]
    refine ⟨fun p hp=>?_,fun j p hp=>?_⟩
    · rcases List.mem_cons.1 hp with rfl | hp
      · exact ⟨hk.n.1,hk.c.x⟩
      rcases List.mem_cons.1 hp with rfl | hp
      · exact ⟨hk.n.2.1,hk.c.y⟩
      · rw [List.mem_singleton.1 hp]
        exact ⟨td,fun z hz=>by rw [List.mem_singleton.1 hz]; exact hk.c.d⟩
    · match j,hp with
      | 0,hp=>injection hp with hp; subst hp; exact hk.c.lx
      | 1,hp=>injection hp with hp; subst hp; exact hk.c.ly
      | 2,hp=>injection hp with hp; subst hp; exact Nat.le_refl _
      | j+3,hp=>simp at hp
  have hr:∀ r∈Qe2 a b c,∃ k:Crv,Sc k∧r=[k.x,k.y,[k.d]]:=fun r hr=>by
    rcases List.mem_cons.1 hr with rfl | hr
    · exact ⟨a,ha,rfl⟩
    rcases List.mem_cons.1 hr with rfl | hr
    · exact ⟨b,hb,rfl⟩
    · rw [List.mem_singleton.1 hr]; exact ⟨c,hc,rfl⟩
  refine ⟨rfl,fun r h=>?_,fun r h p hp=>?_,fun r h p hp=>?_,fun r h j p hp=>?_⟩
  all_goals obtain ⟨k,hk,rfl⟩:=hr r h
  · rfl
  · exact ((key k hk).1 p hp).1
  · exact ((key k hk).1 p hp).2
  · exact (key k hk).2 j p hp
theorem Ba {a b c:Crv} (ha:Sc a) (hb:Sc b) (hc:Sc c):Cp (Zs a b c):=by
  obtain ⟨h1,h2,h3⟩:=Qb3 3 [2,2,0] (Qe2 a b c) (by decide) rfl (by decide) (Qfv ha hb hc)
  exact ⟨h1,Nat.le_trans h3 (by decide),Qc h2 (by decide)⟩
theorem Qde {a b c:Crv} (ha:Sc a) (hb:Sc b) (hc:Sc c):Qf Tryz.prog 119 [.agg (cl a),.agg (cl b),.agg (cl c)] [pr (Zs a b c)]:=by
  have cd:=Q1r (by decide) (k:=3) (ds:=[2,2,0]) (by decide) rfl (by decide) (Qfv ha hb hc)
  exact w tt Tryz.func119 rfl [.c [] (Qgv ha),.c [] (Qgv hb),.c [] (Qgv hc),.c [] cd] rfl rfl trivial
end Orr

namespace Orq
open Orr Go
theorem Qf0 {p q:List Int} (tp:Qm p) (tq:Qm q) (h:∀ i,p.getD i 0=q.getD i 0):p=q:=by
  have hl:∀ {p q:List Int},Qm p→(∀ i,p.getD i 0=q.getD i 0)→p.length≤q.length:=fun {p q} tp h=>by
    refine Nat.not_lt.1 fun hn=>?_
    have h1:=Xi tp (by omega)
    rw [h,List.getD_eq_getElem?_getD,List.getElem?_eq_none (by omega)] at h1
    exact h1 rfl
  have e:=Nat.le_antisymm (hl tp h) (hl tq fun i=>(h i).symm)
  refine List.ext_getElem e fun i h1 h2=>?_
  have:=h i
  rw [List.getD_eq_getElem?_getD,List.getD_eq_getElem?_getD,List.getElem?_eq_getElem h1,List.getElem?_eq_getElem h2] at this
  exact this
theorem Qd3 {p:List Int} (h:p=[]) (i:Nat):p.getD i 0=0:=by rw [h]; simp
theorem Ww (p:List Int) (c:Int) (i:Nat):(Zo p c).getD i 0=p.getD i 0*c:=by
  unfold Zo
  rw [Kg]
  split
  · rfl
  · rename_i h
    rw [List.getD_eq_getElem?_getD,List.getElem?_eq_none (by omega)]; simp
theorem A9 (p q:List Int) (i:Nat):(We p q).getD i 0=p.getD i 0-q.getD i 0:=by
  unfold We
  rw [Kg]
  split
  · rfl
  · rename_i h
    rw [List.getD_eq_getElem?_getD,List.getD_eq_getElem?_getD,List.getElem?_eq_none (by omega),List.getElem?_eq_none (by omega)]; simp
theorem Qwc {x y:Crv} (hx:Nml x) (hy:Nml y) (h1:Jd x y=[]) (h2:Jg x y=[]):x=y:=by
  have e1:∀ i,y.x.getD i 0*x.d=x.x.getD i 0*y.d:=fun i=>by
    have:=Qd3 h1 i
    unfold Jd at this
    rw [A9,Ww,Ww] at this
    omega
  have e2:∀ i,y.y.getD i 0*x.d=x.y.getD i 0*y.d:=fun i=>by
    have:=Qd3 h2 i
    unfold Jg at this
    rw [A9,Ww,Ww] at this
    omega
  have key:∀ {x y:Crv},Nml x→Nml y→(∀ i,y.x.getD i 0*x.d=x.x.getD i 0*y.d)→(∀ i,y.y.getD i 0*x.d=x.y.getD i 0*y.d)→x.d∣y.d:=fun {x y} hx hy e1 e2=>by
    have hd:=Qdw (d:=x.d) (l:=(x.d::(x.x++x.y)).map (· * y.d)) fun z hz=>by
      obtain ⟨w,hw,rfl⟩:=List.mem_map.1 hz
      rcases List.mem_cons.1 hw with rfl | hw
      · exact Int.dvd_mul_right _ _
      · rcases List.mem_append.1 hw with hw | hw
        · obtain ⟨i,hi,rfl⟩:=List.mem_iff_getElem.1 hw
          have:=e1 i
          rw [show x.x.getD i 0=x.x[i] from by rw [List.getD_eq_getElem?_getD,List.getElem?_eq_getElem hi]; rfl] at this
          rw [←this]; exact Int.dvd_mul_left _ _
        · obtain ⟨i,hi,rfl⟩:=List.mem_iff_getElem.1 hw
          have:=e2 i
          rw [show x.y.getD i 0=x.y[i] from by rw [List.getD_eq_getElem?_getD,List.getElem?_eq_getElem hi]; rfl] at this
          rw [←this]; exact Int.dvd_mul_left _ _
    rw [Qqm,hx.2.2.2,Nat.one_mul] at hd
    exact Int.dvd_trans hd (Int.natAbs_dvd.2 (Int.dvd_refl _))
  have hd:x.d=y.d:=Int.dvd_antisymm (Int.le_of_lt hx.2.2.1) (Int.le_of_lt hy.2.2.1) (key hx hy e1 e2) (key hy hx (fun i=>(e1 i).symm) fun i=>(e2 i).symm)
  have hd0:y.d≠0:=by have:=hy.2.2.1; omega
  rw [hd] at e1 e2
  have ex:x.x=y.x:=Qf0 hx.1 hy.1 fun i=>(Int.eq_of_mul_eq_mul_right hd0 (e1 i)).symm
  have ey:x.y=y.y:=Qf0 hx.2.1 hy.2.1 fun i=>(Int.eq_of_mul_eq_mul_right hd0 (e2 i)).symm
  cases x; cases y
  simp only at hd ex ey
  rw [hd,ex,ey]
theorem Qw9 (l:List Pt):(Xv l).Pairwise fun x y=>x.c≠y.c:=by
  have key:∀ (l out:List Pt),out.Pairwise (fun x y=>x.c≠y.c)→(l.foldl Jk out).Pairwise fun x y=>x.c≠y.c:=by
    intro l
    induction l with
    | nil=>intro out h; exact h
    |
     cons p l ih =>
     intro out h
     refine ih _ ?_
     unfold Jk
     split
     · exact h
     · rename_i hn
       refine List.pairwise_append.2 ⟨h,List.pairwise_singleton _ _,fun a ha b hb e=>hn ?_⟩
       rw [List.mem_singleton.1 hb] at e
       rw [List.any_eq_true]
       exact ⟨a,ha,by rw [←e]; simp [Wj]⟩
  exact key l [] .nil
theorem Qtp (l:List Pt):(Xv l).Sublist l:=by
  have key:∀ (l out o:List Pt),out.Sublist o→(l.foldl Jk out).Sublist (o++l):=by
    intro l
    induction l with
    | nil=>intro out o h; rw [List.append_nil]; exact h
    |
     cons p l ih =>
     intro out o h
     have:(Jk out p).Sublist (o++[p]):=by
       unfold Jk
       split
       · exact h.trans (List.sublist_append_left _ _)
       · exact h.append (List.Sublist.refl _)
     have:=ih _ _ this
     rwa [List.append_assoc] at this
  exact key l [] [] (List.Sublist.refl _)
theorem Ge (f:Nat→List Int) (rows:List (List (List Int))) (q:Rat) (i:Nat):Qg (Kf f rows (i+1)) q=Qg (Kf f rows i) q+(if i % 2=0 then 1 else -1)*(Qg ((rows.getD i []).getD 0 []) q*Qg (f i) q):=by
  simp only [Kf]
  split
  · rename_i h
    have:Qg ((rows.getD i []).getD 0 []) q=0:=by rw [List.eq_nil_of_length_eq_zero h]; rfl
    rw [this]; grind
  · split
    · rw [Qe9,Qy]; grind
    · rw [Vq,Qy]; grind
theorem Qle (z:Int) (q:Rat):Qg [z] q=(z:Rat):=by simp [Qg,Rat.add_zero]
theorem Qe6 (p:List Int) (q:Rat):Qg (Wc 1 [[p]]) q=Qg p q:=by
  show Qg (Kf (fun i=>Wc 0 (Sk [[p]] i)) [[p]] (0+1)) q=_
  rw [Ge]
  show (0:Rat)+1*(Qg p q*Qg [1] q)=_
  rw [Qle]
  have:((1:Int):Rat)=1:=rfl
  grind
theorem A0 (p r s t:List Int) (q:Rat):Qg (Wc 2 [[p,r],[s,t]]) q=Qg p q*Qg t q-Qg s q*Qg r q:=by
  show Qg (Kf (fun i=>Wc 1 (Sk [[p,r],[s,t]] i)) [[p,r],[s,t]] (0+1+1)) q=_
  rw [Ge,Ge]
  show (0:Rat)+1*(Qg p q*Qg (Wc 1 [[t]]) q)+(-1)*(Qg s q*Qg (Wc 1 [[r]]) q)=_
  rw [Qe6,Qe6]; grind
theorem Qr4 (a1 a2 a3 b1 b2 b3 c1 c2 c3:List Int) (q:Rat):Qg (Wc 3 [[a1,a2,a3],[b1,b2,b3],[c1,c2,c3]]) q=Qg a1 q*(Qg b2 q*Qg c3 q-Qg c2 q*Qg b3 q)-Qg b1 q*(Qg a2 q*Qg c3 q-Qg c2 q*Qg a3 q)+Qg c1 q*(Qg a2 q*Qg b3 q-Qg b2 q*Qg a3 q):=by
  show Qg (Kf (fun i=>Wc 2 (Sk [[a1,a2,a3],[b1,b2,b3],[c1,c2,c3]] i)) [[a1,a2,a3],[b1,b2,b3],[c1,c2,c3]] (0+1+1+1)) q=_
  rw [Ge,Ge,Ge]
  show (0:Rat)+1*(Qg a1 q*Qg (Wc 2 [[b2,b3],[c2,c3]]) q)+(-1)*(Qg b1 q*Qg (Wc 2 [[a2,a3],[c2,c3]]) q)+1*(Qg c1 q*Qg (Wc 2 [[a2,a3],[b2,b3]]) q)=_
  rw [A0,A0,A0]; grind
theorem Qif {a b c:Pt} (ha:Sc a.c) (hb:Sc b.c) (hc:Sc c.c) (q:Rat):Qj (Qg (Zs a.c b.c c.c) q)=Qj (J5 (px · q) (py · q) a b c):=by
  have Lj:∀ {k:Crv},Sc k→(0:Rat)<(k.d:Rat):=fun h=>by exact_mod_cast h.n.2.2.1
  have pa:=Lj ha
  have pb:=Lj hb
  have pc:=Lj hc
  have xx:∀ {p:Pt},0<(p.c.d:Rat)→Qg p.c.x q=px p q*(p.c.d:Rat)∧Qg p.c.y q=py p q*(p.c.d:Rat):=fun {p} h=>by
    unfold px py
    exact ⟨(Rat.div_mul_cancel (by grind)).symm,(Rat.div_mul_cancel (by grind)).symm⟩
  obtain ⟨xa,ya⟩:=xx pa
  obtain ⟨xb,yb⟩:=xx pb
  obtain ⟨xc,yc⟩:=xx pc
  have e:Qg (Zs a.c b.c c.c) q=((a.c.d:Rat)*(b.c.d:Rat)*(c.c.d:Rat))*J5 (px · q) (py · q) a b c:=by
    unfold Zs Qe2 J5
    rw [Qr4,Qle,Qle,Qle,xa,xb,xc,ya,yb,yc]
    grind
  rw [e,Wy (Rat.mul_pos (Rat.mul_pos pa pb) pc)]
end Orq

namespace Orq
open Orr Go
def Mm (sg:List Int→Int) (a b c:Pt):Bool:=decide (0<X4 sg (Zs a.c b.c c.c))
def Jm (sg:List Int→Int) (row:List Pt):List Pt:=(Jv (Mm sg) [] row).reverse
def Vx (sg:List Int→Int) (row:List Pt):List Pt:=if row.length<3 then row else (Jm sg row).dropLast++(Jm sg row.reverse).dropLast
def Zt (l:List Pt) (a:Tm):List Pt:=Vx (Zp a) (X9 a (Xv l))
def Zl (C:List Pt):List (Pt×Pt):=C.zip (C.drop 1++C.take 1)
def Ya (sg:List Int→Int) (a b c:Pt):Ct:=⟨3,a.id,b.id,c.id,0,Zs a.c b.c c.c,X4 sg (Zs a.c b.c c.c)⟩
def V6 (e:Pt×Pt) (c:Pt):Bool:=decide (c.id≠e.1.id) && decide (c.id≠e.2.id)
def Jn (sg:List Int→Int) (l:List Pt) (e:Pt×Pt):List Ct:=(l.filter (V6 e)).map fun c=>Ya sg e.1 e.2 c
def Jx (sg:List Int→Int) (l C:List Pt):List Ct:=if C.length<2 then [] else (Zl C).flatMap (Jn sg l)
def bcH (l:List Pt) (a:Tm):List Ct:=bcS l a++Jx (Zp a) l (Zt l a)
abbrev brH (l:List Pt) (a:Tm):List (List LV):=Qk (Zt l a)
def Ip (l:List Pt):List (List Int):=l.flatMap fun x=>l.flatMap fun y=>l.map fun z=>Zs x.c y.c z.c
theorem Qc9 {l:List Pt} {x y z:Pt} (hx:x∈l) (hy:y∈l) (hz:z∈l):Zs x.c y.c z.c∈Ip l :=
  List.mem_flatMap.2 ⟨x,hx,List.mem_flatMap.2 ⟨y,hy,List.mem_map.2 ⟨z,hz,rfl⟩⟩⟩
theorem Qt9 {l:List Pt} (hl:∀ p∈l,Sc p.c):∀ p∈Ip l,Cp p:=fun p hp=>by
  obtain ⟨x,hx,hp⟩:=List.mem_flatMap.1 hp
  obtain ⟨y,hy,hp⟩:=List.mem_flatMap.1 hp
  obtain ⟨z,hz,rfl⟩:=List.mem_map.1 hp
  exact Ba (hl x hx) (hl y hy) (hl z hz)
theorem A5 {α:Type} (s:α→α→α→Bool) (c:α):∀ st:List α,(K5 s c st).Sublist st
  | []=>List.Sublist.refl _
  | [_]=>List.Sublist.refl _
  |
   b::a::r=>by
   simp only [K5]
   split
   · exact List.Sublist.refl _
   · exact (A5 s c (a::r)).trans (List.sublist_cons_self _ _)
theorem S8 {α:Type} {s:α→α→α→Bool}:∀ {l acc:List α} {x:α},x∈Jv s acc l→x∈acc∨x∈l
  | [],acc,x,h=>.inl h
  |
   c::l,acc,x,h=>by
   rcases S8 (l:=l) h with h | h
   · rcases List.mem_cons.1 h with rfl | h
     · exact .inr (by simp)
     · exact .inl ((A5 s c acc).subset h)
   · exact .inr (List.mem_cons_of_mem _ h)
theorem S7 {α:Type} (s:α→α→α→Bool):∀ (l acc:List α),(Jv s acc l).length≤acc.length+l.length
  | [],acc=>by simp [Jv]
  |
   c::l,acc=>by
   have h1:=S7 s l (c::K5 s c acc)
   have h2:=(A5 s c acc).length_le
   simp only [Jv,List.length_cons] at h1 ⊢
   omega
theorem Ei {sg:List Int→Int} {row:List Pt} {x:Pt} (h:x∈Jm sg row):x∈row:=by
  unfold Jm at h
  rcases S8 (List.mem_reverse.1 h) with h | h
  · cases h
  · exact h
theorem Gx (sg:List Int→Int) (row:List Pt):(Jm sg row).length≤row.length:=by
  have:=S7 (Mm sg) row []
  unfold Jm; rw [List.length_reverse]; simpa using this
theorem Qib {sg:List Int→Int} {row:List Pt} {x:Pt} (h:x∈Vx sg row):x∈row:=by
  unfold Vx at h
  split at h
  · exact h
  · rcases List.mem_append.1 h with h | h
    · exact Ei ((List.dropLast_sublist _).subset h)
    · exact List.mem_reverse.1 (Ei ((List.dropLast_sublist _).subset h))
theorem Qia (sg:List Int→Int) (row:List Pt):(Vx sg row).length≤2*row.length:=by
  unfold Vx
  split
  · omega
  · have h1:=Gx sg row
    have h2:=Gx sg row.reverse
    rw [List.length_reverse] at h2
    rw [List.length_append,List.length_dropLast,List.length_dropLast]; omega
theorem W3 {l:List Pt} {a:Tm} {x:Pt} (h:x∈Zt l a):x∈l:=Yf (Zb.1 (Qib h))
theorem Fq (l:List Pt) (a:Tm):(Zt l a).length≤2*l.length:=by
  have h1:=Qia (Zp a) (X9 a (Xv l))
  rw [Ys] at h1
  have:=Il l
  unfold Zt; omega
theorem Cz {C:List Pt} {e:Pt×Pt} (h:e∈Zl C):e.1∈C∧e.2∈C:=by
  unfold Zl at h
  have h1:=List.of_mem_zip (show (e.1,e.2)∈_ from h)
  refine ⟨h1.1,?_⟩
  rcases List.mem_append.1 h1.2 with h | h
  · exact List.mem_of_mem_drop h
  · exact List.mem_of_mem_take h
theorem Qhe {sg:List Int→Int} {l C:List Pt} {x:Ct} (h:x∈Jx sg l C):∃ e∈Zl C,∃ c∈l,V6 e c=true∧x=Ya sg e.1 e.2 c:=by
  unfold Jx at h
  split at h
  · cases h
  · obtain ⟨e,he,h⟩:=List.mem_flatMap.1 h
    obtain ⟨c,hc,rfl⟩:=List.mem_map.1 h
    obtain ⟨h1,h2⟩:=List.mem_filter.1 hc
    exact ⟨e,he,c,h1,h2,rfl⟩
theorem Qas {l:List Pt} {a:Tm}:∀ x∈bcH l a,x.p∈Np l++Ip l:=fun x hx=>by
  rcases List.mem_append.1 hx with hx | hx
  · exact List.mem_append_left _ (Quc x hx)
  · obtain ⟨e,he,c,hc,_,rfl⟩:=Qhe hx
    obtain ⟨h1,h2⟩:=Cz he
    exact List.mem_append_right _ (Qc9 (W3 h1) (W3 h2) hc)
theorem Du {l:List Pt} (hl:∀ p∈l,Sc p.c):∀ p∈Np l++Ip l,Cp p:=fun p hp=>by
  rcases List.mem_append.1 hp with h | h
  · exact Qi1 hl p h
  · exact Qt9 hl p h
theorem Pa {α β:Type} (f:α→List β) (n:Nat):∀ (m:List α),(∀ x∈m,(f x).length≤n)→(m.flatMap f).length≤m.length*n
  | [],_=>by simp
  |
   x::m,h=>by
   have:=Pa f n m fun y hy=>h y (List.mem_cons_of_mem _ hy)
   have:=h x (by simp)
   rw [List.flatMap_cons,List.length_append,List.length_cons,Nat.succ_mul]; omega
theorem Qhd (sg:List Int→Int) (l C:List Pt):(Jx sg l C).length≤C.length*l.length:=by
  unfold Jx
  split
  · simp
  · refine Nat.le_trans (Pa _ l.length _ fun e _=>?_) (Nat.mul_le_mul_right _ ?_)
    · unfold Jn; rw [List.length_map]; exact List.length_filter_le _ _
    · unfold Zl; rw [List.length_zip]; exact Nat.min_le_left _ _
theorem Qgk {l:List Pt} (hl:∀ p∈l,Sc p.c) (hn:l.length≤10):BuildOk (bcH l) :=
  ⟨fun _ _ x hx=>Du hl _ (Qas x hx),fun a _=>by
    have h1:=Qhd (Zp a) l (Zt l a)
    have h2:=Fq l a
    have h3:(Zt l a).length*l.length≤20*10:=Nat.mul_le_mul (by omega) hn
    show (bcS l a++Jx (Zp a) l (Zt l a)).length≤1000
    have h4:(bcS l a).length≤l.length:=by unfold bcS; rw [Ub,Ys]; omega
    rw [List.length_append]; omega⟩
def Vl {α:Type} (l:List α):List (α×α):=l.zip (l.drop 1)
theorem D5 {α:Type} {Q:α→α→Prop}:∀ {l:List α},Edg Q l↔∀ e∈Vl l,Q e.1 e.2
  | []=>by simp [Edg,Vl]
  | [_]=>by simp [Edg,Vl]
  |
   a::b::l=>by
   have ih:=D5 (Q:=Q) (l:=b::l)
   have e:Vl (a::b::l)=(a,b)::Vl (b::l):=rfl
   rw [e]
   constructor
   · rintro ⟨h1,h2⟩ x hx
     rcases List.mem_cons.1 hx with rfl | hx
     · exact h1
     · exact ih.1 h2 x hx
   · intro h
     exact ⟨h (a,b) (by simp),ih.2 fun x hx=>h x (List.mem_cons_of_mem _ hx)⟩
theorem Ep {α:Type} (f z:α) (A:List α):Vl (f::A++[z])=(f::A).zip (A++[z]):=by
  unfold Vl
  rw [List.cons_append,List.drop_succ_cons,List.drop_zero]
  have:f::(A++[z])=(f::A)++[z]:=rfl
  rw [this]
  have h:A++[z]=(A++[z])++[]:=(List.append_nil _).symm
  conv=>lhs; rw [h]
  rw [List.zip_append (by simp)]
  simp
theorem Qdy {f z:Pt} {A B:List Pt}:Zl ((f::A++[z]).dropLast++(z::B++[f]).dropLast)=Vl (f::A++[z])++Vl (z::B++[f]):=by
  rw [List.dropLast_concat,List.dropLast_concat,Ep,Ep,←List.zip_append (by simp)]
  unfold Zl
  congr 1
  simp
theorem Edg.rev {α:Type} {Q:α→α→Prop}:∀ {l:List α},Edg Q l→Edg (fun a b=>Q b a) l.reverse:=by
  have app:∀ {Q:α→α→Prop} {l:List α} {b a:α},Edg Q (l++[b])→Q b a→Edg Q (l++[b]++[a]):=by
    intro Q l
    induction l with
    | nil=>intro b a _ h; exact ⟨h,trivial⟩
    |
     cons x l ih =>
     intro b a h h2
     cases l with
     | nil=>exact ⟨h.1,ih h.2 h2⟩
     | cons y l=>exact ⟨h.1,ih h.2 h2⟩
  intro l
  induction l with
  | nil=>intro _; trivial
  |
   cons a l ih =>
   intro h
   cases l with
   | nil=>trivial
   |
    cons b l =>
    have:=ih h.2
    rw [List.reverse_cons] at this ⊢
    rw [List.reverse_cons]
    exact app this h.1
theorem Cnv.rev {α:Type} {R:α→α→α→Prop}:∀ {l:List α},Cnv R l→Cnv (fun a b c=>R c b a) l.reverse:=by
  have app:∀ {R:α→α→α→Prop} {l:List α} {c b a:α},Cnv R (l++[c,b])→R c b a→Cnv R (l++[c,b,a]):=by
    intro R l
    induction l with
    | nil=>intro c b a _ h; exact ⟨h,trivial⟩
    |
     cons x l ih =>
     intro c b a h h2
     cases l with
     | nil=>exact ⟨h.1,ih h.2 h2⟩
     |
      cons y l =>
      cases l with
      | nil=>exact ⟨h.1,ih h.2 h2⟩
      | cons w l=>exact ⟨h.1,ih h.2 h2⟩
  intro l
  induction l with
  | nil=>intro _; trivial
  |
   cons a l ih =>
   intro h
   match l,h with
   | [],_=>trivial
   | [_],_=>trivial
   |
    b::c::l,h =>
    have:=ih h.2
    rw [List.reverse_cons,List.reverse_cons,List.append_assoc] at this
    rw [List.reverse_cons,List.reverse_cons,List.reverse_cons,List.append_assoc,List.append_assoc]
    exact app this h.1
end Orq

namespace Orq
open Orr Go
section
variable {α:Type} {lt lt':α→α→Bool}
theorem A6 {out:List α} {x:α} (h:∀ y∈out,lt x y=lt' x y):∀ k,Wd lt out x k=Wd lt' out x k
  | 0=>rfl
  |
   k+1=>by
   simp only [Wd]
   cases hy:out[k]? with
   | none=>rfl
   | some y=>simp only [h y (List.mem_of_getElem? hy),A6 h k]
theorem C4 {l:List α} (h:∀ u∈l,∀ v∈l,lt u v=lt' u v):∀ (m out:List α),(∀ x∈m,x∈l)→(∀ x∈out,x∈l)→m.foldl (Wa lt) out=m.foldl (Wa lt') out
  | [],_,_,_=>rfl
  |
   x::m,out,h1,h2=>by
   have e:Wa lt out x=Wa lt' out x:=by
     unfold Wa; rw [A6 fun y hy=>h x (h1 x (by simp)) y (h2 y hy)]
   simp only [List.foldl_cons]
   rw [e]
   exact C4 h m _ (fun y hy=>h1 y (List.mem_cons_of_mem _ hy)) fun y hy=>by
     rcases Mi.1 hy with rfl | hy
     · exact h1 _ (by simp)
     · exact h2 y hy
end
theorem Qic {a:Tm} {l:List Pt} {q:Rat} (hb:∀ u∈l,∀ v∈l,(Xu (Zp a) u v=true↔V5 q u v)) (hd:l.Pairwise fun x y=>x.id≠y.id):(X9 a l).Pairwise (V5 q) :=
  E8 (S:=fun x=>x∈l) (D:=fun x y=>x.id≠y.id) (Ts q) (fun u v hu hv h=>(hb u hu v hv).1 h) (fun u v hu hv hne h=>Qej (fun e=>hne e.symm) fun h'=>by
    rw [(hb u hu v hv).2 h'] at h; cases h) l [] .nil (fun x hx=>by cases hx) (fun x hx=>hx) hd (fun x hx=>by cases hx)
theorem Qz4 {a:Tm} (ha:Va a) {u v:Pt} (hu:Sc u.c) (hv:Sc v.c) {q:Rat} (h1:X4 (Zp a) (Jd u.c v.c)=Qj (Qg (Jd u.c v.c) q)) (h2:X4 (Zp a) (Jg u.c v.c)=Qj (Qg (Jg u.c v.c) q)) (hne:u.c≠v.c) (h:V5 q u v):lx (px · q) (py · q) u v:=by
  rcases h with h | ⟨h,h3⟩
  · exact .inl h
  rcases h3 with h3 | ⟨h3,_⟩
  · exact .inr ⟨h,h3⟩
  · exfalso
    rw [Qaf hu hv] at h1
    rw [Qad hu hv] at h2
    have z1:Qj (px v q-px u q)=0:=Q0.2 (by grind)
    have z2:Qj (py v q-py u q)=0:=Q0.2 (by grind)
    rw [z1] at h1
    rw [z2] at h2
    have e1:(Jd u.c v.c).length=0:=Decidable.byContradiction fun e=>(G8 ha (H6 hu hv).dp e).2 h1
    have e2:(Jg u.c v.c).length=0:=Decidable.byContradiction fun e=>(G8 ha (H5 hu hv).dp e).2 h2
    exact hne (Qwc hu.n hv.n (List.eq_nil_of_length_eq_zero e1) (List.eq_nil_of_length_eq_zero e2))
structure LowC (X Y:Pt→Rat) (R L:List Pt):Prop where
  hd:L.head? = R.head?
  la:L.getLast? = R.getLast?
  srt:L.Pairwise (lx X Y)
  mem:∀ p∈L,p∈R
  edg:Edg (fun a b=>∀ p∈R,0≤J5 X Y a b p) L
  cnv:Cnv (fun a b c=>0<J5 X Y a b c) L
theorem I5 {X Y:Pt→Rat} {sg:List Int→Int} {R:List Pt} (hs:∀ a∈R,∀ b∈R,∀ c∈R,(Mm sg a b c=true↔0<J5 X Y a b c)) (hR:R.Pairwise (lx X Y)) (h0:R≠[]):LowC X Y R (Jm sg R):=by
  cases R with
  | nil=>exact absurd rfl h0
  |
   cons f R =>
   obtain ⟨t,st,g1,g2,g3,g4⟩:=I6 hs hR R [f] f [] rfl ⟨List.pairwise_singleton _ _,fun p hp=>by rw [List.mem_singleton.1 hp]; simp,trivial,trivial⟩ rfl rfl
   have e:Jm sg (f::R)=(t::st).reverse:=by
     unfold Jm
     rw [←g1]; rfl
   rw [e]
   exact ⟨by rw [List.head?_reverse,g4],by rw [List.getLast?_reverse]; exact g3.symm,List.pairwise_reverse.2 g2.srt,fun p hp=>g2.mem p (List.mem_reverse.1 hp),g2.edg.rev,g2.cnv.rev⟩
theorem Q0m {X Y:Pt→Rat} {R:List Pt} (hR:R.Pairwise (lx X Y)):∀ p∈R,∀ q∈R,p=q∨lx X Y p q∨lx X Y q p:=fun p hp q hq=>by
  by_cases e:p=q
  · exact .inl e
  · exact .inr (Dd hR hp hq e)
theorem Qbv {X Y:Pt→Rat} {R L L':List Pt} (hR:R.Pairwise (lx X Y)) (h:LowC X Y R L) (h':LowC X Y R L'):L=L':=by
  have hh:=h.hd.trans h'.hd.symm
  have hl:=h.la.trans h'.la.symm
  cases L with
  |
   nil=>cases L' with
   | nil=>rfl
   | cons _ _=>simp at hh
  |
   cons f M=>cases L' with
   | nil=>simp at hh
   |
    cons f' M' =>
    simp at hh
    subst hh
    obtain ⟨z,hz⟩:∃ z,(f::M).getLast? = some z:=⟨_,List.getLast?_eq_some_getLast (by simp)⟩
    rw [Qpn (Q0m hR) M M' f h.srt h'.srt h.mem h'.mem h.edg h'.edg h.cnv h'.cnv hz (hl ▸ hz)]
theorem Qfq {x y:Rat} (h:Qj x=Qj y):(0≤x→0≤y)∧(0<x→0<y):=by
  have h1:=Qz x
  have h2:=Qz y
  grind
theorem Qdm {X Y X' Y':Pt→Rat} {R:List Pt}:∀ {L:List Pt},(∀ p∈L,p∈R)→(∀ e∈Vl L,∀ p∈R,Qj (J5 X Y e.1 e.2 p)=Qj (J5 X' Y' e.1 e.2 p))→Cnv (fun a b c=>0<J5 X Y a b c) L→Cnv (fun a b c=>0<J5 X' Y' a b c) L
  | [],_,_,_=>trivial
  | [_],_,_,_=>trivial
  | [_,_],_,_,_=>trivial
  | a::b::c::l,hm,he,h=>⟨(Qfq (he (a,b) (by simp [Vl]) c (hm c (by simp)))).2 h.1,Qdm (fun p hp=>hm p (List.mem_cons_of_mem _ hp)) (fun e hx=>he e (List.mem_cons_of_mem _ hx)) h.2⟩
theorem Qek {X Y X' Y':Pt→Rat} {R L:List Pt} (h:LowC X Y R L) (hl:∀ u∈R,∀ v∈R,lx X Y u v→lx X' Y' u v) (he:∀ e∈Vl L,∀ p∈R,Qj (J5 X Y e.1 e.2 p)=Qj (J5 X' Y' e.1 e.2 p)):LowC X' Y' R L :=
  ⟨h.hd,h.la,h.srt.imp_of_mem fun hu hv h'=>hl _ (h.mem _ hu) _ (h.mem _ hv) h',h.mem,D5.2 fun e hx p hp=>(Qfq (he e hx p hp)).1 (D5.1 h.edg e hx p hp),Qdm h.mem he h.cnv⟩
theorem Tv (X Y:Pt→Rat) (a b c:Pt):J5 (fun p=>-X p) (fun p=>-Y p) a b c=J5 X Y a b c:=by unfold J5; grind
theorem B6 {X Y:Pt→Rat} {a b:Pt}:lx (fun p=>-X p) (fun p=>-Y p) a b↔lx X Y b a:=by unfold lx; grind
theorem Qym {L:List Pt} {f z:Pt} (h1:L.head? = some f) (h2:L.getLast? = some z) (hne:f≠z):∃ A,L=f::A++[z]:=by
  cases L with
  | nil=>cases h1
  |
   cons g M =>
   simp at h1
   subst h1
   cases M with
   | nil=>simp at h2; exact absurd h2 hne
   |
    cons x M =>
    rw [List.getLast?_cons_cons] at h2
    obtain ⟨A,hA⟩:=List.getLast?_eq_some_iff.1 h2
    exact ⟨A,by rw [hA]; rfl⟩
theorem E6 {α β:Type} {f g:α→List β}:∀ {m:List α},(∀ x∈m,f x=g x)→m.flatMap f=m.flatMap g
  | [],_=>rfl
  | x::m,h=>by rw [List.flatMap_cons,List.flatMap_cons,h x (by simp),E6 fun y hy=>h y (List.mem_cons_of_mem _ hy)]
theorem Qd9 {sa sb:List Int→Int} {l C:List Pt} (h:∀ x∈Jx sa l C,X4 sb x.p=X4 sa x.p):Jx sb l C=Jx sa l C:=by
  by_cases h2:C.length<2
  · unfold Jx; rw [if_pos h2,if_pos h2]
  · have e:∀ s,Jx s l C=(Zl C).flatMap (Jn s l):=fun s=>if_neg h2
    rw [e] at h ⊢
    rw [e]
    refine E6 fun x hx=>List.map_congr_left fun c hc=>?_
    have:=h (Ya sa x.1 x.2 c) (List.mem_flatMap.2 ⟨x,hx,List.mem_map_of_mem hc⟩)
    show (⟨3,x.1.id,x.2.id,c.id,0,Zs x.1.c x.2.c c.c,X4 sb (Zs x.1.c x.2.c c.c)⟩:Ct)=⟨3,x.1.id,x.2.id,c.id,0,Zs x.1.c x.2.c c.c,X4 sa (Zs x.1.c x.2.c c.c)⟩
    have this:X4 sb (Zs x.1.c x.2.c c.c)=X4 sa (Zs x.1.c x.2.c c.c):=this
    rw [this]
theorem Qlx {l:List Pt} (hd:l.Pairwise fun x y=>x.id≠y.id) {u v:Pt} (hu:u∈l) (hv:v∈l) (h:u.id=v.id):u=v:=by
  refine Classical.byContradiction fun e=>?_
  rcases Dd hd hu hv e with h' | h'
  · exact h' h
  · exact h' h.symm
structure Soon (l:List Pt) (a:Tm) (q:Rat):Prop where
  g:∀ p∈Np l++Ip l,X4 (Zp a) p=Qj (Qg p q)
  b:∀ u∈l,∀ v∈l,(Xu (Zp a) u v=true↔V5 q u v)
  o:∀ u∈l,∀ v∈l,∀ w∈l,X4 (Zp a) (Zs u.c v.c w.c)=Qj (J5 (px · q) (py · q) u v w)
  t:∀ u∈l,∀ v∈l,∀ w∈l,(Mm (Zp a) u v w=true↔0<J5 (px · q) (py · q) u v w)
  r:(X9 a (Xv l)).Pairwise (lx (px · q) (py · q))
theorem Qft {l:List Pt} (hl:∀ p∈l,Sc p.c) (hd:l.Pairwise fun x y=>x.id≠y.id) {a:Tm} (ha:Va a):∃ y,Qu a y=-1∧∀ q,Qu a q=-1→q≤y→Soon l a q:=by
  obtain ⟨y,y1,y2⟩:=Ac ha (Np l++Ip l) fun p hp=>(Du hl p hp).dp
  refine ⟨y,y1,fun q q1 q2=>?_⟩
  have g:=y2 q q1 q2
  have gP:=fun p hp=>g p (List.mem_append_left _ hp)
  have b:∀ u∈l,∀ v∈l,(Xu (Zp a) u v=true↔V5 q u v):=fun u hu v hv=>L9 ha (hl u hu) (hl v hv) (gP _ (Kt hu hv).1) (gP _ (Kt hu hv).2)
  have o:∀ u∈l,∀ v∈l,∀ w∈l,X4 (Zp a) (Zs u.c v.c w.c)=Qj (J5 (px · q) (py · q) u v w):=fun u hu v hv w hw=>by
    rw [g _ (List.mem_append_right _ (Qc9 hu hv hw)),Qif (hl u hu) (hl v hv) (hl w hw)]
  refine ⟨g,b,o,fun u hu v hv w hw=>?_,?_⟩
  · unfold Mm
    rw [o u hu v hv w hw,decide_eq_true_eq]
    have:=Qz (J5 (px · q) (py · q) u v w)
    grind
  · have hw:∀ u∈Xv l,u∈l:=fun u hu=>Yf hu
    have h1:=Qic (a:=a) (l:=Xv l) (q:=q) (fun u hu v hv=>b u (hw u hu) v (hw v hv)) (List.Pairwise.sublist (Qtp l) hd)
    have h2:(X9 a (Xv l)).Pairwise fun x y=>x.c≠y.c:=(List.Perm.pairwise_iff (fun {x y} h e=>h e.symm) (Qik (lt:=Xu (Zp a)) (Xv l))).2 (Qw9 l)
    refine (h1.and h2).imp_of_mem fun {u v} hu hv h=>?_
    have hu:=hw u (Zb.1 hu)
    have hv:=hw v (Zb.1 hv)
    exact Qz4 ha (hl u hu) (hl v hv) (gP _ (Kt hu hv).1) (gP _ (Kt hu hv).2) h.2 h.1
theorem Qly {l:List Pt} (hl:∀ p∈l,Sc p.c) (hd:l.Pairwise fun x y=>x.id≠y.id) {a:Tm} (ha:Va a):∃ q,Soon l a q :=
  let ⟨y,h1,h2⟩:=Qft hl hd ha
  ⟨y,h2 y h1 Rat.le_refl⟩
theorem G0 {l:List Pt} {a:Tm} {q:Rat} (S:Soon l a q) (h3:3≤(X9 a (Xv l)).length):∃ f z A B,Jm (Zp a) (X9 a (Xv l))=f::A++[z]∧Jm (Zp a) (X9 a (Xv l)).reverse=z::B++[f]∧LowC (px · q) (py · q) (X9 a (Xv l)) (f::A++[z])∧LowC (fun p=>-px p q) (fun p=>-py p q) (X9 a (Xv l)).reverse (z::B++[f])∧Zl (Zt l a)=Vl (f::A++[z])++Vl (z::B++[f])∧2≤(Zt l a).length:=by
  obtain ⟨R,hR⟩:∃ R,R=X9 a (Xv l):=⟨_,rfl⟩
  have hm:∀ x∈R,x∈l:=fun x hx=>by rw [hR] at hx; exact Yf (Zb.1 hx)
  have r:=S.r
  rw [←hR] at r h3 ⊢
  have h0:R≠[]:=fun e=>by rw [e] at h3; simp at h3
  have c1:=I5 (sg:=Zp a) (fun u hu v hv w hw=>S.t u (hm u hu) v (hm v hv) w (hm w hw)) r h0
  have r2:R.reverse.Pairwise (lx (fun p=>-px p q) (fun p=>-py p q)):=List.pairwise_reverse.2 (r.imp fun h=>B6.2 h)
  have c2:=I5 (sg:=Zp a) (R:=R.reverse) (X:=fun p=>-px p q) (Y:=fun p=>-py p q) (fun u hu v hv w hw=>by
    rw [Tv (px · q) (py · q)]
    exact S.t u (hm u (List.mem_reverse.1 hu)) v (hm v (List.mem_reverse.1 hv)) w (hm w (List.mem_reverse.1 hw))) r2 (by simpa using h0)
  obtain ⟨f,hf⟩:∃ f,R.head? = some f:=by cases R with
    | nil=>exact absurd rfl h0
    | cons f _=>exact ⟨f,rfl⟩
  obtain ⟨z,hz⟩:∃ z,R.getLast? = some z:=⟨_,List.getLast?_eq_some_getLast h0⟩
  have hne:f≠z:=fun e=>by
    subst e
    cases R with
    | nil=>exact absurd rfl h0
    |
     cons g M =>
     simp at hf; subst hf
     cases M with
     | nil=>simp at h3
     |
      cons x M =>
      rw [List.getLast?_cons_cons] at hz
      exact J9 _ ((List.pairwise_cons.1 r).1 g (List.mem_of_getLast? hz))
  obtain ⟨A,hA⟩:=Qym (c1.hd.trans hf) (c1.la.trans hz) hne
  obtain ⟨B,hB⟩:=Qym (c2.hd.trans (by rw [List.head?_reverse]; exact hz)) (c2.la.trans (by rw [List.getLast?_reverse]; exact hf)) (Ne.symm hne)
  have hc:Zt l a=(f::A++[z]).dropLast++(z::B++[f]).dropLast:=by
    unfold Zt Vx
    rw [←hR,if_neg (by omega),hA,hB]
  rw [hA] at c1
  rw [hB] at c2
  refine ⟨f,z,A,B,hA,hB,c1,c2,by rw [hc]; exact Qdy,?_⟩
  rw [hc,List.dropLast_concat,List.dropLast_concat]
  simp; omega
theorem Qm2 {l:List Pt} (hl:∀ p∈l,Sc p.c) (hd:l.Pairwise fun x y=>x.id≠y.id) {a b:Tm} (ha:Va a) (hb:Va b) (h:∀ x∈bcH l a,X4 (Zp b) x.p=X4 (Zp a) x.p):Zt l b=Zt l a∧bcH l b=bcH l a:=by
  obtain ⟨q,Sa⟩:=Qly hl hd ha
  obtain ⟨r,Sb⟩:=Qly hl hd hb
  obtain ⟨k1,k2⟩:=Qsv hl hd ha hb fun x hx=>h x (List.mem_append_left _ hx)
  have pa:=Qic Sa.b hd
  have pb:=Qic Sb.b hd
  rw [k1] at pb
  have pab:=pa.and pb
  have lexs:∀ u∈l,∀ v∈l,(V5 q u v↔V5 r u v):=fun u hu v hv=>by
    by_cases e:u=v
    · subst e; exact ⟨fun h=>absurd h (Rm _ _),fun h=>absurd h (Rm _ _)⟩
    · rcases Dd pab (Zb.2 hu) (Zb.2 hv) e with h' | h'
      · exact ⟨fun _=>h'.2,fun _=>h'.1⟩
      · exact ⟨fun h=>absurd (Ts _ _ _ _ h h'.1) (Rm _ _),fun h=>absurd (Ts _ _ _ _ h h'.2) (Rm _ _)⟩
  have bef:∀ u∈l,∀ v∈l,Xu (Zp b) u v=Xu (Zp a) u v:=fun u hu v hv=>by
    have h1:=Sa.b u hu v hv
    have h2:=Sb.b u hu v hv
    have h3:=lexs u hu v hv
    cases e1:Xu (Zp a) u v <;> cases e2:Xu (Zp b) u v <;> rw [e1] at h1 <;> rw [e2] at h2 <;> simp_all
  have eR:X9 b (Xv l)=X9 a (Xv l):=C4 (l:=Xv l) (fun u hu v hv=>bef u (Yf hu) v (Yf hv)) (Xv l) [] (fun x hx=>hx) fun x hx=>by cases hx
  have hm:∀ x∈X9 a (Xv l),x∈l:=fun x hx=>Yf (Zb.1 hx)
  have rb:=Sb.r
  rw [eR] at rb
  have hc:Zt l b=Zt l a:=by
    by_cases h3:(X9 a (Xv l)).length<3
    · unfold Zt Vx
      rw [eR,if_pos h3,if_pos h3]
    · obtain ⟨f,z,A,B,hA,hB,c1,c2,hE,hC2⟩:=G0 Sa (by omega)
      obtain ⟨f',z',A',B',hA',hB',c1',c2',hE',_⟩:=G0 Sb (by rw [eR]; omega)
      rw [eR] at hA' hB' c1' c2'
      have sgs:∀ e∈Zl (Zt l a),∀ p∈X9 a (Xv l),Qj (J5 (px · q) (py · q) e.1 e.2 p)=Qj (J5 (px · r) (py · r) e.1 e.2 p):=fun e he p hp=>by
        obtain ⟨m1,m2⟩:=Cz he
        have m1:=W3 m1
        have m2:=W3 m2
        have m3:=hm p hp
        by_cases ho:V6 e p=true
        · have hx:Ya (Zp a) e.1 e.2 p∈bcH l a:=by
            refine List.mem_append_right _ ?_
            unfold Jx
            rw [if_neg (by omega)]
            exact List.mem_flatMap.2 ⟨e,he,List.mem_map_of_mem (List.mem_filter.2 ⟨m3,ho⟩)⟩
          have hg:X4 (Zp b) (Zs e.1.c e.2.c p.c)=X4 (Zp a) (Zs e.1.c e.2.c p.c):=h _ hx
          rw [←Sa.o _ m1 _ m2 _ m3,←Sb.o _ m1 _ m2 _ m3,hg]
        · have hz:∀ X Y:Pt→Rat,J5 X Y e.1 e.2 p=0:=fun X Y=>by
            by_cases e1:p.id=e.1.id
            · rw [Qlx hd m3 m1 e1]; exact (Mv _ _).1
            · by_cases e2:p.id=e.2.id
              · rw [Qlx hd m3 m2 e2]; exact (Mv _ _).2
              · exact absurd (by simp [V6,e1,e2]) ho
          rw [hz,hz]
      have hlx:∀ u∈X9 a (Xv l),∀ v∈X9 a (Xv l),lx (px · q) (py · q) u v→lx (px · r) (py · r) u v:=fun u hu v hv huv=>by
        have ra:=Sa.r
        by_cases e:u=v
        · subst e; exact absurd huv (J9 _)
        · rcases Dd (ra.and rb) hu hv e with h' | h'
          · exact h'.2
          · exact absurd (Su huv h'.1) (J9 _)
      have e1:=Qbv rb (Qek c1 hlx fun e he=>sgs e (by rw [hE]; exact List.mem_append_left _ he)) c1'
      have rb2:(X9 a (Xv l)).reverse.Pairwise (lx (fun p=>-px p r) (fun p=>-py p r)):=List.pairwise_reverse.2 (rb.imp fun h=>B6.2 h)
      have e2:=Qbv rb2 (Qek c2 (fun u hu v hv huv=>B6.2 (hlx v (List.mem_reverse.1 hv) u (List.mem_reverse.1 hu) (B6.1 huv))) fun e he p hp=>by
        rw [Tv (px · q) (py · q),Tv (px · r) (py · r)]
        exact sgs e (by rw [hE]; exact List.mem_append_right _ he) p (List.mem_reverse.1 hp)) c2'
      unfold Zt Vx
      rw [eR,if_neg h3,if_neg h3,hA,hB,hA',hB',e1,e2]
  refine ⟨hc,?_⟩
  unfold bcH
  rw [hc,k2,Qd9 fun x hx=>h x (List.mem_append_right _ hx)]
theorem Q20 {l:List Pt} (hl:∀ p∈l,Sc p.c) (hn:l.length≤10) (hd:l.Pairwise fun x y=>x.id≠y.id):Stab (bcH l) (brH l):=by
  refine ⟨Qgk hl hn,⟨Np l++Ip l,Du hl,fun a _ x hx=>Qas x hx⟩,fun a b ha hb h=>?_⟩
  obtain ⟨e1,e2⟩:=Qm2 hl hd ha hb h
  exact ⟨e2,by show Qk _=Qk _; rw [e1]⟩
end Orq

namespace Orr
open Go
end Orr

namespace Orq
open Orr Go
end Orq
namespace Orr
open Orq Go
end Orr

namespace Orr
open Orq
end Orr
namespace Orq
open Orr Go
theorem I2 {l:List Int} (h:∀ z∈l,z.natAbs<2^60):Bd 80 l:=fun z hz=>by
  have:=h z hz
  exact Nat.le_trans (Y3.2 (by omega:z.natAbs<2^60)) (by decide)
theorem Qk9 {x y:List Int} (hx:Qm x) (hy:Qm y):Nml ⟨x,y,1⟩:=by
  refine ⟨hx,hy,by show (0:Int)<1; decide,?_⟩
  have:=Fw (l:=(1:Int)::(x++y)) 1 (List.mem_cons_self ..)
  have:=Int.ofNat_dvd_left.1 this
  simpa using this
end Orq

namespace Orr
theorem Qfk:∀ {l:List Pt} {q:Pt},(∀ p∈l,p.id<q.id)→put l q=l++[q]
  | [],_,_=>rfl
  | p::l,q,h=>by rw [Qsh,if_pos (h p (by simp)),Qfk fun x hx=>h x (List.mem_cons_of_mem _ hx)]; rfl
theorem Qes:∀ (qs acc:List Pt),Qiy (acc++qs)→(acc++qs).length≤6→Vo acc qs=(acc++qs,0)
  | [],acc,_,_=>by rw [List.append_nil]; rfl
  |
   q::qs,acc,hs,hl=>by
   obtain ⟨h1,h2,h3⟩:=List.pairwise_append.1 hs
   have ha:∀ p∈acc,p.id<q.id:=fun p hp=>h3 p hp q (by simp)
   have he:Hq acc q=0:=by
     rw [Qsg (by simp at hl; omega)]
     have:has acc q.id=false:=by
       cases h:has acc q.id
       · rfl
       · obtain ⟨p,hp,e⟩:=(Qki h1).1 h
         have:=ha p hp; omega
     rw [this]; rfl
   simp only [Vo]
   rw [if_pos he,Qfk ha,Qes qs (acc++[q]) (by rw [List.append_assoc]; exact hs) (by rw [List.append_assoc]; exact hl),List.append_assoc]
   rfl
end Orr

namespace Orq
open Orr Go
section
variable {α:Type} {s:α→α→α→Bool} {S:α→Prop}
end
theorem Qcc {α:Type} {R:α→α→Prop} (irr:∀ x,¬R x x) (tr:∀ x y z,R x y→R y z→R x z) {l:List α} (hp:l.Pairwise R) {f:α} (hf:f∈l) (h:∀ x∈l,x≠f→R f x):l.head? = some f:=by
  cases l with
  | nil=>cases hf
  |
   cons x m =>
   rcases List.mem_cons.1 hf with e | hm
   · rw [e]; rfl
   · by_cases e:x=f
     · rw [e]; rfl
     · exact absurd (tr _ _ _ ((List.pairwise_cons.1 hp).1 f hm) (h x (by simp) e)) (irr x)
theorem Qlr {α:Type} {R:α→α→Prop} (irr:∀ x,¬R x x) (tr:∀ x y z,R x y→R y z→R x z) {l:List α} (hp:l.Pairwise R) {z:α} (hz:z∈l) (h:∀ x∈l,x≠z→R x z):l.getLast? = some z:=by
  rw [←List.head?_reverse]
  exact Qcc (R:=fun x y=>R y x) irr (fun x y w h1 h2=>tr _ _ _ h2 h1) (List.pairwise_reverse.2 hp) (List.mem_reverse.2 hz) fun x hx=>h x (List.mem_reverse.1 hx)
theorem Qms {x y:Crv}:Wj x y=true↔x=y:=by
  cases x; cases y; simp [Wj]
def hfn (s:List Int) (same:Bool) (i:Nat):List Int:=if same=true then [3,2] else Qp [s.getD i 0,(i:Int)]
def hpt (s:List Int) (same:Bool) (i:Nat):Pt:=⟨⟨hfn s same i,Mx (hfn s same i) (hfn s same i),1⟩,(i:Int)⟩
theorem Q18 (x:Rat):x / ((1:Int):Rat)=x:=by
  rw [show ((1:Int):Rat)=1 from rfl,Rat.div_def]
  have:=Q4u
  rw [this]; grind
def Mg (s:List Int) (t:Int) (i:Nat):Int:=s.getD i 0+(i:Int)*t
end Orq

namespace Orq
open Orr Go
def Uu (x u y v id:Int):Pt:=⟨⟨Qp [x,u],Qp [y,v],1⟩,id⟩
def Bm:List Pt:=[Uu (-5) (-1) (-5) (-1) 0,Uu 5 1 (-5) (-1) 1,Uu 5 1 5 1 2,Uu (-5) (-1) 5 1 3]
def gl (x u y v:Int):List Pt:=Bm++[Uu x u y v 4]
theorem Qh3 (x u y v i:Int) (q:Rat):px (Uu x u y v i) q=(x:Rat)+(u:Rat)*q:=by
  show Qg (Qp [x,u]) q / ((1:Int):Rat)=_
  rw [K0,Q18]; simp only [Qg]; grind
theorem Qh4 (x u y v i:Int) (q:Rat):py (Uu x u y v i) q=(y:Rat)+(v:Rat)*q:=by
  show Qg (Qp [y,v]) q / ((1:Int):Rat)=_
  rw [K0,Q18]; simp only [Qg]; grind
theorem Bp {x u y v i:Int} (h:x.natAbs≤100∧u.natAbs≤100∧y.natAbs≤100∧v.natAbs≤100):Sc (Uu x u y v i).c :=
  ⟨Qk9 (Z2 _) (Z2 _),⟨X3 (Qc (I2 fun z hz=>by simp only [List.mem_cons,List.not_mem_nil,or_false] at hz; omega) (by decide)),X3 (Qc (I2 fun z hz=>by simp only [List.mem_cons,List.not_mem_nil,or_false] at hz; omega) (by decide)),by show Qt 1≤90; decide,Nat.le_trans (Z8 _) (by simp),Nat.le_trans (Z8 _) (by simp)⟩⟩
theorem Qx9 {x u y v:Int} (h:x.natAbs≤100∧u.natAbs≤100∧y.natAbs≤100∧v.natAbs≤100):∀ p∈gl x u y v,Sc p.c:=fun p hp=>by
  simp only [gl,Bm,List.cons_append,List.nil_append,List.mem_cons,List.not_mem_nil,or_false] at hp
  rcases hp with rfl | rfl | rfl | rfl | rfl
  · exact Bp (by decide)
  · exact Bp (by decide)
  · exact Bp (by decide)
  · exact Bp (by decide)
  · exact Bp h
theorem Qqx (x u y v:Int):(gl x u y v).Pairwise fun x y=>x.id<y.id:=by simp [gl,Bm,Uu]
theorem Qx8 (x u y v:Int):(gl x u y v).Pairwise fun x y=>x.id≠y.id:=(Qqx x u y v).imp fun {a b} h=>by omega
theorem Qqs:List.foldl Jk [] Bm=Bm:=rfl
theorem D9 (x u y v:Int):Xv (gl x u y v)=Jk Bm (Uu x u y v 4):=by
  show List.foldl Jk [] (Bm++_)=_
  rw [List.foldl_append,Qqs]; rfl
theorem Qzx {x u y v:Int} {p:Pt} (h:p∈Bm):p∈Xv (gl x u y v):=by
  rw [D9]; unfold Jk; split
  · exact h
  · exact List.mem_append_left _ h
theorem Qhb {x u y v:Int} {p:Pt} (h:p∈Xv (gl x u y v)):p∈Bm∨p=Uu x u y v 4:=by
  rcases List.mem_append.1 (Yf h) with h | h
  · exact .inl h
  · exact .inr (List.mem_singleton.1 h)
theorem Qvk {p:Pt} (h:p∈Bm):p=Uu (-5) (-1) (-5) (-1) 0∨p=Uu 5 1 (-5) (-1) 1∨p=Uu 5 1 5 1 2∨p=Uu (-5) (-1) 5 1 3:=by
  simpa [Bm] using h
theorem Qqr {q:Rat}:(px (Uu (-5) (-1) (-5) (-1) 0) q=-(5+q)∧py (Uu (-5) (-1) (-5) (-1) 0) q=-(5+q))∧(px (Uu 5 1 (-5) (-1) 1) q=5+q∧py (Uu 5 1 (-5) (-1) 1) q=-(5+q))∧(px (Uu 5 1 5 1 2) q=5+q∧py (Uu 5 1 5 1 2) q=5+q)∧px (Uu (-5) (-1) 5 1 3) q=-(5+q)∧py (Uu (-5) (-1) 5 1 3) q=5+q:=by
  simp only [Qh3,Qh4]
  have e1:((-5:Int):Rat)=-5:=rfl
  have e2:((-1:Int):Rat)=-1:=rfl
  have e3:((5:Int):Rat)=5:=rfl
  have e4:((1:Int):Rat)=1:=rfl
  rw [e1,e2,e3,e4]
  refine ⟨⟨?_,?_⟩,⟨?_,?_⟩,⟨?_,?_⟩,?_,?_⟩ <;> grind
def Box (W:List Pt) (q:Rat):Prop:=∀ p∈W,-(5+q)≤px p q∧px p q≤5+q∧-(5+q)≤py p q∧py p q≤5+q
theorem Qbm {q:Rat} (h:0<5+q):Box Bm q:=fun p hp=>by
  obtain ⟨⟨a1,a2⟩,⟨b1,b2⟩,⟨c1,c2⟩,d1,d2⟩:=Qqr (q:=q)
  rcases Qvk hp with rfl | rfl | rfl | rfl
  · rw [a1,a2]; grind
  · rw [b1,b2]; grind
  · rw [c1,c2]; grind
  · rw [d1,d2]; grind
theorem Qkh {x u y v:Int} {a:Tm} {q:Rat} (S:Soon (gl x u y v) a q) (h0:0<5+q) (hb:Box (Xv (gl x u y v)) q):Zt (gl x u y v) a=Bm:=by
  obtain ⟨l,hl⟩:∃ l,l=gl x u y v:=⟨_,rfl⟩
  have gw:∀ p∈Bm,p∈Xv l:=fun p hp=>by rw [hl]; exact Qzx hp
  rw [←hl] at S hb ⊢
  obtain ⟨g0,e0⟩:∃ p,p=Uu (-5) (-1) (-5) (-1) 0:=⟨_,rfl⟩
  obtain ⟨g1,e1⟩:∃ p,p=Uu 5 1 (-5) (-1) 1:=⟨_,rfl⟩
  obtain ⟨g2,e2⟩:∃ p,p=Uu 5 1 5 1 2:=⟨_,rfl⟩
  obtain ⟨g3,e3⟩:∃ p,p=Uu (-5) (-1) 5 1 3:=⟨_,rfl⟩
  have eg:Bm=[g0,g1,g2,g3]:=by rw [e0,e1,e2,e3]; rfl
  obtain ⟨⟨x0,y0⟩,⟨x1,y1⟩,⟨x2,y2⟩,x3,y3⟩:=Qqr (q:=q)
  rw [←e0] at x0 y0
  rw [←e1] at x1 y1
  rw [←e2] at x2 y2
  rw [←e3] at x3 y3
  have m0:=gw g0 (by rw [eg]; simp)
  have m1:=gw g1 (by rw [eg]; simp)
  have m2:=gw g2 (by rw [eg]; simp)
  have m3:=gw g3 (by rw [eg]; simp)
  have h3:3≤(X9 a (Xv l)).length:=by
    rw [Ys,hl,D9]
    unfold Jk
    split <;> simp [Bm]
  rw [eg]
  clear e0 e1 e2 e3 hl
  obtain ⟨R,hR⟩:∃ R,R=X9 a (Xv l):=⟨_,rfl⟩
  have rm:∀ {p},p∈R↔p∈Xv l:=by rw [hR]; exact Zb
  have r:=S.r
  rw [←hR] at r
  have r2:R.reverse.Pairwise (lx (fun p=>-px p q) (fun p=>-py p q)):=List.pairwise_reverse.2 (r.imp fun h=>B6.2 h)
  have l02:g0≠g2:=fun e=>by rw [e,x2] at x0; grind
  have l01:g0≠g1:=fun e=>by rw [e,x1] at x0; grind
  have l12:g1≠g2:=fun e=>by rw [e,y2] at y1; grind
  have hd:R.head? = some g0:=Qcc J9 (fun _ _ _=>Su) r (rm.2 m0) fun p hp hne=>by
    have hbp:=hb p (rm.1 hp)
    rcases Dd r (rm.2 m0) hp (Ne.symm hne) with h | h
    · exact h
    · exfalso; unfold lx at h; grind
  have la:R.getLast? = some g2:=Qlr J9 (fun _ _ _=>Su) r (rm.2 m2) fun p hp hne=>by
    have hbp:=hb p (rm.1 hp)
    rcases Dd r (rm.2 m2) hp (Ne.symm hne) with h | h
    · exfalso; unfold lx at h; grind
    · exact h
  have d1:LowC (px · q) (py · q) R [g0,g1,g2]:=by
    refine ⟨hd.symm,la.symm,?_,?_,⟨fun p hp=>?_,fun p hp=>?_,trivial⟩,⟨?_,trivial⟩⟩
    · simp only [List.pairwise_cons,List.mem_cons,List.not_mem_nil,or_false,forall_eq_or_imp,forall_eq]
      unfold lx
      simp only [x0,x1,x2,y0,y1,y2]
      refine ⟨⟨?_,?_⟩,?_,?_⟩
      · grind
      · grind
      · grind
      · exact ⟨fun _ h=>by simp at h,.nil⟩
    · intro p hp
      simp only [List.mem_cons,List.not_mem_nil,or_false] at hp
      rcases hp with rfl | rfl | rfl
      · exact rm.2 m0
      · exact rm.2 m1
      · exact rm.2 m2
    · have hbp:=hb p (rm.1 hp)
      unfold J5
      simp only [x0,x1,y0,y1]
      have:=Rat.mul_nonneg (show (0:Rat)≤2*(5+q) by grind) (show 0≤py p q+(5+q) by grind)
      grind
    · have hbp:=hb p (rm.1 hp)
      unfold J5
      simp only [x1,x2,y1,y2]
      have:=Rat.mul_nonneg (show (0:Rat)≤2*(5+q) by grind) (show 0≤(5+q)-px p q by grind)
      grind
    · unfold J5
      simp only [x0,x1,x2,y0,y1,y2]
      have:=Rat.mul_pos h0 h0
      grind
  have d2:LowC (fun p=>-px p q) (fun p=>-py p q) R.reverse [g2,g3,g0]:=by
    refine ⟨by rw [List.head?_reverse,la]; rfl,by rw [List.getLast?_reverse,hd]; rfl,?_,?_,⟨fun p hp=>?_,fun p hp=>?_,trivial⟩,⟨?_,trivial⟩⟩
    · simp only [List.pairwise_cons,List.mem_cons,List.not_mem_nil,or_false,forall_eq_or_imp,forall_eq]
      unfold lx
      simp only [x0,x3,x2,y0,y3,y2]
      refine ⟨⟨?_,?_⟩,?_,?_⟩
      · grind
      · grind
      · grind
      · exact ⟨fun _ h=>by simp at h,.nil⟩
    · intro p hp
      simp only [List.mem_cons,List.not_mem_nil,or_false] at hp
      rcases hp with rfl | rfl | rfl
      · exact List.mem_reverse.2 (rm.2 m2)
      · exact List.mem_reverse.2 (rm.2 m3)
      · exact List.mem_reverse.2 (rm.2 m0)
    · have hbp:=hb p (rm.1 (List.mem_reverse.1 hp))
      rw [Tv (px · q) (py · q)]
      unfold J5
      simp only [x3,x2,y3,y2]
      have:=Rat.mul_nonneg (show (0:Rat)≤2*(5+q) by grind) (show 0≤(5+q)-py p q by grind)
      grind
    · have hbp:=hb p (rm.1 (List.mem_reverse.1 hp))
      rw [Tv (px · q) (py · q)]
      unfold J5
      simp only [x3,x0,y3,y0]
      have:=Rat.mul_nonneg (show (0:Rat)≤2*(5+q) by grind) (show 0≤(5+q)+px p q by grind)
      grind
    · show 0<J5 (fun p=>-px p q) (fun p=>-py p q) g2 g3 g0
      rw [Tv (px · q) (py · q)]
      unfold J5
      simp only [x0,x3,x2,y0,y3,y2]
      have:=Rat.mul_pos h0 h0
      grind
  obtain ⟨f,z,A,B,hA,hB,c1,c2,hE,hC2⟩:=G0 S h3
  have k1:=Qbv (by rw [←hR]; exact r) c1 (by rw [←hR]; exact d1)
  have k2:=Qbv (by rw [←hR]; exact r2) c2 (by rw [←hR]; exact d2)
  unfold Zt Vx
  rw [if_neg (by omega),hA,hB,k1,k2]
  rfl
theorem Qrz {α:Type} {Q:α→Prop}:∀ {L:List α} {f z:α},L.head? = some f→L.getLast? = some z→Q f→¬Q z→∃ e∈Vl L,Q e.1∧¬Q e.2
  | [],_,_,h,_,_,_=>by cases h
  |
   [x],f,z,h1,h2,hf,hz=>by
   simp at h1 h2; subst h1; subst h2; exact absurd hf hz
  |
   x::y::L,f,z,h1,h2,hf,hz=>by
   have h1:x=f:=by simpa using h1
   subst h1
   rw [List.getLast?_cons_cons] at h2
   have e:Vl (x::y::L)=(x,y)::Vl (y::L):=rfl
   by_cases hy:Q y
   · obtain ⟨e',h,h'⟩:=Qrz (L:=y::L) rfl h2 hy hz
     exact ⟨e',by rw [e]; exact List.mem_cons_of_mem _ h,h'⟩
   · exact ⟨(x,y),by rw [e]; simp,hf,hy⟩
theorem Qmr {α:Type} {L:List α} {e:α×α} (h:e∈Vl L):e.1∈L∧e.2∈L:=by
  unfold Vl at h
  have h1:=List.of_mem_zip (show (e.1,e.2)∈_ from h)
  exact ⟨h1.1,List.mem_of_mem_drop h1.2⟩
theorem Qky {X Y:Pt→Rat} {R L:List Pt} (hR:R.Pairwise (lx X Y)) (c:LowC X Y R L) {g:Pt} (hg:g∈R) {s:Rat} (hY:∀ p∈R,p≠g→s≤Y p) (hy:Y g<s):g∈L:=by
  refine Classical.byContradiction fun hn=>?_
  obtain ⟨f,hf⟩:∃ f,R.head? = some f:=by cases R with
    | nil=>cases hg
    | cons f _=>exact ⟨f,rfl⟩
  obtain ⟨z,hz⟩:∃ z,R.getLast? = some z:=⟨_,List.getLast?_eq_some_getLast (List.ne_nil_of_mem hg)⟩
  have hf':=c.hd.trans hf
  have hz':=c.la.trans hz
  have fL:f∈L:=List.mem_of_mem_head? hf'
  have zL:z∈L:=List.mem_of_getLast? hz'
  have l1:lx X Y f g:=by
    cases R with
    | nil=>cases hg
    |
     cons f' R =>
     have hf:f'=f:=by simpa using hf
     subst hf
     rcases List.mem_cons.1 hg with e | h
     · rw [e] at hn; exact absurd fL hn
     · exact (List.pairwise_cons.1 hR).1 g h
  have l2:lx X Y g z:=by
    have hr:R.reverse.Pairwise fun a b=>lx X Y b a:=List.pairwise_reverse.2 hR
    have hz2:R.reverse.head? = some z:=by rw [List.head?_reverse]; exact hz
    have hg2:=List.mem_reverse.2 hg
    cases h:R.reverse with
    | nil=>rw [h] at hg2; cases hg2
    |
     cons z' M =>
     rw [h] at hr hz2 hg2
     have hz2:z'=z:=by simpa using hz2
     subst hz2
     rcases List.mem_cons.1 hg2 with e | h
     · rw [e] at hn; exact absurd zL hn
     · exact (List.pairwise_cons.1 hr).1 g h
  obtain ⟨e,he,q1,q2⟩:=Qrz (Q:=fun p=>lx X Y p g) hf' hz' l1 fun h=>J9 _ (Su l2 h)
  obtain ⟨a1,a2⟩:=Qmr he
  have n1:e.1≠g:=fun h=>hn (h ▸ a1)
  have n2:e.2≠g:=fun h=>hn (h ▸ a2)
  have y1:=hY _ (c.mem _ a1) n1
  have y2:=hY _ (c.mem _ a2) n2
  have q3:lx X Y g e.2:=by
    rcases Dd hR (c.mem _ a2) hg n2 with h | h
    · exact absurd h q2
    · exact h
  have h0:=D5.1 c.edg e he g hg
  have hw1:0≤X g-X e.1:=by unfold lx at q1; grind
  have hw2:0≤X e.2-X g:=by unfold lx at q3; grind
  have p1:=Rat.mul_nonneg hw1 (show 0≤Y e.2-Y g by grind)
  have p2:=Rat.mul_nonneg hw2 (show 0≤Y e.1-Y g by grind)
  have e0:J5 X Y e.1 e.2 g=-((X g-X e.1)*(Y e.2-Y g)+(X e.2-X g)*(Y e.1-Y g)):=by unfold J5; grind
  rw [e0] at h0
  by_cases hx:X g=X e.1
  · have hx1:Y e.1<Y g:=by unfold lx at q1; grind
    grind
  · have:=Rat.mul_pos (show 0<X g-X e.1 by grind) (show 0<Y e.2-Y g by grind)
    grind
theorem Qq1 {x u y v:Int} {a:Tm} {q:Rat} (S:Soon (gl x u y v) a q) (h0:0<5+q) (ho:5+q<px (Uu x u y v 4) q∨px (Uu x u y v 4) q < -(5+q)∨5+q<py (Uu x u y v 4) q∨py (Uu x u y v 4) q < -(5+q)):Uu x u y v 4∈Zt (gl x u y v) a:=by
  obtain ⟨l,hl⟩:∃ l,l=gl x u y v:=⟨_,rfl⟩
  obtain ⟨g,hg⟩:∃ g,g=Uu x u y v 4:=⟨_,rfl⟩
  have hbx:=Qbm h0
  have hgn:g∉Bm:=fun h=>by have:=hbx g h; rw [hg] at this; grind
  have hmem:∀ p∈Xv l,p≠g→p∈Bm:=fun p hp hne=>by
    rw [hl] at hp; rw [hg] at hne
    rcases Qhb hp with h | h
    · exact h
    · exact absurd h hne
  have hgw:g∈Xv l:=by
    rw [hl,hg,D9]
    unfold Jk
    rw [if_neg]
    · simp
    · intro h
      obtain ⟨p,hp,hp2⟩:=List.any_eq_true.1 h
      have e:=Qms.1 hp2
      have hb:=hbx p hp
      have e1:px (Uu x u y v 4) q=px p q:=by unfold px; rw [e]
      have e2:py (Uu x u y v 4) q=py p q:=by unfold py; rw [e]
      rw [e1,e2] at ho
      grind
  have h3:3≤(X9 a (Xv l)).length:=by
    rw [Ys,hl,D9]
    unfold Jk
    split <;> simp [Bm]
  rw [←hl] at S ⊢
  rw [←hg] at ho ⊢
  obtain ⟨f,z,A,B,hA,hB,c1,c2,hE,hC2⟩:=G0 S h3
  have hc:Zt l a=f::A++z::B:=by
    unfold Zt Vx
    rw [if_neg (by omega),hA,hB,List.dropLast_concat,List.dropLast_concat]
  rw [hc]
  have r:=S.r
  have r2:(X9 a (Xv l)).reverse.Pairwise (lx (fun p=>-px p q) (fun p=>-py p q)):=List.pairwise_reverse.2 (r.imp fun h=>B6.2 h)
  have hgr:=(Zb (t:=a)).2 hgw
  rcases ho with h | h | h | h
  · have hla:=Qlr J9 (fun _ _ _=>Su) r hgr fun p hp hne=>.inl (by
      have:=hbx p (hmem p (Zb.1 hp) hne); grind)
    have e:z=g:=Option.some.inj ((List.getLast?_concat (l:=f::A)).symm.trans (c1.la.trans hla))
    rw [←e]; simp
  · have hhd:=Qcc J9 (fun _ _ _=>Su) r hgr fun p hp hne=>.inl (by
      have:=hbx p (hmem p (Zb.1 hp) hne); grind)
    have e:f=g:=Option.some.inj (c1.hd.trans hhd)
    rw [←e]; simp
  · have:=Qky r2 c2 (List.mem_reverse.2 hgr) (s:=-(5+q)) (fun p hp hne=>by
      have:=hbx p (hmem p (Zb.1 (List.mem_reverse.1 hp)) hne)
      grind) (by grind)
    simp at this ⊢; grind
  · have:=Qky r c1 hgr (s:=-(5+q)) (fun p hp hne=>(hbx p (hmem p (Zb.1 hp) hne)).2.2.1) h
    simp at this ⊢; grind
def outB (t place speed:Int):Bool:=decide (5+t<place) || (decide (place=5+t) && decide (1<speed))
theorem Mw {t a u:Int} {d:Rat} (d0:0<d) (d1:d≤1 / 100) (hu:u.natAbs≤3):outB t a u=true↔5+((t:Rat)+d)<(a:Rat)+(u:Rat)*d:=by
  have e1:((1:Int):Rat)=1:=rfl
  have e3:((3:Int):Rat)=3:=rfl
  have em:((-3:Int):Rat)=-3:=rfl
  have e5:((5:Int):Rat)=5:=rfl
  have u1:(u:Rat)≤((3:Int):Rat):=Rat.intCast_le_intCast.2 (by omega)
  have u2:((-3:Int):Rat)≤(u:Rat):=Rat.intCast_le_intCast.2 (by omega)
  have m1:=Rat.mul_nonneg (show (0:Rat)≤3-(u:Rat) by grind) (Rat.le_of_lt d0)
  have m2:=Rat.mul_nonneg (show (0:Rat)≤(u:Rat)+3 by grind) (Rat.le_of_lt d0)
  unfold outB
  simp only [Bool.or_eq_true,Bool.and_eq_true,decide_eq_true_eq]
  rcases Int.lt_trichotomy (5+t) a with h | h | h
  · have h2:((5+t+1:Int):Rat)≤(a:Rat):=Rat.intCast_le_intCast.2 (by omega)
    rw [Rat.intCast_add,Rat.intCast_add] at h2
    constructor
    · intro _; grind
    · intro _; exact .inl h
  · have h2:((5+t:Int):Rat)=(a:Rat):=by rw [h]
    rw [Rat.intCast_add] at h2
    constructor
    · rintro (h' | ⟨_,h'⟩)
      · omega
      · have h3:((1+1:Int):Rat)≤(u:Rat):=Rat.intCast_le_intCast.2 (by omega)
        rw [Rat.intCast_add] at h3
        have:=Rat.mul_nonneg (show (0:Rat)≤(u:Rat)-2 by grind) (Rat.le_of_lt d0)
        grind
    · intro h'
      refine .inr ⟨h.symm,?_⟩
      refine Int.not_le.1 fun hn=>?_
      have h3:(u:Rat)≤((1:Int):Rat):=Rat.intCast_le_intCast.2 hn
      have:=Rat.mul_nonneg (show (0:Rat)≤1-(u:Rat) by grind) (Rat.le_of_lt d0)
      grind
  · have h2:((a+1:Int):Rat)≤((5+t:Int):Rat):=Rat.intCast_le_intCast.2 (by omega)
    rw [Rat.intCast_add,Rat.intCast_add] at h2
    constructor
    · rintro (h' | ⟨h',_⟩) <;> omega
    · intro _; exfalso; grind
theorem Ou {x u y v:Int} (h:x.natAbs≤100∧u.natAbs≤3∧y.natAbs≤100∧v.natAbs≤3) {t:Int} (t0:0≤t) (ht:Qs 400000 (t:Rat)):∃ q d:Rat,0<d∧d≤1 / 100∧q=(t:Rat)+d∧0<5+q∧Soon (gl x u y v) (tq (t:Rat)) q:=by
  have tgt:∀ {t q:Rat},Qu (tq t) q=-1↔t<q:=fun {t q}=>by
    rw [Ql5]; rcases Vj t q with ⟨e,h⟩ | ⟨e,h⟩ | ⟨e,h⟩ <;> grind
  obtain ⟨y',y1,y2⟩:=Qft (Qx9 (x:=x) (u:=u) (y:=y) (v:=v) (by omega)) (Qx8 x u y v) (Qw8 ht)
  have y1:=tgt.1 y1
  obtain ⟨q,hq⟩:∃ q:Rat,q=if y'≤(t:Rat)+1 / 100 then y' else (t:Rat)+1 / 100:=⟨_,rfl⟩
  have q1:(t:Rat)<q:=by grind
  have q2:q≤y':=by grind
  have hT:((0:Int):Rat)≤(t:Rat):=Rat.intCast_le_intCast.2 t0
  have e0:((0:Int):Rat)=0:=rfl
  exact ⟨q,q-t,by grind,by grind,by grind,by grind,y2 q (tgt.2 q1) q2⟩
theorem Qvm {x u y v:Int} (h:x.natAbs≤4∧u.natAbs≤3∧y.natAbs≤4∧v.natAbs≤3) {t:Int} (t0:0≤t) (ht:Qs 400000 (t:Rat)) :
    (Zt (gl x u y v) (tq (t:Rat))).any (fun p=>decide (p.id=4))=(outB t (x+u*t) u || outB t (-(x+u*t)) (-u) || outB t (y+v*t) v || outB t (-(y+v*t)) (-v)):=by
  obtain ⟨q,d,d0,d1,hq,h0,S⟩:=Ou (x:=x) (u:=u) (y:=y) (v:=v) (by omega) t0 ht
  have o1:=Mw (t:=t) (a:=x+u*t) d0 d1 h.2.1
  have o2:=Mw (t:=t) (a:=-(x+u*t)) (u:=-u) d0 d1 (by omega)
  have o3:=Mw (t:=t) (a:=y+v*t) d0 d1 h.2.2.2
  have o4:=Mw (t:=t) (a:=-(y+v*t)) (u:=-v) d0 d1 (by omega)
  have ex:px (Uu x u y v 4) q=((x+u*t:Int):Rat)+(u:Rat)*d:=by rw [Qh3,hq,Rat.intCast_add,Rat.intCast_mul]; grind
  have ey:py (Uu x u y v 4) q=((y+v*t:Int):Rat)+(v:Rat)*d:=by rw [Qh4,hq,Rat.intCast_add,Rat.intCast_mul]; grind
  rw [Rat.intCast_neg,Rat.intCast_neg] at o2 o4
  by_cases hw:(outB t (x+u*t) u || outB t (-(x+u*t)) (-u) || outB t (y+v*t) v || outB t (-(y+v*t)) (-v))=true
  · rw [hw]
    refine List.any_eq_true.2 ⟨_,Qq1 S h0 ?_,by simp [Uu]⟩
    rw [ex,ey]
    simp only [Bool.or_eq_true] at hw
    rcases hw with ((hw | hw) | hw) | hw
    · have:=o1.1 hw; exact .inl (by grind)
    · have:=o2.1 hw; exact .inr (.inl (by grind))
    · have:=o3.1 hw; exact .inr (.inr (.inl (by grind)))
    · have:=o4.1 hw; exact .inr (.inr (.inr (by grind)))
  · have hb:Box (Xv (gl x u y v)) q:=fun p hp=>by
      rcases Qhb hp with hp | rfl
      · exact Qbm h0 p hp
      · simp only [Bool.or_eq_true,not_or] at hw
        obtain ⟨⟨⟨w1,w2⟩,w3⟩,w4⟩:=hw
        have w1:=fun h=>w1 (o1.2 h)
        have w2:=fun h=>w2 (o2.2 h)
        have w3:=fun h=>w3 (o3.2 h)
        have w4:=fun h=>w4 (o4.2 h)
        rw [ex,ey]
        refine ⟨?_,?_,?_,?_⟩ <;> grind
    rw [Qkh S h0 hb,Bool.eq_false_iff.2 hw]
    rfl
theorem Qq0 {x u y v:Int} (h:x.natAbs≤4∧u.natAbs≤3∧y.natAbs≤4∧v.natAbs≤3) (ht:Qs 400000 ((0:Int):Rat)):Zt (gl x u y v) (tq ((0:Int):Rat))=Bm:=by
  obtain ⟨q,d,d0,d1,hq,h0,S⟩:=Ou (x:=x) (u:=u) (y:=y) (v:=v) (by omega) (Int.le_refl 0) ht
  refine Qkh S h0 fun p hp=>?_
  rcases Qhb hp with hp | rfl
  · exact Qbm h0 p hp
  · have o:∀ a u:Int,a.natAbs≤4→u.natAbs≤3→(a:Rat)+(u:Rat)*q≤5+q:=fun a u ha hu=>by
      have:=Mw (t:=0) (a:=a) (u:=u) d0 d1 hu
      have hf:¬outB 0 a u=true:=by unfold outB; simp; omega
      have e0:((0:Int):Rat)=0:=rfl
      grind
    have o1:=o x u (by omega) (by omega)
    have o2:=o (-x) (-u) (by omega) (by omega)
    have o3:=o y v (by omega) (by omega)
    have o4:=o (-y) (-v) (by omega) (by omega)
    rw [Rat.intCast_neg,Rat.intCast_neg] at o2 o4
    rw [Qh3,Qh4]
    refine ⟨?_,?_,?_,?_⟩ <;> grind
end Orq

namespace Orr
open Go Go.Proofs Orq
set_option maxRecDepth 10000
theorem Qjf {a b c:Pt} {t:Tm} (ha:Sc a.c) (hb:Sc b.c) (hc:Sc c.c) (ht:Va t):Qf Tryz.prog 76 [.one (.int .i64 3),.agg (ta t),.one (.row [Zq a,Zq b,Zq c])] [.agg (Pl (Ya (Zp t) a b c)),.one (.int .i64 0)]:=by
  have hp:=(Ba ha hb hc).dp
  have e:Pl (Ya (Zp t) a b c)=[.int .i64 3,.int .i64 a.id,.int .i64 b.id,.int .i64 c.id,.int .i64 0,pl (Zs a.c b.c c.c),.int .i64 (X4 (Zp t) (Zs a.c b.c c.c))]:=by rw [Ya]
  rw [e]
  have cg:=Qjn hp ht
  have cf:=Qde ha hb hc
  generalize Zs a.c b.c c.c=F at *
  refine Jb Tryz.func76 rfl ?_
  refine go tt [.c [] Qmo,.f rfl] rfl trivial ?_
  refine lp (S:=Nat) 3 (fun L1 i=>(22,.v (.one (.int .i64 (i:Int))))::L1) (fun i=>[.blk 64 (ta t),.blk 122 zCt,.blk 122 [.int .i64 3,.int .i64 (if 1≤i then a.id else 0),.int .i64 (if 2≤i then b.id else 0),.int .i64 (if 3≤i then c.id else 0),.int .i64 0,.nils,.int .i64 0]]) (fun i=>3-i) (fun i=>i≤3) 0 (Nat.zero_le _) rfl (fun _ _=>rfl) rfl fun i hi=>?_
  rcases (show i=0∨i=1∨i=2∨i=3 by omega) with rfl | rfl | rfl | rfl
  · refine go tt [.t rfl,.x (i:=0) (xs:=Zq a) rfl,.i 0] rfl (by simp [Qa]) ?_
    exact rd 1 (by omega) (by omega) rfl
  · refine go tt [.t rfl,.x (i:=1) (xs:=Zq b) rfl,.i 1] rfl (by simp [Qa]) ?_
    exact rd 2 (by omega) (by omega) rfl
  · refine go tt [.t rfl,.x (i:=2) (xs:=Zq c) rfl,.i 2] rfl (by simp [Qa]) ?_
    exact rd 3 (by omega) (by omega) rfl
  · exact en tt [.f rfl,.f rfl,.f rfl,.t rfl,.x (i:=0) (xs:=Zq a) rfl,.x (i:=1) (xs:=Zq b) rfl,.x (i:=2) (xs:=Zq c) rfl,.c [] cf,.c [] cg] rfl rfl trivial
theorem Uy {α:Type} (s:α→α→α→Bool):∀ (l acc:List α) (c:α),Jv s acc (l++[c])=c::K5 s c (Jv s acc l)
  | [],_,_=>rfl
  | _::l,_,c=>Uy s l _ c
theorem Qjk {R:List Pt} {t:Tm} (hR:∀ p∈R,Sc p.c) (hn:R.length≤1000000) (ht:Va t):Qf Tryz.prog 112 [.agg (ta t),.one (pts R)] [.one (pts (Jm (Zp t) R))]:=by
  have hcl:=Jf R
  show Qf Tryz.prog 112 [.agg (ta t),.one (.row (Qk R))] [.one (.row (Qk (Jv (Mm (Zp t)) [] R).reverse))]
  obtain ⟨s,hs⟩:∃ s,s=Mm (Zp t):=⟨_,rfl⟩
  have hs':∀ a b c,s a b c=decide (0<X4 (Zp t) (Zs a.c b.c c.c)):=fun a b c=>by rw [hs]; rfl
  rw [←hs]
  refine Jb Tryz.func112 rfl ?_
  refine go tt [.o 5 33 5] rfl trivial ?_
  refine lp (S:=Nat) 2 (fun L1 i=>(10,.v (.one (.int .i64 (i:Int))))::(5,.v (.one (.orow 1 5 none)))::L1) (fun i=>[.blk 64 (ta t),.row false 33 5 (Qk (Jv s [] (R.take i)).reverse)]) (fun i=>R.length-i) (fun i=>i≤R.length) 0 (Nat.zero_le _) rfl (fun _ _=>rfl) rfl fun i hi=>?_
  by_cases hlt:i<R.length
  · obtain ⟨c,hc⟩:∃ c,R[i]? = some c:=⟨_,List.getElem?_eq_getElem hlt⟩
    have hcp:=hR c (List.mem_of_getElem? hc)
    have hst:Jv s [] (R.take (i+1))=c::K5 s c (Jv s [] (R.take i)):=by rw [List.take_succ,hc]; exact Uy s _ _ c
    obtain ⟨O,hO⟩:∃ O,O=Jv s [] (R.take i):=⟨_,rfl⟩
    have hOl:O.length≤1000000:=by
      have:=S7 s (R.take i) []
      rw [←hO,List.length_take] at this; simp at this; omega
    have hOm:∀ x∈O,Sc x.c:=fun x hx=>by
      rw [hO] at hx
      rcases S8 hx with h | h
      · cases h
      · exact hR x (List.mem_of_mem_take h)
    rw [←hO] at hst ⊢
    have hrl:(Qk O.reverse).length=O.length:=by rw [Jf,List.length_reverse]
    have hm:∀ y∈[Zq c],y.length=5:=fun y hy=>by rw [List.mem_singleton.1 hy]; rfl
    have hget:∀ {pre r:List Pt} {x:Pt},O=pre++x::r→∀ j,j=r.length→(Qk O.reverse)[j]? = some (Zq x):=fun {pre r x} e j hj=>by
      refine Je ?_
      rw [e,hj]; simp
    have hfin:∀ {pre st:List Pt},O=pre++st→Qk (c::st).reverse=(Qk O.reverse).take st.length++[Zq c]:=fun {pre st} e=>by
      rw [e]; simp [Qk,List.map_take,List.take_append]
    have hfull:Qk (c::O).reverse=Qk O.reverse++[Zq c]:=by simp [Qk]
    refine go tt [.t (by simp [hcl]; omega),.x (Je hc)] rfl trivial ?_
    refine lp (S:=Bool×List Pt) 3 (fun L1 s=>(5,.v (.one (.orow 1 5 (cond s.1 (some (0,s.2.length)) none))))::L1) (fun _=>[.blk 64 (ta t),.row false 33 5 (Qk O.reverse),.blk 33 (Zq c)]) (fun s=>s.2.length) (fun st=>(∃ pre,O=pre++st.2∧(st.1=false→pre=[]))∧K5 s c st.2=K5 s c O) (false,O) ⟨⟨[],rfl,fun _=>rfl⟩,rfl⟩ rfl (fun _ _=>rfl) rfl fun ⟨b,st⟩ ⟨⟨pre,h1,h2⟩,h3⟩=>?_
    have h1:O=pre++st:=h1
    have h3:K5 s c st=K5 s c O:=h3
    have hl1:O.length=pre.length+st.length:=by rw [h1,List.length_append]
    have fin:∀ {st:List Pt},O=pre++st→K5 s c st=K5 s c O→K5 s c st=st→Qk (Jv s [] (R.take (i+1))).reverse=(Qk O.reverse).take st.length++[Zq c]∧(pre=[]→Qk (Jv s [] (R.take (i+1))).reverse=Qk O.reverse++[Zq c]):=fun {st} e1 e2 e3=>by
      rw [hst,←e2,e3]
      refine ⟨hfin e1,fun hp=>?_⟩
      rw [hp] at e1
      rw [←hfull,e1]; rfl
    rcases st with _ | ⟨z,_ | ⟨y,r⟩⟩
    · obtain ⟨f1,f2⟩:=fin h1 h3 rfl
      cases b with
      |
       false =>
       have hp:=h2 rfl
       have f2:=f2 hp
       rw [hp] at hl1
       have hl2:(Qk O.reverse).length≤1:=by rw [hrl,hl1]; simp
       refine go tt [.g 17 false (decide_eq_false (by omega)),.f rfl,.s (sz:=5) hm] rfl (by simp [Qa]; omega) ?_
       exact rd (i+1) (by omega) hlt (by rw [f2]; rfl)
      |
       true =>
       refine go tt [.g 17 false (decide_eq_false (by simp)),.f rfl,.s (sz:=5) hm] rfl (by simp [Qa]; omega) ?_
       exact rd (i+1) (by omega) hlt (by rw [f1]; rfl)
    · obtain ⟨f1,f2⟩:=fin h1 h3 rfl
      cases b with
      |
       false =>
       have hp:=h2 rfl
       have f2:=f2 hp
       rw [hp] at hl1
       have hl2:(Qk O.reverse).length≤1:=by rw [hrl,hl1]; simp
       refine go tt [.g 17 false (decide_eq_false (by omega)),.f rfl,.s (sz:=5) hm] rfl (by simp [Qa]; omega) ?_
       exact rd (i+1) (by omega) hlt (by rw [f2]; rfl)
      |
       true =>
       refine go tt [.g 17 false (decide_eq_false (by simp)),.f rfl,.s (sz:=5) hm] rfl (by simp [Qa]; omega) ?_
       exact rd (i+1) (by omega) hlt (by rw [f1]; rfl)
    · have sz:=hOm z (by rw [h1]; simp)
      have sy:=hOm y (by rw [h1]; simp)
      have co:=Qde sy sz hcp
      have cg:=Qjn (Ba sy sz hcp).dp ht
      have gz:=hget h1 (r.length+1) rfl
      have gy:=hget (pre:=pre++[z]) (r:=r) (x:=y) (by rw [h1]; simp) r.length rfl
      have hl1:O.length=pre.length+(r.length+2):=hl1
      have hls:=hs' y z c
      by_cases hq:s y z c=true
      · have hg:¬X4 (Zp t) (Zs y.c z.c c.c)≤0:=by rw [hls] at hq; have:=of_decide_eq_true hq; omega
        obtain ⟨f1,f2⟩:=fin h1 h3 (by simp only [K5]; rw [if_pos hq])
        cases b with
        |
         false =>
         have hp:=h2 rfl
         have f2:=f2 hp
         rw [hp] at hl1
         have hl2:(Qk O.reverse).length=r.length+2:=by rw [hrl,hl1]; simp
         refine go tt [.g 17 true (decide_eq_true (by omega)),.r 21 (eI (b:=(r.length:Int)) (by omega)),.i r.length,.x gy,.r 28 (eI (b:=((r.length+1:Nat):Int)) (by omega)),.i (r.length+1),.x gz,.c [] co,.c [] cg,.f (decide_eq_false hg),.s (sz:=5) hm] rfl (by simp [Qa]; omega) ?_
         exact rd (i+1) (by omega) hlt (by rw [f2]; rfl)
        |
         true =>
         refine go tt [.g 17 true (decide_eq_true (by simp; omega)),.r 21 (eI (b:=(r.length:Int)) (by simp; omega)),.i r.length,.x (l:=Qk O.reverse) (i:=0+r.length) (xs:=Zq y) (by rw [Nat.zero_add]; exact gy),.r 28 (eI (b:=((r.length+1:Nat):Int)) (by simp)),.i (r.length+1),.x (l:=Qk O.reverse) (i:=0+(r.length+1)) (xs:=Zq z) (by rw [Nat.zero_add]; exact gz),.c [] co,.c [] cg,.f (decide_eq_false hg),.s (sz:=5) hm] rfl (by simp [Qa]; omega) ?_
         exact rd (i+1) (by omega) hlt (by rw [f1]; rfl)
      · have hg:X4 (Zp t) (Zs y.c z.c c.c)≤0:=by
          rw [hls] at hq; have:=of_decide_eq_false (Bool.eq_false_iff.2 hq); omega
        have hpop:K5 s c (y::r)=K5 s c O:=by rw [←h3]; simp only [K5]; rw [if_neg hq]
        have hin:(∃ pre',O=pre'++(y::r)∧((true:Bool)=false→pre'=[]))∧K5 s c (y::r)=K5 s c O:=⟨⟨pre++[z],by rw [h1]; simp,fun h=>by cases h⟩,hpop⟩
        cases b with
        |
         false =>
         have hp:=h2 rfl
         rw [hp] at hl1
         have hl2:(Qk O.reverse).length=r.length+2:=by rw [hrl,hl1]; simp
         refine go tt [.g 17 true (decide_eq_true (by omega)),.r 21 (eI (b:=(r.length:Int)) (by omega)),.i r.length,.x gy,.r 28 (eI (b:=((r.length+1:Nat):Int)) (by omega)),.i (r.length+1),.x gz,.c [] co,.c [] cg,.t (decide_eq_true hg),.r 42 (eI (b:=((r.length+1:Nat):Int)) (by omega)),.i (r.length+1)] rfl (by simp [Qa]; omega) ?_
         exact rd (true,y::r) (by simp) hin rfl
        |
         true =>
         refine go tt [.g 17 true (decide_eq_true (by simp; omega)),.r 21 (eI (b:=(r.length:Int)) (by simp; omega)),.i r.length,.x (l:=Qk O.reverse) (i:=0+r.length) (xs:=Zq y) (by rw [Nat.zero_add]; exact gy),.r 28 (eI (b:=((r.length+1:Nat):Int)) (by simp)),.i (r.length+1),.x (l:=Qk O.reverse) (i:=0+(r.length+1)) (xs:=Zq z) (by rw [Nat.zero_add]; exact gz),.c [] co,.c [] cg,.t (decide_eq_true hg),.r 42 (eI (b:=((r.length+1:Nat):Int)) (by simp)),.i (r.length+1)] rfl (by simp [Qa]; omega) ?_
         exact rd (true,y::r) (by simp) hin rfl
  · obtain rfl:i=R.length:=by omega
    rw [List.take_length]
    exact en tt [.f (by simp [hcl])] rfl rfl trivial
theorem Qgz {sg:List Int→Int} {R:List Pt} (h:R≠[]):0<(Jm sg R).length:=by
  unfold Jm
  rw [List.length_reverse]
  obtain ⟨x,hx⟩:∃ x,R.getLast? = some x:=⟨_,List.getLast?_eq_some_getLast h⟩
  obtain ⟨l,hl⟩:=List.getLast?_eq_some_iff.1 hx
  rw [hl,Uy]; simp
theorem Qfa {α:Type} (s:α→α→α→Bool) (c:α):∀ {st:List α},st≠[]→0<(K5 s c st).length
  | [],h=>absurd rfl h
  | [_],_=>by simp [K5]
  |
   b::a::r,_=>by
   simp only [K5]
   split
   · simp
   · exact Qfa s c (by simp)
theorem Ej {sg:List Int→Int} {R:List Pt} (h:2≤R.length):2≤(Jm sg R).length:=by
  unfold Jm
  rw [List.length_reverse]
  obtain ⟨x,hx⟩:∃ x,R.getLast? = some x:=⟨_,List.getLast?_eq_some_getLast (by intro e; rw [e] at h; simp at h)⟩
  obtain ⟨l,hl⟩:=List.getLast?_eq_some_iff.1 hx
  have hl0:l≠[]:=by intro e; rw [hl,e] at h; simp at h
  have:=Qgz (sg:=sg) hl0
  unfold Jm at this
  rw [List.length_reverse] at this
  have:=Qfa (Mm sg) x (st:=Jv (Mm sg) [] l) (by intro e; rw [e] at this; simp at this)
  rw [hl,Uy,List.length_cons]; omega
theorem Qjp {R:List Pt} {t:Tm} (hR:∀ p∈R,Sc p.c) (hn:R.length≤1000000) (ht:Va t):Qf Tryz.prog 71 [.agg (ta t),.one (pts R)] [.one (pts (Vx (Zp t) R))]:=by
  have hcl:=Jf R
  have hrl:=Jf R.reverse
  rw [List.length_reverse] at hrl
  show Qf Tryz.prog 71 [.agg (ta t),.one (.row (Qk R))] [.one (.row (Qk (Vx (Zp t) R)))]
  refine Jb Tryz.func71 rfl ?_
  by_cases h3:R.length<3
  · have e:Vx (Zp t) R=R:=if_pos h3
    rw [e]
    exact en tt [.t (decide_eq_true (by omega))] rfl rfl trivial
  have c1:=Qjk hR hn ht
  have c2:=Qjk (R:=R.reverse) (fun p hp=>hR p (List.mem_reverse.1 hp)) (by rw [List.length_reverse]; exact hn) ht
  have p1:=Ej (sg:=Zp t) (R:=R) (by omega)
  have p2:=Ej (sg:=Zp t) (R:=R.reverse) (by rw [List.length_reverse]; omega)
  have k1:=Gx (Zp t) R
  have k2:=Gx (Zp t) R.reverse
  rw [List.length_reverse] at k2
  refine go tt [.f (decide_eq_false (by omega)),.o 5 33 5,.r 15 (eI (b:=(R.length:Int)-1-((0:Nat):Int)) (by omega))] rfl (by simp [Qa,hcl]; omega) ?_
  refine lp (S:=Nat) 2 (fun L1 j=>(6,.v (.one (.int .i64 ((R.length:Int)-1-(j:Int)))))::(5,.v (.one (.orow 1 5 none)))::L1) (fun j=>[.blk 64 (ta t),.row false 33 5 (Qk (R.reverse.take j))]) (fun j=>R.length-j) (fun j=>j≤R.length) 0 (Nat.zero_le _) rfl (fun _ _=>rfl) rfl fun j hj=>?_
  by_cases hlt:j<R.length
  · obtain ⟨x,hx⟩:∃ x,R[R.length-1-j]? = some x:=⟨_,List.getElem?_eq_getElem (by omega)⟩
    have hx':R.reverse[j]? = some x:=by rw [List.getElem?_reverse (by omega)]; exact hx
    have hm:∀ y∈[Zq x],y.length=5:=fun y hy=>by rw [List.mem_singleton.1 hy]; rfl
    have e:Qk (R.reverse.take (j+1))=Qk (R.reverse.take j)++[Zq x]:=by rw [List.take_succ,hx']; simp [Qk]
    have htl:(Qk (R.reverse.take j)).length=j:=by rw [Jf,List.length_take,List.length_reverse]; omega
    refine go tt [.t (decide_eq_true (by omega)),.r 22 (eI (b:=((R.length-1-j:Nat):Int)) (by omega)),.x (Je hx),.s (sz:=5) hm,.r 19 (eI (b:=(R.length:Int)-1-((j+1:Nat):Int)) (by omega))] rfl (by simp [Qa,htl]; omega) ?_
    exact rd (j+1) (by omega) hlt (by rw [e]; rfl)
  · obtain rfl:j=R.length:=by omega
    rw [List.take_of_length_le (by rw [List.length_reverse]; exact Nat.le_refl _)]
    obtain ⟨A,hA⟩:∃ A,A=Jm (Zp t) R:=⟨_,rfl⟩
    obtain ⟨C,hC⟩:∃ C,C=Jm (Zp t) R.reverse:=⟨_,rfl⟩
    have e:Vx (Zp t) R=A.dropLast++C.dropLast:=by rw [hA,hC]; exact if_neg h3
    rw [←hA] at c1 p1 k1
    rw [←hC] at c2 p2 k2
    rw [e]
    have hs:∀ y∈(C.map Zq).take (C.length-1),y.length=5:=fun y hy=>Qch C y (List.mem_of_mem_take hy)
    have hs2:∀ y∈(A.map Zq).take (A.length-1),y.length=5:=fun y hy=>Qch A y (List.mem_of_mem_take hy)
    refine en tt [.f (decide_eq_false (by omega)),.p 1,.c [] c1,.c [] c2,.r 36 (eI (b:=((A.length-1:Nat):Int)) (by simp; omega)),.r 39 (eI (b:=((A.length-1:Nat):Int)) (by simp; omega)),.i (A.length-1),.r 44 (eI (b:=((C.length-1:Nat):Int)) (by simp; omega)),.i (C.length-1),.s (sz:=5) hs] rfl (by simp [Qk,List.map_take,List.dropLast_eq_take]) ?_
    simp only [Qa,List.length_take,List.length_map]
    and_intros <;> first | exact hs2 | omega
end Orr

namespace Orr
open Go Go.Proofs Orq
set_option maxRecDepth 10000
theorem Cv {l:List Pt} {t:Tm} (hl:∀ p∈l,Sc p.c) (hn:l.length≤1000000) (ht:Va t):Xt Tryz.prog 75 [.agg (ta t),.one (pts l)] [] [.one (.orow 0 7 none)] [.row false 122 7 (Q4 (Yt (Zp t) l))]:=by
  have hcl:=Jf l
  show Xt Tryz.prog 75 [.agg (ta t),.one (.row (Qk l))] [] [.one (.orow 0 7 none)] [.row false 122 7 (Q4 (Yt (Zp t) l))]
  refine Jb Tryz.func75 rfl ?_
  refine go tt [.o 5 122 7] rfl trivial ?_
  refine lp (S:=Nat) 2 (fun L1 i=>(6,.v (.one (.int .i64 ((i+1:Nat):Int))))::(5,.v (.one (.orow 1 7 none)))::L1) (fun i=>[.blk 64 (ta t),.row false 122 7 (Q4 ((Yt (Zp t) l).take i))]) (fun i=>l.length-i) (fun i=>i≤l.length-1) 0 (Nat.zero_le _) rfl (fun _ _=>rfl) rfl fun i hi=>?_
  by_cases hlt:i+1<l.length
  · obtain ⟨a,ha⟩:∃ a,l[i]? = some a:=⟨_,List.getElem?_eq_getElem (by omega)⟩
    obtain ⟨b,hb⟩:∃ b,l[i+1]? = some b:=⟨_,List.getElem?_eq_getElem hlt⟩
    have hg:=Qaa (Zp t) ha hb
    have hm:∀ y∈[Pl (Tt (Zp t) a b)],y.length=7:=fun y hy=>by rw [List.mem_singleton.1 hy]; rfl
    refine go tt [.t (by simp [hcl]; omega),.r 19 (eI (b:=(i:Int)) (by simp)),.x (Je ha),.x (Je hb),.c [] (Qun (hl a (List.mem_of_getElem? ha)) (hl b (List.mem_of_getElem? hb)) ht),.s (sz:=7) hm,.r 14 (eI (b:=((i+1+1:Nat):Int)) (by simp))] rfl (by simp [Qa,Jf,Ug,Ub]; omega) ?_
    exact rd (i+1) (by omega) (by omega) (by rw [hg]; simp [Q4]; rfl)
  · have e:(Yt (Zp t) l).take i=Yt (Zp t) l:=List.take_of_length_le (by rw [Ub]; omega)
    rw [e]
    exact ed tt [] [1] [.f (by simp [hcl]; omega)] rfl trivial
theorem Cx {C:List Pt} {i:Nat} {a b:Pt} (ha:C[i]? = some a) (hb:C[(i+1) % C.length]? = some b):(Zl C)[i]? = some (a,b):=by
  have hi:=(List.getElem?_eq_some_iff.1 ha).1
  unfold Zl
  rw [List.getElem?_zip_eq_some]
  refine ⟨ha,?_⟩
  by_cases h:i+1<C.length
  · rw [Nat.mod_eq_of_lt h] at hb
    rw [List.getElem?_append_left (by rw [List.length_drop]; omega),List.getElem?_drop,Nat.add_comm]; exact hb
  · have e:i+1=C.length:=by omega
    rw [e,Nat.mod_self] at hb
    rw [List.getElem?_append_right (by rw [List.length_drop]; omega),List.length_drop,show i-(C.length-1)=0 by omega,List.getElem?_take_of_lt (by omega)]; exact hb
theorem Cy (C:List Pt):(Zl C).length=C.length:=by
  unfold Zl
  rw [List.length_zip,List.length_append,List.length_drop,List.length_take]; omega
theorem Td {α β:Type} {f:α→List β} {l:List α} {i:Nat} {x:α} (h:l[i]? = some x):(l.take (i+1)).flatMap f=(l.take i).flatMap f++f x:=by
  rw [List.take_succ,h]; simp
theorem Gn {α β:Type} {f:α→β} {p:α→Bool} {l:List α} {i:Nat} {x:α} (h:l[i]? = some x):((l.take (i+1)).filter p).map f=((l.take i).filter p).map f++if p x=true then [f x] else []:=by
  rw [List.take_succ,h,List.filter_append,List.map_append]
  congr 1
  simp only [Option.toList]
  by_cases hp:p x=true
  · rw [if_pos hp,List.filter_cons_of_pos hp]; rfl
  · rw [if_neg hp,List.filter_cons_of_neg hp]; rfl
theorem C3 {α β:Type} {f:α→List β} {n:Nat} (hf:∀ x,(f x).length≤n) (l:List α):(l.flatMap f).length≤l.length*n:=Pa f n l fun x _=>hf x
theorem Qmb {l:List Pt} (hl:∀ p∈l,Sc p.c):∀ p∈l,Qge 4294967294 1073741824 p:=fun p hp=>⟨(hl p hp).n,(hl p hp).c.mono (by decide) (by decide)⟩
set_option maxHeartbeats 4000000 in
theorem Qmk {l:List Pt} {a:Tm} {c:Cr} {r1:List (List LV)} (hl:∀ p∈l,Sc p.c) (hn:l.length≤10) (ha:Va a):Xt Tryz.prog 40 [.one (.ow 0 0),.agg (ta a)] [.blk 71 (Gq c (Qk l) r1)] [.one (.row (Q4 (bcH l a)))] [.blk 71 (Gq c (Qk l) (brH l a))]:=by
  have hwl:=Il l
  have cw:=Qo2 (l:=l) (Qmb hl) (by omega)
  have cr:=Qji (l:=Xv l) (fun p hp=>hl p (Yf hp)) (by omega) ha
  have cn:=Qjp (R:=X9 a (Xv l)) (fun p hp=>hl p (Yf (Zb.1 hp))) (by rw [Ys]; omega) ha
  have cr2:=Qji hl (by omega) ha
  have cc:=Cv (l:=X9 a l) (t:=a) (fun p hp=>hl p (Zb.1 hp)) (by rw [Ys]; omega) ha
  have hCm:∀ p∈Zt l a,p∈l:=fun p hp=>W3 hp
  have hCl:=Fq l a
  have e0:bcH l a=bcS l a++Jx (Zp a) l (Zt l a):=rfl
  rw [e0]
  show Xt Tryz.prog 40 _ _ _ [.blk 71 (Gq c (Qk l) (Qk (Zt l a)))]
  have cn:Qf Tryz.prog 71 [.agg (ta a),.one (pts (X9 a (Xv l)))] [.one (pts (Zt l a))]:=cn
  have cc:Xt Tryz.prog 75 [.agg (ta a),.one (pts (X9 a l))] [] [.one (.orow 0 7 none)] [.row false 122 7 (Q4 (bcS l a))]:=cc
  have hbl:(bcS l a).length≤10:=by unfold bcS; rw [Ub,Ys]; omega
  obtain ⟨C,hC⟩:∃ C,C=Zt l a:=⟨_,rfl⟩
  obtain ⟨cs0,hc0⟩:∃ cs0,cs0=bcS l a:=⟨_,rfl⟩
  rw [←hC] at cn hCm hCl ⊢
  rw [←hc0] at cc hbl ⊢
  have hcp:=Jf C
  have hlp:=Jf l
  have eel:∀ x,(Jn (Zp a) l x).length≤l.length:=fun x=>by unfold Jn; rw [List.length_map]; exact List.length_filter_le _ _
  refine Jb Tryz.func40 rfl ?_
  refine go tt [.c [] cw,.c [] cr,.c [] cn,.c [] Qax,.c [] cr2,.c [2] cc] rfl trivial ?_
  by_cases h2:C.length<2
  · have e:Jx (Zp a) l C=[]:=if_pos h2
    rw [e,List.append_nil]
    exact ed tt [2] [0] [.t (decide_eq_true (by simp; omega))] rfl trivial
  have e:Jx (Zp a) l C=(Zl C).flatMap (Jn (Zp a) l):=if_neg h2
  rw [e]
  refine go tt [.f (decide_eq_false (by simp; omega))] rfl trivial ?_
  refine sb [(48,.v (.one (.int .i64 0))),(47,.v (.one (.int .i64 ((C.map Zq).length:Int)))),(46,.v (.one (pts C))),(6,.v (.one (.orow 2 7 none))),(3,.v (.one (.ow 1 0))),(0,.v (.one (.ow 0 0)))] [.blk 71 (Gq c (Qk l) (Qk C)),.blk 64 (ta a),.row false 122 7 (Q4 cs0)] rfl rfl ?_
  rw [show Q4 cs0=Q4 (cs0++((Zl C).take 0).flatMap (Jn (Zp a) l)) by simp]
  refine lp (S:=Nat) 3 (fun L1 i=>(48,.v (.one (.int .i64 (i:Int))))::(6,.v (.one (.orow 2 7 none)))::L1) (fun i=>[.blk 71 (Gq c (Qk l) (Qk C)),.blk 64 (ta a),.row false 122 7 (Q4 (cs0++((Zl C).take i).flatMap (Jn (Zp a) l)))]) (fun i=>C.length-i) (fun i=>i≤C.length) 0 (Nat.zero_le _) rfl (fun _ _=>rfl) rfl fun i hi=>?_
  by_cases hlt:i<C.length
  · obtain ⟨x,hx⟩:∃ x,C[i]? = some x:=⟨_,List.getElem?_eq_getElem hlt⟩
    obtain ⟨y,hy⟩:∃ y,C[(i+1) % C.length]? = some y:=⟨_,List.getElem?_eq_getElem (Nat.mod_lt _ (by omega))⟩
    have he:=Cx hx hy
    have sx:=hl x (hCm x (List.mem_of_getElem? hx))
    have sy:=hl y (hCm y (List.mem_of_getElem? hy))
    have hflat:=Td (f:=Jn (Zp a) l) he
    obtain ⟨F,hF⟩:∃ F,F=cs0++((Zl C).take i).flatMap (Jn (Zp a) l):=⟨_,rfl⟩
    have hFl:F.length≤10+20*10:=by
      have h1:=C3 eel ((Zl C).take i)
      have h2:((Zl C).take i).length*l.length≤20*10:=Nat.mul_le_mul (by rw [List.length_take]; omega) hn
      rw [hF,List.length_append]; omega
    have hmod:(((i+1:Nat):Int)).tmod ((C.map Zq).length:Int)=(((i+1) % C.length:Nat):Int):=by rw [List.length_map]; exact (Int.ofNat_tmod _ _).symm
    have hm0:=Int.emod_nonneg ((i+1:Nat):Int) (show (C.length:Int)≠0 by omega)
    have hm1:=Int.emod_lt_of_pos ((i+1:Nat):Int) (show (0:Int)<C.length by omega)
    have hnext:cs0++((Zl C).take (i+1)).flatMap (Jn (Zp a) l)=F++(l.filter (V6 (x,y))).map fun c=>Ya (Zp a) x y c:=by rw [hflat,←List.append_assoc,←hF]; rfl
    rw [←hF]
    refine go tt [.t (decide_eq_true (by simp; omega)),.x (Je hx),.r 58 (eI (b:=((i+1:Nat):Int)) (by simp)),.r 64 (eI (b:=(((i+1) % C.length:Nat):Int)) hmod),.x (Je hy),.c [] Qax] rfl (by simp only [Qa]; omega) ?_
    rw [show Q4 F=Q4 (F++((l.take 0).filter (V6 (x,y))).map fun c=>Ya (Zp a) x y c) by simp]
    refine lp (S:=Nat) 5 (fun L1 k=>(73,.v (.one (.int .i64 (k:Int))))::(6,.v (.one (.orow 2 7 none)))::L1) (fun k=>[.blk 71 (Gq c (Qk l) (Qk C)),.blk 64 (ta a),.row false 122 7 (Q4 (F++((l.take k).filter (V6 (x,y))).map fun c=>Ya (Zp a) x y c)),.blk 33 (Zq x),.blk 33 (Zq y)]) (fun k=>l.length-k) (fun k=>k≤l.length) 0 (Nat.zero_le _) rfl (fun _ _=>rfl) rfl fun k hk=>?_
    by_cases hlk:k<l.length
    · obtain ⟨z,hz⟩:∃ z,l[k]? = some z:=⟨_,List.getElem?_eq_getElem hlk⟩
      have sz:=hl z (List.mem_of_getElem? hz)
      have hflt:=Gn (f:=fun c=>Ya (Zp a) x y c) (p:=V6 (x,y)) hz
      obtain ⟨G,hG⟩:∃ G,G=((l.take k).filter (V6 (x,y))).map fun c=>Ya (Zp a) x y c:=⟨_,rfl⟩
      have hGl:G.length≤10:=by
        have h1:=List.length_filter_le (V6 (x,y)) (l.take k)
        rw [List.length_take] at h1
        rw [hG,List.length_map]; omega
      rw [←hG] at hflt ⊢
      by_cases h1:z.id=x.id
      · rw [if_neg (show ¬V6 (x,y) z=true by simp [V6,h1]),List.append_nil] at hflt
        refine go tt [.t (decide_eq_true (by simp; omega)),.x (Je hz),.g 82 false (decide_eq_false (by simp [h1])),.f rfl] rfl (by simp [Qa]; omega) ?_
        exact rd (k+1) (by omega) hlk (by rw [hflt]; rfl)
      · by_cases h2:z.id=y.id
        · rw [if_neg (show ¬V6 (x,y) z=true by simp [V6,h2]),List.append_nil] at hflt
          refine go tt [.t (decide_eq_true (by simp; omega)),.x (Je hz),.g 82 true (decide_eq_true h1),.f (decide_eq_false (by simp [h2]))] rfl (by simp [Qa]; omega) ?_
          exact rd (k+1) (by omega) hlk (by rw [hflt]; rfl)
        · rw [if_pos (show V6 (x,y) z=true by simp [V6,h1,h2])] at hflt
          have hm:∀ q∈[Pl (Ya (Zp a) x y z)],q.length=7:=fun q hq=>by rw [List.mem_singleton.1 hq]; rfl
          refine go tt [.t (decide_eq_true (by simp; omega)),.x (Je hz),.g 82 true (decide_eq_true h1),.t (decide_eq_true h2),.c [] (Qjf sx sy sz ha),.s (sz:=7) hm] rfl (by simp [Qa,Ug]; omega) ?_
          have e3:Q4 (F++(G++[Ya (Zp a) x y z]))=Q4 (F++G)++[Pl (Ya (Zp a) x y z)]:=by simp [Q4]
          exact rd (k+1) (by omega) hlk (by rw [hflt,e3]; rfl)
    · obtain rfl:k=l.length:=by omega
      rw [List.take_length,←hnext]
      refine go tt [.f (decide_eq_false (by simp))] rfl (by simp [Qa]; omega) ?_
      exact rd (i+1) (by omega) hlt rfl
  · obtain rfl:i=C.length:=by omega
    rw [List.take_of_length_le (by rw [Cy]; exact Nat.le_refl _)]
    exact ed tt [2] [0] [.f (decide_eq_false (by simp))] rfl trivial
set_option maxHeartbeats 4000000 in
theorem Qmj {l:List Pt} {a:Tm} (hl:∀ p∈l,Sc p.c) (hn:l.length≤10) (ha:Va a):Xt Tryz.prog 40 [.one (.ow 0 0),.agg (ta a)] [.blk 71 (crz (.row (Qk l)) .nils)] [.one (.row (Q4 (bcH l a)))] [.blk 71 (crz (.row (Qk l)) (.row (brH l a)))]:=by
  have hwl:=Il l
  have cw:=Qo2 (l:=l) (Qmb hl) (by omega)
  have cr:=Qji (l:=Xv l) (fun p hp=>hl p (Yf hp)) (by omega) ha
  have cn:=Qjp (R:=X9 a (Xv l)) (fun p hp=>hl p (Yf (Zb.1 hp))) (by rw [Ys]; omega) ha
  have cr2:=Qji hl (by omega) ha
  have cc:=Cv (l:=X9 a l) (t:=a) (fun p hp=>hl p (Zb.1 hp)) (by rw [Ys]; omega) ha
  have hCm:∀ p∈Zt l a,p∈l:=fun p hp=>W3 hp
  have hCl:=Fq l a
  have e0:bcH l a=bcS l a++Jx (Zp a) l (Zt l a):=rfl
  rw [e0]
  show Xt Tryz.prog 40 _ _ _ [.blk 71 (crz (.row (Qk l)) (.row (Qk (Zt l a))))]
  have cn:Qf Tryz.prog 71 [.agg (ta a),.one (pts (X9 a (Xv l)))] [.one (pts (Zt l a))]:=cn
  have cc:Xt Tryz.prog 75 [.agg (ta a),.one (pts (X9 a l))] [] [.one (.orow 0 7 none)] [.row false 122 7 (Q4 (bcS l a))]:=cc
  have hbl:(bcS l a).length≤10:=by unfold bcS; rw [Ub,Ys]; omega
  obtain ⟨C,hC⟩:∃ C,C=Zt l a:=⟨_,rfl⟩
  obtain ⟨cs0,hc0⟩:∃ cs0,cs0=bcS l a:=⟨_,rfl⟩
  rw [←hC] at cn hCm hCl ⊢
  rw [←hc0] at cc hbl ⊢
  have hcp:=Jf C
  have hlp:=Jf l
  have eel:∀ x,(Jn (Zp a) l x).length≤l.length:=fun x=>by unfold Jn; rw [List.length_map]; exact List.length_filter_le _ _
  refine Jb Tryz.func40 rfl ?_
  refine go tt [.c [] cw,.c [] cr,.c [] cn,.c [] Qax,.c [] cr2,.c [2] cc] rfl trivial ?_
  by_cases h2:C.length<2
  · have e:Jx (Zp a) l C=[]:=if_pos h2
    rw [e,List.append_nil]
    exact ed tt [2] [0] [.t (decide_eq_true (by simp; omega))] rfl trivial
  have e:Jx (Zp a) l C=(Zl C).flatMap (Jn (Zp a) l):=if_neg h2
  rw [e]
  refine go tt [.f (decide_eq_false (by simp; omega))] rfl trivial ?_
  refine sb [(48,.v (.one (.int .i64 0))),(47,.v (.one (.int .i64 ((C.map Zq).length:Int)))),(46,.v (.one (pts C))),(6,.v (.one (.orow 2 7 none))),(3,.v (.one (.ow 1 0))),(0,.v (.one (.ow 0 0)))] [.blk 71 (crz (.row (Qk l)) (.row (Qk C))),.blk 64 (ta a),.row false 122 7 (Q4 cs0)] rfl rfl ?_
  rw [show Q4 cs0=Q4 (cs0++((Zl C).take 0).flatMap (Jn (Zp a) l)) by simp]
  refine lp (S:=Nat) 3 (fun L1 i=>(48,.v (.one (.int .i64 (i:Int))))::(6,.v (.one (.orow 2 7 none)))::L1) (fun i=>[.blk 71 (crz (.row (Qk l)) (.row (Qk C))),.blk 64 (ta a),.row false 122 7 (Q4 (cs0++((Zl C).take i).flatMap (Jn (Zp a) l)))]) (fun i=>C.length-i) (fun i=>i≤C.length) 0 (Nat.zero_le _) rfl (fun _ _=>rfl) rfl fun i hi=>?_
  by_cases hlt:i<C.length
  · obtain ⟨x,hx⟩:∃ x,C[i]? = some x:=⟨_,List.getElem?_eq_getElem hlt⟩
    obtain ⟨y,hy⟩:∃ y,C[(i+1) % C.length]? = some y:=⟨_,List.getElem?_eq_getElem (Nat.mod_lt _ (by omega))⟩
    have he:=Cx hx hy
    have sx:=hl x (hCm x (List.mem_of_getElem? hx))
    have sy:=hl y (hCm y (List.mem_of_getElem? hy))
    have hflat:=Td (f:=Jn (Zp a) l) he
    obtain ⟨F,hF⟩:∃ F,F=cs0++((Zl C).take i).flatMap (Jn (Zp a) l):=⟨_,rfl⟩
    have hFl:F.length≤10+20*10:=by
      have h1:=C3 eel ((Zl C).take i)
      have h2:((Zl C).take i).length*l.length≤20*10:=Nat.mul_le_mul (by rw [List.length_take]; omega) hn
      rw [hF,List.length_append]; omega
    have hmod:(((i+1:Nat):Int)).tmod ((C.map Zq).length:Int)=(((i+1) % C.length:Nat):Int):=by rw [List.length_map]; exact (Int.ofNat_tmod _ _).symm
    have hm0:=Int.emod_nonneg ((i+1:Nat):Int) (show (C.length:Int)≠0 by omega)
    have hm1:=Int.emod_lt_of_pos ((i+1:Nat):Int) (show (0:Int)<C.length by omega)
    have hnext:cs0++((Zl C).take (i+1)).flatMap (Jn (Zp a) l)=F++(l.filter (V6 (x,y))).map fun c=>Ya (Zp a) x y c:=by rw [hflat,←List.append_assoc,←hF]; rfl
    rw [←hF]
    refine go tt [.t (decide_eq_true (by simp; omega)),.x (Je hx),.r 58 (eI (b:=((i+1:Nat):Int)) (by simp)),.r 64 (eI (b:=(((i+1) % C.length:Nat):Int)) hmod),.x (Je hy),.c [] Qax] rfl (by simp only [Qa]; omega) ?_
    rw [show Q4 F=Q4 (F++((l.take 0).filter (V6 (x,y))).map fun c=>Ya (Zp a) x y c) by simp]
    refine lp (S:=Nat) 5 (fun L1 k=>(73,.v (.one (.int .i64 (k:Int))))::(6,.v (.one (.orow 2 7 none)))::L1) (fun k=>[.blk 71 (crz (.row (Qk l)) (.row (Qk C))),.blk 64 (ta a),.row false 122 7 (Q4 (F++((l.take k).filter (V6 (x,y))).map fun c=>Ya (Zp a) x y c)),.blk 33 (Zq x),.blk 33 (Zq y)]) (fun k=>l.length-k) (fun k=>k≤l.length) 0 (Nat.zero_le _) rfl (fun _ _=>rfl) rfl fun k hk=>?_
    by_cases hlk:k<l.length
    · obtain ⟨z,hz⟩:∃ z,l[k]? = some z:=⟨_,List.getElem?_eq_getElem hlk⟩
      have sz:=hl z (List.mem_of_getElem? hz)
      have hflt:=Gn (f:=fun c=>Ya (Zp a) x y c) (p:=V6 (x,y)) hz
      obtain ⟨G,hG⟩:∃ G,G=((l.take k).filter (V6 (x,y))).map fun c=>Ya (Zp a) x y c:=⟨_,rfl⟩
      have hGl:G.length≤10:=by
        have h1:=List.length_filter_le (V6 (x,y)) (l.take k)
        rw [List.length_take] at h1
        rw [hG,List.length_map]; omega
      rw [←hG] at hflt ⊢
      by_cases h1:z.id=x.id
      · rw [if_neg (show ¬V6 (x,y) z=true by simp [V6,h1]),List.append_nil] at hflt
        refine go tt [.t (decide_eq_true (by simp; omega)),.x (Je hz),.g 82 false (decide_eq_false (by simp [h1])),.f rfl] rfl (by simp [Qa]; omega) ?_
        exact rd (k+1) (by omega) hlk (by rw [hflt]; rfl)
      · by_cases h2:z.id=y.id
        · rw [if_neg (show ¬V6 (x,y) z=true by simp [V6,h2]),List.append_nil] at hflt
          refine go tt [.t (decide_eq_true (by simp; omega)),.x (Je hz),.g 82 true (decide_eq_true h1),.f (decide_eq_false (by simp [h2]))] rfl (by simp [Qa]; omega) ?_
          exact rd (k+1) (by omega) hlk (by rw [hflt]; rfl)
        · rw [if_pos (show V6 (x,y) z=true by simp [V6,h1,h2])] at hflt
          have hm:∀ q∈[Pl (Ya (Zp a) x y z)],q.length=7:=fun q hq=>by rw [List.mem_singleton.1 hq]; rfl
          refine go tt [.t (decide_eq_true (by simp; omega)),.x (Je hz),.g 82 true (decide_eq_true h1),.t (decide_eq_true h2),.c [] (Qjf sx sy sz ha),.s (sz:=7) hm] rfl (by simp [Qa,Ug]; omega) ?_
          have e3:Q4 (F++(G++[Ya (Zp a) x y z]))=Q4 (F++G)++[Pl (Ya (Zp a) x y z)]:=by simp [Q4]
          exact rd (k+1) (by omega) hlk (by rw [hflt,e3]; rfl)
    · obtain rfl:k=l.length:=by omega
      rw [List.take_length,←hnext]
      refine go tt [.f (decide_eq_false (by simp))] rfl (by simp [Qa]; omega) ?_
      exact rd (i+1) (by omega) hlt rfl
  · obtain rfl:i=C.length:=by omega
    rw [List.take_of_length_le (by rw [Cy]; exact Nat.le_refl _)]
    exact ed tt [2] [0] [.f (decide_eq_false (by simp))] rfl trivial
end Orr

namespace Orq
open Orr Go
structure Quiet {β:Type} (Bc:Tm→List Ct) (Br:Tm→β) (a b:Tm):Prop where
  va:Va a
  vb:Va b
  le:¬K9 b a
  n:∀ x∈Bc a,∃ o,Wi x.p a o∧∀ u,o=some u→K9 b u
section
variable {β:Type} {Bc:Tm→List Ct} {Br:Tm→β} (S:Stab Bc Br)
include S
theorem Quiet.same {a b:Tm} (h:Quiet Bc Br a b):Bc b=Bc a∧Br b=Br a:=by
  refine S.st a b h.va h.vb fun x hx=>?_
  obtain ⟨o,o1,o2⟩:=h.n x hx
  exact Oo (S.ok.p _ h.va _ hx).dp h.va h.vb h.le o1 o2
end
theorem Qw3 {p:List Int} (h:Cp p):(tms p).length≤67:=by
  obtain ⟨l,l1,l2,_⟩:=Tg h
  unfold tms; rw [l1]; exact l2
theorem Ql3:∀ {Ps:List (List Int)},(∀ p∈Ps,Cp p)→(Ps.flatMap tms).length≤67*Ps.length
  | [],_=>Nat.zero_le _
  |
   p::Ps,h=>by
   have h1:=Qw3 (h p (by simp))
   have h2:=Ql3 (Ps:=Ps) fun q hq=>h q (List.mem_cons_of_mem _ hq)
   rw [List.flatMap_cons,List.length_append,List.length_cons]; omega
theorem Q2n (T:List Tm) (a:Tm):mu T a≤T.length:=List.length_filter_le _ _
theorem Qyu {β:Type} {Bc:Tm→List Ct} {Br:Tm→β} (S:Stab Bc Br) {Ps:List (List Int)} (hP:∀ p∈Ps,Cp p) (hPs:∀ a,Va a→∀ x∈Bc a,x.p∈Ps) (hl:Ps.length≤1000000) {t:Rat} (ht:Qs 400000 t) {c:Cr} {r:β} (hS:KSt Bc Br c r) (h:Qu c.now t≤0) :
    ∃ (K:Nat) (c':Cr) (E:List Tm),K≤67000001∧goF Bc Br t K c r 0=some (c',Br (tq t),((E.length:Nat):Int))∧c'.now=tq t∧KSt Bc Br c' (Br (tq t))∧c'.ev=c.ev+((E.length:Nat):Int)∧E.length≤67000000∧Evs Bc t c.now E:=by
  have hm:=Ql3 hP
  have hmu:=Q2n (Ps.flatMap tms) c.now
  have hv:=hS.inv.ok.n
  obtain ⟨c',r',E,g1,g2,g3,g4,g5,g6⟩:=Q2c S ht hP hPs (mu (Ps.flatMap tms) c.now) c r 0 (Nat.le_refl _) hS fun h'=>by
    have:=(Eo hv.cut).2 h'; omega
  have hr:r'=Br (tq t):=by rw [g3.r,g2]
  rw [hr] at g1 g3
  rw [Int.zero_add] at g1
  exact ⟨_,c',E,by omega,g1,g2,g3,g4,by omega,g6⟩
theorem Qy1 {β:Type} {Bc:Tm→List Ct} {Br:Tm→β} (S:Stab Bc Br) {a:Tm} (ha:Va a):KSt Bc Br ⟨a,(Z4 (Bc a)).map fresh,0⟩ (Br a):=by
  refine ⟨⟨⟨ha,fun w hw=>?_,?_⟩,fun w hw hk=>?_⟩,?_,rfl⟩
  · obtain ⟨x,hx,rfl⟩:=List.mem_map.1 hw
    exact ⟨S.ok.p _ ha x (Cg hx),fun t ht=>by cases ht⟩
  · show ((Z4 (Bc a)).map fresh).length≤1000
    rw [List.length_map,Gl]; exact S.ok.n _ ha
  · obtain ⟨x,hx,rfl⟩:=List.mem_map.1 hw
    cases hk
  · show ((Z4 (Bc a)).map fresh).map (·.c)=Z4 (Bc a)
    rw [List.map_map]
    show (Z4 (Bc a)).map (fun x=>x)=_
    rw [List.map_id']
end Orq
