/- KGoL SortQ HullG RawL NewsL BegL TurnL PairN DetL H1 HullQ HullS H2 H3 HullT SplitL H4 TouL TouQ RiseL AscL HLineL S2 -/
import Derived.Test.YtbnjginelkkonaaGreatPart07
import Derived.Test.YtbnjginelkkonaaGreatPart05
import Derived.Test.YtbnjginelkkonaaGreatPart04
set_option linter.all false
namespace Orq
open Orr Go
theorem Q2v {a b c:Tm} (hb:Cut (Qu b)) (hc:Cut (Qu c)) (h:K8 a b) (h':K8 b c):K8 a c:=by
  obtain ⟨q,q1,q2⟩:=h
  obtain ⟨r,r1,r2⟩:=h'
  exact ⟨q,q1,hc.mono' (hb.lt q2 r1) (by omega)⟩
theorem Qhr {a b:Tm} (ha:Cut (Qu a)) (hb:Cut (Qu b)) (h:¬K8 b a):Leq a (Qu b):=fun q hq=>by
  rcases ha.val q with e | e | e
  · exact absurd ⟨q,hq,e⟩ h
  · obtain ⟨r,r1,r2⟩:=hb.dn q hq
    exact absurd ⟨r,r2,ha.mono' r1 (by omega)⟩ h
  · exact e
theorem Qk1 {a b c:Tm} (_:Cut (Qu a)) (hb:Cut (Qu b)) (hc:Cut (Qu c)) (h:K8 a b) (h':¬K8 c b):K8 a c:=by
  obtain ⟨q,q1,q2⟩:=h
  refine ⟨q,q1,?_⟩
  have hl:=Qhr hb hc h'
  rcases hc.val q with e | e | e
  · exact e
  · obtain ⟨r,r1,r2⟩:=hb.up q q2
    have h1:=hc.mono q r r1 (by omega)
    have:=hl r h1
    omega
  · have:=hl q e; omega
theorem Q0i {a b:Tm} (ha:Cut (Qu a)) (hb:Cut (Qu b)) (h:K8 a b):¬K8 b a:=fun h'=>Bv ha hb h h'
theorem Qe4 {p:List Int} {a b:Tm} {o:Option Tm} (ha:Cut (Qu a)) (hb:Cut (Qu b)) (hab:¬K8 b a) (h:Wh p a o) (ho:∀ t,o=some t→K8 b t):Wh p b o:=by
  have hl:=Qhr ha hb hab
  cases o with
  |
   none =>
   rcases h with h | ⟨s,s0,h⟩
   · exact .inl h
   · exact .inr ⟨s,s0,fun c hc hbc=>h c hc fun q hq=>hl q (hbc q hq)⟩
  |
   some t =>
   obtain ⟨h1,h2,_,s,s0,h4,h5⟩:=h
   exact ⟨h1,h2,ho t rfl,s,s0,fun c hc hbc hm=>h4 c hc (fun q hq=>hl q (hbc q hq)) hm,h5⟩
theorem Ow {p:List Int} {a b:Tm} {o:Option Tm} (hp:Dp p) (ha:Va a) (hb:Va b) (hab:¬K8 b a) (h:Wh p a o) (ho:∀ t,o=some t→K8 b t):X5 (Zn b) p=X5 (Zn a) p:=by
  by_cases h0:p.length=0
  · obtain rfl:=List.eq_nil_of_length_eq_zero h0; rfl
  obtain ⟨ra,_⟩:=Ha ha hp h0
  obtain ⟨rb,_⟩:=Ha hb hp h0
  have hl:=Qhr ha.cut hb.cut hab
  cases o with
  |
   none =>
   rcases h with h | ⟨s,s0,h⟩
   · exact absurd (by rw [h]; rfl) h0
   · exact (Ql4 rb (h _ hb.cut hl)).trans (Ql4 ra (h _ ha.cut fun _ h=>h)).symm
  |
   some t =>
   obtain ⟨h1,h2,h3,s,s0,h4,h5⟩:=h
   exact (Ql4 rb (h4 _ hb.cut hl (ho t rfl))).trans (Ql4 ra (h4 _ ha.cut (fun _ h=>h) h3)).symm
theorem Qmd (t q:Rat):Qu (tq t) q=Zm t q:=U0 (t:=tq t) rfl q
theorem El {a:Tm} {t:Rat} (ha:Cut (Qu a)):0<Qu a t↔K8 (tq t) a:=by
  constructor
  · intro h
    have h1:Qu a t=1:=by rcases ha.val t with e | e | e <;> omega
    obtain ⟨r,r1,r2⟩:=ha.up t h1
    exact ⟨r,by rw [Qmd]; rcases Vi t r with ⟨e,e'⟩ | ⟨e,e'⟩ | ⟨e,e'⟩ <;> first | exact e | (exfalso; grind),r2⟩
  · rintro ⟨q,q1,q2⟩
    rw [Qmd] at q1
    have:t<q:=by rcases Vi t q with ⟨e,e'⟩ | ⟨e,e'⟩ | ⟨e,e'⟩ <;> first | exact e' | omega
    have:=ha.mono' this (by omega)
    omega
open Classical in
noncomputable def mu (T:List Tm) (a:Tm):Nat:=(T.filter fun t=>decide (K8 a t)).length
theorem Oi {α:Type} {p q:α→Bool} (h:∀ x,p x=true→q x=true):∀ l:List α,(l.filter p).length≤(l.filter q).length
  | []=>Nat.le_refl _
  |
   x::l=>by
   have ih:=Oi h l
   by_cases hp:p x=true
   · rw [List.filter_cons_of_pos hp,List.filter_cons_of_pos (h x hp)]; simp; exact ih
   · rw [List.filter_cons_of_neg hp]
     by_cases hq:q x=true
     · rw [List.filter_cons_of_pos hq]; simp; omega
     · rw [List.filter_cons_of_neg hq]; exact ih
theorem Oj {α:Type} {p q:α→Bool} (h:∀ x,p x=true→q x=true) {y:α} (hp:p y=false) (hq:q y=true):∀ {l:List α},y∈l→(l.filter p).length<(l.filter q).length
  | [],hy=>by cases hy
  |
   x::l,hy=>by
   rcases List.mem_cons.1 hy with rfl | hy
   · rw [List.filter_cons_of_neg (by simp [hp]),List.filter_cons_of_pos hq]
     have:=Oi h l
     simp; omega
   · have ih:=Oj h hp hq hy
     by_cases hp:p x=true
     · rw [List.filter_cons_of_pos hp,List.filter_cons_of_pos (h x hp)]; simp; exact ih
     · rw [List.filter_cons_of_neg hp]
       by_cases hq:q x=true
       · rw [List.filter_cons_of_pos hq]; simp; omega
       · rw [List.filter_cons_of_neg hq]; exact ih
open Classical in
theorem Qyp {T:List Tm} {a b:Tm} (ha:Cut (Qu a)) (hb:Cut (Qu b)) (hT:∀ t∈T,Cut (Qu t)) (h:K8 a b) (hm:b∈T):mu T b<mu T a:=by
  have key:∀ l:List Tm,(∀ t∈l,Cut (Qu t))→l.filter (fun t=>decide (K8 b t))=l.filter (fun t=>decide (Cut (Qu t)∧K8 b t)):=fun l hl=>List.filter_congr fun x hx=>by simp [hl x hx]
  have key2:∀ l:List Tm,(∀ t∈l,Cut (Qu t))→l.filter (fun t=>decide (K8 a t))=l.filter (fun t=>decide (Cut (Qu t)∧K8 a t)):=fun l hl=>List.filter_congr fun x hx=>by simp [hl x hx]
  unfold mu
  rw [key T hT,key2 T hT]
  refine Oj (fun x hx=>?_) (y:=b) ?_ ?_ hm
  · have hx:=of_decide_eq_true hx
    exact decide_eq_true ⟨hx.1,Q2v hb hx.1 h hx.2⟩
  · exact decide_eq_false fun hx=>Bv hb hb hx.2 hx.2
  · exact decide_eq_true ⟨hb,h⟩
def tms (p:List Int):List Tm:=(Py p).getD []
structure KInv (c:Cr):Prop where
  ok:CrOk c
  k:∀ w∈c.l,w.known=true→Wh w.c.p c.now w.fails∧∀ t,w.fails=some t→t∈tms w.c.p
theorem Qhz {p:List Int} (h:Cp p) {a:Tm} (ha:Va a):∃ r,C5 p a=some r∧Wh p a r∧∀ t,r=some t→t∈tms p:=by
  obtain ⟨l,l1,_,_,l3⟩:=Tl h
  obtain ⟨r,r1,r2,r3⟩:=l3 a ha
  refine ⟨r,?_,r2,fun t ht=>by unfold tms; rw [l1]; exact r3 t ht⟩
  unfold C5; rw [l1]; exact r1
theorem Q1i {p:List Int} (h:Cp p):∀ t∈tms p,Va t:=by
  obtain ⟨l,l1,_,l2,_⟩:=Tl h
  unfold tms; rw [l1]; exact l2
theorem Qk5 {now:Tm} (hn:Va now):∀ {l:List Wt},(∀ w∈l,WtOk w)→(∀ w∈l,w.known=true→Wh w.c.p now w.fails∧∀ t,w.fails=some t→t∈tms w.c.p) →
    ∃ ws,Rs now l=some ws∧ws.map (·.c)=l.map (·.c)∧∀ w∈ws,w.known=true∧Wh w.c.p now w.fails∧∀ t,w.fails=some t→t∈tms w.c.p
  | [],_,_=>⟨[],rfl,rfl,fun w hw=>by cases hw⟩
  |
   w::l,h,h'=>by
   obtain ⟨ws,w1,w2,w3⟩:=Qk5 hn (fun v hv=>h v (List.mem_cons_of_mem _ hv)) (fun v hv=>h' v (List.mem_cons_of_mem _ hv))
   by_cases hk:w.known=true
   · refine ⟨w::ws,by simp only [Rs,hk,if_true,w1]; rfl,by simp [w2],fun v hv=>?_⟩
     rcases List.mem_cons.1 hv with rfl | hv
     · exact ⟨hk,h' v (by simp) hk⟩
     · exact w3 v hv
   · obtain ⟨r,r1,r2,r3⟩:=Qhz (h w (by simp)).p hn
     refine ⟨⟨w.c,true,r⟩::ws,by simp only [Rs]; rw [if_neg hk,r1,w1]; rfl,by simp [w2],fun v hv=>?_⟩
     rcases List.mem_cons.1 hv with rfl | hv
     · exact ⟨rfl,r2,r3⟩
     · exact w3 v hv
theorem Qkx {at_:Tm} (ha:Va at_) {x:Ct}:∀ {l:List Wt},(∀ w∈l,WtOk w)→∃ w,Um l x at_=some w∧w.c=x
  | [],_=>⟨fresh x,rfl,rfl⟩
  |
   v::l,h=>by
   obtain ⟨w,w1,w2⟩:=Qkx ha (x:=x) fun v hv=>h v (List.mem_cons_of_mem _ hv)
   simp only [Um]
   split
   · cases hf:v.fails with
     | none=>exact ⟨_,rfl,rfl⟩
     |
      some t =>
      obtain ⟨c,c1,_⟩:=Dx ((h v (by simp)).f t hf) ha
      dsimp only
      rw [c1]
      show ∃ w,(if 0<c then some ⟨x,true,some t⟩ else Um l x at_)=some w∧w.c=x
      split
      · exact ⟨_,rfl,rfl⟩
      · exact ⟨w,w1,w2⟩
   · exact ⟨w,w1,w2⟩
theorem Qrk {at_:Tm} (ha:Va at_) {ol:List Wt} (ho:∀ w∈ol,WtOk w):∀ l:List Ct,∃ ws,Mm ol at_ l=some ws∧ws.map (·.c)=l
  | []=>⟨[],rfl,rfl⟩
  |
   x::l=>by
   obtain ⟨w,w1,w2⟩:=Qkx ha (x:=x) ho
   obtain ⟨ws,s1,s2⟩:=Qrk ha ho l
   exact ⟨w::ws,by simp only [Mm,w1,s1]; rfl,by simp [w2,s2]⟩
theorem Qnc {out:List Ct} {c x:Ct}:x∈Pg out c↔x=c∨x∈out:=by
  have h:x∈out↔x∈out.take (R7 out c out.length)∨x∈out.drop (R7 out c out.length):=by
    rw [←List.mem_append,List.take_append_drop]
  simp only [Pg,List.mem_append,List.mem_cons,h]
  constructor
  · rintro (h | h | h)
    · exact .inr (.inl h)
    · exact .inl h
    · exact .inr (.inr h)
  · rintro (h | h | h)
    · exact .inr (.inl h)
    · exact .inl h
    · exact .inr (.inr h)
theorem On:∀ (l acc:List Ct) {y:Ct},y∈l.foldl Pg acc↔y∈l∨y∈acc
  | [],acc,y=>by simp
  |
   c::l,acc,y=>by
   simp only [List.foldl_cons]
   rw [On l,Qnc,List.mem_cons]
   constructor
   · rintro (h | h | h)
     · exact .inl (.inr h)
     · exact .inl (.inl h)
     · exact .inr h
   · rintro ((h | h) | h)
     · exact .inr (.inl h)
     · exact .inl h
     · exact .inr (.inr h)
theorem Qal {l:List Ct} {x:Ct}:x∈Z3 l↔x∈l:=by unfold Z3; rw [On]; simp
theorem Q0n {ws:List Wt} (hw:∀ w∈ws,WtOk w):∃ o,Qe3 ws=some o∧match o with
    | none=>∀ w∈ws,w.fails=none
    | some a=>Va a∧(∃ w∈ws,w.fails=some a)∧∀ w∈ws,∀ t,w.fails=some t→¬K8 t a:=by
  have hv:∀ t∈ws.filterMap (·.fails),Va t:=fun t ht=>by
    obtain ⟨w,w1,w2⟩:=List.mem_filterMap.1 ht
    exact (hw w w1).f t w2
  unfold Qe3
  cases hf:ws.filterMap (·.fails) with
  |
   nil =>
   refine ⟨none,rfl,fun w h=>?_⟩
   cases e:w.fails with
   | none=>rfl
   |
    some t =>
    have:t∈ws.filterMap (·.fails):=List.mem_filterMap.2 ⟨w,h,e⟩
    rw [hf] at this; cases this
  |
   cons b l =>
   rw [hf] at hv
   obtain ⟨m,m1,m2,m3⟩:=Bs l b hv
   refine ⟨some m,by show (He b l).map some=_; rw [m1]; rfl,hv m m2,?_,fun w h t e=>?_⟩
   · rw [←hf] at m2
     exact List.mem_filterMap.1 m2
   · exact m3 t (by rw [←hf]; exact List.mem_filterMap.2 ⟨w,h,e⟩)
theorem Qzn {t a:Tm} (ht:Va t) (ha:Va a) {c:Int} (h:Ek t a=some c) (h0:0<c):K8 a t:=by
  obtain ⟨c',c1,c2⟩:=Dx ht ha
  rw [h] at c1; injection c1 with c1; subst c1
  rcases c2 with ⟨e,_⟩ | ⟨e,_⟩ | ⟨_,e⟩
  · omega
  · omega
  · exact e
theorem Qv3 {ol ws:List Wt} {now a:Tm} {l:List Ct} (hn:Va now) (ha:Va a) (hna:¬K8 a now) (ho:∀ w∈ol,WtOk w) (hk:∀ w∈ol,w.known=true→Wh w.c.p now w.fails∧∀ t,w.fails=some t→t∈tms w.c.p) (h:Mm ol a l=some ws) :
    ∀ w∈ws,w.known=true→Wh w.c.p a w.fails∧∀ t,w.fails=some t→t∈tms w.c.p:=by
  obtain ⟨h1,h2⟩:=Mn h
  intro w hw hkn
  obtain ⟨i,hi⟩:=List.getElem?_of_mem hw
  have hil:i<l.length:=by rw [←h1]; exact (List.getElem?_eq_some_iff.1 hi).1
  obtain ⟨v,h3,h4⟩:=h2 i _ (List.getElem?_eq_getElem hil)
  rw [hi] at h4; injection h4 with h4; subst h4
  rcases Ak h3 with e | ⟨v,v1,v2,v3,e,v5⟩
  · rw [e] at hkn; cases hkn
  · obtain ⟨k1,k2⟩:=hk v v1 v2
    rw [e]
    show Wh (l[i]).p a v.fails∧∀ t,v.fails=some t→t∈tms (l[i]).p
    rw [←v3]
    refine ⟨Qe4 hn.cut ha.cut hna k1 fun t ht=>?_,k2⟩
    obtain ⟨c,c1,c2⟩:=v5 t ht
    exact Qzn ((ho v v1).f t ht) ha c1 c2
structure Stab {β:Type} (Bc:Tm→List Ct) (Br:Tm→β):Prop where
  ok:BuildOk Bc
  fin:∃ Ps:List (List Int),(∀ p∈Ps,Cp p)∧∀ a,Va a→∀ x∈Bc a,x.p∈Ps
  st:∀ a b,Va a→Va b→(∀ x∈Bc a,X5 (Zn b) x.p=X5 (Zn a) x.p)→Bc b=Bc a∧Br b=Br a
structure KSt {β:Type} (Bc:Tm→List Ct) (Br:Tm→β) (c:Cr) (r1:β):Prop where
  inv:KInv c
  cs:c.l.map (·.c)=Z3 (Bc c.now)
  r:r1=Br c.now
inductive Evs (Bc:Tm→List Ct) (t:Rat):Tm→List Tm→Prop
  | nil {a:Tm} (h:∀ x∈Bc a,∃ o,Wh x.p a o∧∀ u,o=some u→K8 (tq t) u):Evs Bc t a []
  | cons {a e:Tm} {E:List Tm} (he:Va e) (h1:K8 a e) (h2:¬K8 (tq t) e) (h3:∀ x∈Bc a,∃ o,Wh x.p a o∧∀ u,o=some u→¬K8 u e) (h4:∃ x∈Bc a,Wh x.p a (some e)) (h5:Evs Bc t e E):Evs Bc t a (e::E)
theorem Q2m {β:Type} {Bc:Tm→List Ct} {Br:Tm→β} (S:Stab Bc Br) {t:Rat} (ht:Qs 400000 t) {Ps:List (List Int)} (hP:∀ p∈Ps,Cp p) (hPs:∀ a,Va a→∀ x∈Bc a,x.p∈Ps) :
    ∀ (m:Nat) (c:Cr) (r1:β) (n:Int),mu (Ps.flatMap tms) c.now≤m→KSt Bc Br c r1→¬K8 (tq t) c.now →
    ∃ c' r' E,goF Bc Br t (m+1) c r1 n=some (c',r',n+(E.length:Nat))∧c'.now=tq t∧KSt Bc Br c' r'∧c'.ev=c.ev+(E.length:Nat)∧E.length≤m∧Evs Bc t c.now E:=by
  have hT:∀ t∈Ps.flatMap tms,Cut (Qu t):=fun u hu=>by
    obtain ⟨p,p1,p2⟩:=List.mem_flatMap.1 hu
    exact (Q1i (hP p p1) u p2).cut
  have hq:=Qxj ht
  intro m
  induction m with
  | zero=>?_
  | succ m ih=>?_
  all_goals
    intro c r1 n hm hS hnow
    obtain ⟨⟨ok,kk⟩,hcs,hr⟩:=hS
    obtain ⟨ws,w1,w2,w3⟩:=Qk5 ok.n ok.l kk
    have ok':=D8 ok w1
    rw [hcs] at w2
    have hc_w:∀ x∈Bc c.now,∃ w∈ws,w.c=x:=fun x hx=>by
      have:x∈ws.map (·.c):=by rw [w2]; exact Qal.2 hx
      exact List.mem_map.1 this
    have hw_c:∀ w∈ws,w.c∈Bc c.now:=fun w hw=>Qal.1 (by rw [←w2]; exact List.mem_map_of_mem hw)
    obtain ⟨o,o1,o2⟩:=Q0n ok'.l
    -- the end
    have fin:(∀ w∈ws,∀ u,w.fails=some u→K8 (tq t) u)→KSt Bc Br ⟨tq t,ws,c.ev⟩ r1∧Evs Bc t c.now []:=fun hall=>by
      have hg:∀ x∈Bc c.now,X5 (Zn (tq t)) x.p=X5 (Zn c.now) x.p:=fun x hx=>by
        obtain ⟨w,hw,rfl⟩:=hc_w x hx
        exact Ow (S.ok.p _ ok.n _ hx).dp ok.n hq hnow (w3 w hw).2.1 (hall w hw)
      obtain ⟨s1,s2⟩:=S.st _ _ ok.n hq hg
      refine ⟨⟨⟨⟨hq,ok'.l,ok'.k⟩,fun w hw _=>⟨Qe4 ok.n.cut hq.cut hnow (w3 w hw).2.1 (hall w hw),(w3 w hw).2.2⟩⟩,?_,?_⟩,.nil fun x hx=>?_⟩
      · show ws.map (·.c)=Z3 (Bc (tq t)); rw [w2,s1]
      · show r1=Br (tq t); rw [s2,hr]
      · obtain ⟨w,hw,rfl⟩:=hc_w x hx
        exact ⟨_,(w3 w hw).2.1,hall w hw⟩
  · cases o with
    |
     none =>
     obtain ⟨f1,f2⟩:=fin fun w hw u hu=>by rw [o2 w hw] at hu; cases hu
     exact ⟨_,_,[],by simp only [goF]; rw [w1]; simp only [Option.bind_some]; rw [o1]; simp,rfl,f1,by simp,by simp,f2⟩
    |
     some a =>
     obtain ⟨va,⟨w,hw,hwa⟩,hmin⟩:=o2
     by_cases h0:0<Qu a t
     · obtain ⟨f1,f2⟩:=fin fun v hv u hu=>by
         have hu':=(ok'.l v hv).f u hu
         exact Qk1 hq.cut va.cut hu'.cut ((El va.cut).1 h0) (hmin v hv u hu)
       exact ⟨_,_,[],by simp only [goF]; rw [w1]; simp only [Option.bind_some]; rw [o1]; simp [h0],rfl,f1,by simp,by simp,f2⟩
     · exfalso
       obtain ⟨k1,k2,k3⟩:=w3 w hw
       rw [hwa] at k2
       have:a∈Ps.flatMap tms:=List.mem_flatMap.2 ⟨_,hPs _ ok.n _ (hw_c w hw),k3 a hwa⟩
       have:=Qyp ok.n.cut va.cut hT k2.2.2.1 this
       omega
  · cases o with
    |
     none =>
     obtain ⟨f1,f2⟩:=fin fun w hw u hu=>by rw [o2 w hw] at hu; cases hu
     exact ⟨_,_,[],by simp only [goF]; rw [w1]; simp only [Option.bind_some]; rw [o1]; simp,rfl,f1,by simp,by simp,f2⟩
    |
     some a =>
     obtain ⟨va,⟨w,hw,hwa⟩,hmin⟩:=o2
     by_cases h0:0<Qu a t
     · obtain ⟨f1,f2⟩:=fin fun v hv u hu=>by
         have hu':=(ok'.l v hv).f u hu
         exact Qk1 hq.cut va.cut hu'.cut ((El va.cut).1 h0) (hmin v hv u hu)
       exact ⟨_,_,[],by simp only [goF]; rw [w1]; simp only [Option.bind_some]; rw [o1]; simp [h0],rfl,f1,by simp,by simp,f2⟩
     · obtain ⟨k1,k2,k3⟩:=w3 w hw
       rw [hwa] at k2
       have hna:=Q0i ok.n.cut va.cut k2.2.2.1
       have hmem:a∈Ps.flatMap tms:=List.mem_flatMap.2 ⟨_,hPs _ ok.n _ (hw_c w hw),k3 a hwa⟩
       have hlt:=Qyp ok.n.cut va.cut hT k2.2.2.1 hmem
       obtain ⟨w2',l1,l2⟩:=Qrk va ok'.l (Z3 (Bc a))
       have hl:=Qv3 ok.n va hna ok'.l (fun v hv _=>(w3 v hv).2) l1
       have hS':KSt Bc Br ⟨a,w2',c.ev+1⟩ (Br a):=⟨⟨Orr.lay_ok _ ok' va (S.ok.p a va) (S.ok.n a va) l1,hl⟩,l2,rfl⟩
       obtain ⟨c',r',E,g1,g2,g3,g4,g5,g6⟩:=ih ⟨a,w2',c.ev+1⟩ (Br a) (n+1) (by show mu _ a≤m; omega) hS' (fun h=>h0 ((El va.cut).2 h))
       refine ⟨c',r',a::E,?_,g2,g3,by rw [g4]; simp; omega,by simp; omega,.cons va k2.2.2.1 (fun h=>h0 ((El va.cut).2 h)) (fun x hx=>?_) ⟨w.c,hw_c w hw,k2⟩ g6⟩
       · conv=>lhs; unfold goF
         rw [w1]; simp only [Option.bind_some]; rw [o1]; simp only [Option.bind_some]; rw [if_neg h0,l1]; simp only [Option.bind_some]
         rw [g1]; simp; omega
       · obtain ⟨v,hv,rfl⟩:=hc_w x hx
         exact ⟨_,(w3 v hv).2.1,hmin v hv⟩
end Orq

namespace Orq
open Orr Go
theorem Aa {a:Tm} (ha:Va a):∀ (L:List (List Int)),(∀ p∈L,Dp p)→∃ y,Qu a y=-1∧∀ q,Qu a q=-1→q≤y→∀ p∈L,X5 (Zn a) p=Qk (Qf p q)
  |
   [],_=>by
   obtain ⟨y,hy⟩:=ha.cut.hi
   exact ⟨y,hy,fun q _ _ p hp=>by cases hp⟩
  |
   p::L,h=>by
   obtain ⟨y,y1,y2⟩:=Aa ha L (fun q hq=>h q (List.mem_cons_of_mem _ hq))
   by_cases h0:p.length=0
   · obtain rfl:=List.eq_nil_of_length_eq_zero h0
     refine ⟨y,y1,fun q q1 q2 r hr=>?_⟩
     rcases List.mem_cons.1 hr with rfl | hr
     · rw [E9]; exact (Q0.2 rfl).symm
     · exact y2 q q1 q2 r hr
   · obtain ⟨⟨z,z1,z2⟩,_⟩:=Ha ha (h p (by simp)) h0
     refine ⟨if y≤z then y else z,by split <;> assumption,fun q q1 q2 r hr=>?_⟩
     rcases List.mem_cons.1 hr with rfl | hr
     · rw [←Qh]; exact (z2 q q1 (by grind)).symm
     · exact y2 q q1 (by grind) r hr
section Srt
variable {α:Type} {lt:α→α→Bool} {R:α→α→Prop}
theorem Qac (irr:∀ x,¬R x x) (tr:∀ x y z,R x y→R y z→R x z):∀ {l m:List α},l.Pairwise R→m.Pairwise R→(∀ x,x∈l↔x∈m)→l=m
  | [],[],_,_,_=>rfl
  | [],y::m,_,_,h=>by have:=(h y).2 (by simp); cases this
  | x::l,[],_,_,h=>by have:=(h x).1 (by simp); cases this
  |
   x::l,y::m,hl,hm,h=>by
   rw [List.pairwise_cons] at hl hm
   have e:x=y:=by
     rcases List.mem_cons.1 ((h x).1 (by simp)) with e | h1
     · exact e
     · rcases List.mem_cons.1 ((h y).2 (by simp)) with e | h2
       · exact e.symm
       · exact absurd (tr _ _ _ (hl.1 y h2) (hm.1 x h1)) (irr x)
   subst e
   rw [Qac irr tr hl.2 hm.2 fun z=>?_]
   constructor
   · intro hz
     rcases List.mem_cons.1 ((h z).1 (List.mem_cons_of_mem _ hz)) with e | h1
     · subst e; exact absurd (hl.1 z hz) (irr z)
     · exact h1
   · intro hz
     rcases List.mem_cons.1 ((h z).2 (List.mem_cons_of_mem _ hz)) with e | h1
     · subst e; exact absurd (hm.1 z hz) (irr z)
     · exact h1
theorem O9 {out:List α} {x:α}:∀ k,k≤out.length→(∀ j y,Wc lt out x k≤j→j<k→out[j]? = some y→lt x y=true)∧(0<Wc lt out x k→∃ y,out[Wc lt out x k-1]? = some y∧lt x y=false)
  | 0,_=>⟨fun j y _ h=>by omega,fun h=>by simp [Wc] at h⟩
  |
   k+1,hk=>by
   obtain ⟨y,hy⟩:∃ y,out[k]? = some y:=⟨_,List.getElem?_eq_getElem (by omega)⟩
   by_cases h:lt x y=true
   · rw [Qls hy h]
     obtain ⟨h1,h2⟩:=O9 (out:=out) (x:=x) k (by omega)
     refine ⟨fun j z a1 a2 a3=>?_,h2⟩
     by_cases e:j=k
     · subst e; rw [hy] at a3; injection a3 with a3; subst a3; exact h
     · exact h1 j z a1 (by omega) a3
   · have h:lt x y=false:=by simpa using h
     rw [Qfk hy h]
     exact ⟨fun j z a1 a2 _=>by omega,fun _=>⟨y,by simpa using hy,h⟩⟩
theorem Qvz (tr:∀ x y z,R x y→R y z→R x z) {out:List α} {x:α} (ho:out.Pairwise R) (h1:∀ y∈out,lt x y=true→R x y) (h2:∀ y∈out,lt x y=false→R y x):(K9 lt out x).Pairwise R:=by
  obtain ⟨s1,s2⟩:=O9 (lt:=lt) (out:=out) (x:=x) out.length (Nat.le_refl _)
  have hle:=Qch lt out x out.length
  unfold K9
  obtain ⟨k,hk⟩:∃ k,k=Wc lt out x out.length:=⟨_,rfl⟩
  rw [←hk] at s1 s2 hle ⊢
  have hd:(out.take k++out.drop k).Pairwise R:=by rw [List.take_append_drop]; exact ho
  obtain ⟨d1,d2,d3⟩:=List.pairwise_append.1 hd
  have hR:∀ y∈out.drop k,R x y:=fun y hy=>by
    obtain ⟨i,hi⟩:=List.getElem?_of_mem hy
    rw [List.getElem?_drop] at hi
    have:k+i<out.length:=(List.getElem?_eq_some_iff.1 hi).1
    exact h1 y (List.mem_of_mem_drop hy) (s1 (k+i) y (by omega) this hi)
  have hL:∀ y∈out.take k,R y x:=fun y hy=>by
    obtain ⟨i,hi⟩:=List.getElem?_of_mem hy
    have hik:i<k:=by have:=(List.getElem?_eq_some_iff.1 hi).1; simp at this; omega
    rw [List.getElem?_take_of_lt hik] at hi
    obtain ⟨z,z1,z2⟩:=s2 (by omega)
    have hz:=h2 z (List.mem_of_getElem? z1) z2
    by_cases e:i=k-1
    · subst e; rw [hi] at z1; injection z1 with z1; subst z1; exact hz
    · have hp:=List.pairwise_iff_getElem.1 ho i (k-1) (by omega) (by omega) (by omega)
      obtain ⟨_,e1⟩:=List.getElem?_eq_some_iff.1 hi
      obtain ⟨_,e2⟩:=List.getElem?_eq_some_iff.1 z1
      rw [e1,e2] at hp
      exact tr _ _ _ hp hz
  refine List.pairwise_append.2 ⟨d1,List.pairwise_cons.2 ⟨hR,d2⟩,fun y hy z hz=>?_⟩
  rcases List.mem_cons.1 hz with rfl | hz
  · exact hL y hy
  · exact d3 y hy z hz
theorem E6 (tr:∀ x y z,R x y→R y z→R x z) {S:α→Prop} (h1:∀ x y,S x→S y→lt x y=true→R x y) {D:α→α→Prop} (h2:∀ x y,S x→S y→D y x→lt x y=false→R y x) :
    ∀ (l acc:List α),acc.Pairwise R→(∀ x∈acc,S x)→(∀ x∈l,S x)→l.Pairwise D→(∀ x∈acc,∀ y∈l,D x y)→(l.foldl (K9 lt) acc).Pairwise R
  | [],acc,ha,_,_,_,_=>ha
  |
   x::l,acc,ha,hs,hl,hd,hx=>by
   rw [List.pairwise_cons] at hd
   refine E6 tr h1 h2 l (K9 lt acc x) ?_ ?_ (fun y hy=>hl y (List.mem_cons_of_mem _ hy)) hd.2 ?_
   · exact Qvz tr ha (fun y hy=>h1 x y (hl x (by simp)) (hs y hy)) (fun y hy=>h2 x y (hl x (by simp)) (hs y hy) (hx y hy x (by simp)))
   · intro y hy
     rcases Mk.1 hy with rfl | hy
     · exact hl _ (by simp)
     · exact hs y hy
   · intro y hy z hz
     rcases Mk.1 hy with rfl | hy
     · exact hd.1 z hz
     · exact hx y hy z (List.mem_cons_of_mem _ hz)
theorem Qfs:∀ {l:List α},l.Pairwise R→∀ {u v:α},u∈l→v∈l→u≠v→R u v∨R v u
  | [],_,_,_,h,_,_=>by cases h
  |
   x::l,hp,u,v,hu,hv,hne=>by
   rw [List.pairwise_cons] at hp
   rcases List.mem_cons.1 hu with e | hu
   · rcases List.mem_cons.1 hv with e' | hv
     · exact absurd (e.trans e'.symm) hne
     · rw [e]; exact .inl (hp.1 v hv)
   · rcases List.mem_cons.1 hv with e' | hv
     · rw [e']; exact .inr (hp.1 u hu)
     · exact Qfs hp.2 hu hv hne
end Srt
theorem Qbt {s:List Int} {b:Int} (hb:0<b) (hs:∀ z∈s,0≤z∧z<b) (i:Nat):0≤s.getD i 0∧s.getD i 0<b:=by
  rw [List.getD_eq_getElem?_getD]
  cases h:s[i]? with
  | none=>simp; exact hb
  | some z=>simpa using hs z (List.mem_of_getElem? h)
theorem Q5g:(1:Rat)⁻¹=1:=by
  have:=Rat.mul_inv_cancel (1:Rat) (by decide)
  grind
def px (p:Pt) (q:Rat):Rat:=Qf p.c.x q / (p.c.d:Rat)
def py (p:Pt) (q:Rat):Rat:=Qf p.c.y q / (p.c.d:Rat)
def V4 (q:Rat) (x y:Pt):Prop:=px x q<px y q∨px x q=px y q∧(py x q<py y q∨py x q=py y q∧x.id<y.id)
theorem Rq (q:Rat) (x:Pt):¬V4 q x x:=by unfold V4; grind
theorem Tw (q:Rat) (x y z:Pt) (h:V4 q x y) (h':V4 q y z):V4 q x z:=by unfold V4 at *; grind
theorem Qer {q:Rat} {x y:Pt} (h:x.id≠y.id) (h':¬V4 q x y):V4 q y x:=by unfold V4 at *; grind
theorem Qai {u v:Rat} {c d:Int} (hc:0<c) (hd:0<d):Qk (v*(c:Rat)-u*(d:Rat))=Qk (v / (d:Rat)-u / (c:Rat)):=by
  have hc':(0:Rat)<(c:Rat):=by exact_mod_cast hc
  have hd':(0:Rat)<(d:Rat):=by exact_mod_cast hd
  have e:v*(c:Rat)-u*(d:Rat)=((c:Rat)*(d:Rat))*(v / (d:Rat)-u / (c:Rat)):=by
    rw [Rat.div_def,Rat.div_def]
    have h1:=Rat.mul_inv_cancel (c:Rat) (by grind)
    have h2:=Rat.mul_inv_cancel (d:Rat) (by grind)
    grind
  rw [e,Wy (Rat.mul_pos hc' hd')]
theorem Qaj {x y:Pt} (hx:Sc x.c) (hy:Sc y.c) (q:Rat):Qk (Qf (Jd x.c y.c) q)=Qk (px y q-px x q):=by
  unfold Jd px; rw [Vp,Xl,Xl]; exact Qai hx.n.2.2.1 hy.n.2.2.1
theorem Qah {x y:Pt} (hx:Sc x.c) (hy:Sc y.c) (q:Rat):Qk (Qf (Jg x.c y.c) q)=Qk (py y q-py x q):=by
  unfold Jg py; rw [Vp,Xl,Xl]; exact Qai hx.n.2.2.1 hy.n.2.2.1
theorem Lx {a:Tm} (ha:Va a) {x y:Pt} (hx:Sc x.c) (hy:Sc y.c) {q:Rat} (h1:X5 (Zn a) (Jd x.c y.c)=Qk (Qf (Jd x.c y.c) q)) (h2:X5 (Zn a) (Jg x.c y.c)=Qk (Qf (Jg x.c y.c) q)):Xu (Zn a) x y=true↔V4 q x y:=by
  rw [Qaj hx hy] at h1
  rw [Qah hx hy] at h2
  have d1:=(H9 hx hy).dp
  have d2:=(H8 hx hy).dp
  unfold Xu
  simp only [Hk]
  have t1:=Qz (px y q-px x q)
  have t2:=Qz (py y q-py x q)
  by_cases e1:(Jd x.c y.c).length=0
  · rw [if_neg (by omega)]
    rw [List.eq_nil_of_length_eq_zero e1,E9] at h1
    have:px x q=px y q:=by grind
    by_cases e2:(Jg x.c y.c).length=0
    · rw [if_neg (by omega)]
      rw [List.eq_nil_of_length_eq_zero e2,E9] at h2
      unfold V4
      simp only [decide_eq_true_eq]
      grind
    · rw [if_pos (by omega)]
      have:=(Ha ha d2 e2).2
      unfold V4
      simp only [decide_eq_true_eq]
      grind
  · rw [if_pos (by omega)]
    have:=(Ha ha d1 e1).2
    unfold V4
    simp only [decide_eq_true_eq]
    grind
def Nn (l:List Pt):List (List Int):=l.flatMap fun x=>l.flatMap fun y=>[Jd x.c y.c,Jg x.c y.c]
theorem Kt {l:List Pt} {x y:Pt} (hx:x∈l) (hy:y∈l):Jd x.c y.c∈Nn l∧Jg x.c y.c∈Nn l :=
  ⟨List.mem_flatMap.2 ⟨x,hx,List.mem_flatMap.2 ⟨y,hy,by simp⟩⟩,List.mem_flatMap.2 ⟨x,hx,List.mem_flatMap.2 ⟨y,hy,by simp⟩⟩⟩
theorem Qja {l:List Pt} (hl:∀ p∈l,Sc p.c):∀ p∈Nn l,Cp p:=fun p hp=>by
  obtain ⟨x,hx,hp⟩:=List.mem_flatMap.1 hp
  obtain ⟨y,hy,hp⟩:=List.mem_flatMap.1 hp
  simp at hp
  rcases hp with rfl | rfl
  · exact H9 (hl x hx) (hl y hy)
  · exact H8 (hl x hx) (hl y hy)
theorem Ql2 {l:List Pt} (hl:∀ p∈l,Sc p.c) (hd:l.Pairwise fun x y=>x.id≠y.id) {a:Tm} (ha:Va a):∃ y,Qu a y=-1∧∀ q,Qu a q=-1→q≤y→(∀ u∈l,∀ v∈l,(Xu (Zn a) u v=true↔V4 q u v))∧(Jm a l).Pairwise (V4 q):=by
  obtain ⟨y,y1,y2⟩:=Aa ha (Nn l) fun p hp=>(Qja hl p hp).dp
  refine ⟨y,y1,fun q q1 q2=>?_⟩
  have h:=y2 q q1 q2
  have hb:∀ u∈l,∀ v∈l,(Xu (Zn a) u v=true↔V4 q u v):=fun u hu v hv=>Lx ha (hl u hu) (hl v hv) (h _ (Kt hu hv).1) (h _ (Kt hu hv).2)
  refine ⟨hb,?_⟩
  exact E6 (S:=fun x=>x∈l) (D:=fun x y=>x.id≠y.id) (Tw q) (fun u v hu hv h=>(hb u hu v hv).1 h) (fun u v hu hv hne h=>Qer (fun e=>hne e.symm) fun h'=>by
    rw [(hb u hu v hv).2 h'] at h; cases h) l [] .nil (fun x hx=>by cases hx) (fun x hx=>hx) hd (fun x hx=>by cases hx)
theorem Qh2 {a b:Tm} {x y:Pt} (h:X5 (Zn b) (Fl x y)=X5 (Zn a) (Fl x y)):Xu (Zn b) x y=Xu (Zn a) x y:=by
  unfold Fl Rf at h
  unfold Xu
  simp only [Hk]
  by_cases e1:0<(Jd x.c y.c).length
  · rw [if_pos e1,if_pos e1]; rw [if_pos e1] at h; rw [h]
  · rw [if_neg e1,if_neg e1]; rw [if_neg e1] at h; rw [h]
theorem Eh {a b:Tm} {q r:Rat}:∀ (l:List Pt),(∀ u∈l,∀ v∈l,(Xu (Zn a) u v=true↔V4 q u v))→(∀ u∈l,∀ v∈l,(Xu (Zn b) u v=true↔V4 r u v))→l.Pairwise (V4 q)→(∀ x∈Ys (Zn a) l,X5 (Zn b) x.p=X5 (Zn a) x.p)→l.Pairwise (V4 r)∧Ys (Zn b) l=Ys (Zn a) l
  | [],_,_,_,_=>⟨.nil,rfl⟩
  | [x],_,_,_,_=>⟨List.pairwise_singleton _ _,rfl⟩
  |
   x::y::l,ha,hb,hp,hc=>by
   rw [List.pairwise_cons] at hp
   obtain ⟨i1,i2⟩:=Eh (a:=a) (b:=b) (q:=q) (r:=r) (y::l) (fun u hu v hv=>ha u (List.mem_cons_of_mem _ hu) v (List.mem_cons_of_mem _ hv)) (fun u hu v hv=>hb u (List.mem_cons_of_mem _ hu) v (List.mem_cons_of_mem _ hv)) hp.2 (fun z hz=>hc z (by simp only [Ys]; exact List.mem_cons_of_mem _ hz))
   have h0:X5 (Zn b) (Fl x y)=X5 (Zn a) (Fl x y):=hc (Tx (Zn a) x y) (by simp [Ys])
   have h1:V4 r x y:=(hb x (by simp) y (by simp)).1 (by rw [Qh2 h0]; exact (ha x (by simp) y (by simp)).2 (hp.1 y (by simp)))
   refine ⟨List.pairwise_cons.2 ⟨fun z hz=>?_,i1⟩,?_⟩
   · rcases List.mem_cons.1 hz with rfl | hz
     · exact h1
     · exact Tw r x y z h1 ((List.pairwise_cons.1 i1).1 z hz)
   · simp only [Ys]
     rw [i2]; congr 1
     unfold Tx; rw [h0]
theorem Qaf {sg:List Int→Int}:∀ {l:List Pt},∀ x∈Ys sg l,∃ u∈l,∃ v∈l,x.p=Fl u v
  | [],x,hx=>by cases hx
  | [_],x,hx=>by cases hx
  |
   a::b::l,x,hx=>by
   simp only [Ys] at hx
   rcases List.mem_cons.1 hx with rfl | hx
   · exact ⟨a,by simp,b,by simp,rfl⟩
   · obtain ⟨u,hu,v,hv,e⟩:=Qaf (l:=b::l) x hx
     exact ⟨u,List.mem_cons_of_mem _ hu,v,List.mem_cons_of_mem _ hv,e⟩
theorem Qno {l:List Pt} {u v:Pt} (hu:u∈l) (hv:v∈l):Fl u v∈Nn l:=by
  unfold Fl Rf; split
  · exact (Kt hu hv).1
  · exact (Kt hu hv).2
theorem Qum {l:List Pt} {a:Tm}:∀ x∈bcS l a,x.p∈Nn l:=fun x hx=>by
  obtain ⟨u,hu,v,hv,e⟩:=Qaf x hx
  rw [e]; exact Qno (Zh.1 hu) (Zh.1 hv)
theorem Qog (l:List Pt):(Nn l).length=l.length*(l.length*2):=by
  have h1:∀ (x:Pt) (m:List Pt),(m.flatMap fun y=>[Jd x.c y.c,Jg x.c y.c]).length=m.length*2:=fun x m=>by
    induction m with
    | nil=>rfl
    | cons y m ih=>rw [List.flatMap_cons,List.length_append,ih,List.length_cons]; simp; omega
  have h2:∀ m:List Pt,(m.flatMap fun x=>l.flatMap fun y=>[Jd x.c y.c,Jg x.c y.c]).length=m.length*(l.length*2):=fun m=>by
    induction m with
    | nil=>simp
    | cons y m ih=>rw [List.flatMap_cons,List.length_append,ih,List.length_cons,h1,Nat.add_mul,Nat.one_mul,Nat.add_comm]
  exact h2 l
theorem Qs2 {l:List Pt} (hl:∀ p∈l,Sc p.c) (hd:l.Pairwise fun x y=>x.id≠y.id) {a b:Tm} (ha:Va a) (hb:Va b) (h:∀ x∈bcS l a,X5 (Zn b) x.p=X5 (Zn a) x.p):Jm b l=Jm a l∧bcS l b=bcS l a:=by
  obtain ⟨q,q1,q2⟩:=Ql2 hl hd ha
  obtain ⟨r,r1,r2⟩:=Ql2 hl hd hb
  obtain ⟨a1,a2⟩:=q2 q q1 Rat.le_refl
  obtain ⟨b1,b2⟩:=r2 r r1 Rat.le_refl
  obtain ⟨c1,c2⟩:=Eh (a:=a) (b:=b) (Jm a l) (fun u hu v hv=>a1 u (Zh.1 hu) v (Zh.1 hv)) (fun u hu v hv=>b1 u (Zh.1 hu) v (Zh.1 hv)) a2 h
  have e:Jm b l=Jm a l:=Qac (Rq r) (Tw r) b2 c1 fun x=>by rw [Zh,Zh]
  exact ⟨e,by unfold bcS; rw [e,c2]⟩
end Orq

namespace Orq
theorem ang {ux uy vx vy wx wy:Rat} (hu:0<ux∨ux=0∧0<uy) (hv:0<vx∨vx=0∧0<vy) (hw:0<wx∨wx=0∧0<wy)
    (h1:0≤ux*vy-vx*uy) (h2:0≤vx*wy-wx*vy):0≤ux*wy-wx*uy∧(0<ux*vy-vx*uy∨0<vx*wy-wx*vy→0<ux*wy-wx*uy):=by
  have ux0:0≤ux:=by grind
  have wx0:0≤wx:=by grind
  rcases hv with hv | ⟨hv,hv2⟩
  · have e:vx*(ux*wy-wx*uy)=ux*(vx*wy-wx*vy)+wx*(ux*vy-vx*uy):=by grind
    have hux:0<ux:=by
      rcases hu with h | ⟨h,h'⟩
      · exact h
      · have:=Rat.mul_pos hv h'
        rw [h] at h1; grind
    have p1:=Rat.mul_nonneg ux0 h2
    have p2:=Rat.mul_nonneg wx0 h1
    have key:∀ z:Rat,vx*z=ux*(vx*wy-wx*vy)+wx*(ux*vy-vx*uy)→0≤z:=fun z hz=>by
      refine Rat.not_lt.1 fun hn=>?_
      have:=Rat.mul_pos hv (show 0 < -z by grind)
      grind
    refine ⟨key _ e,fun hs=>?_⟩
    rcases hw with hw | ⟨hw,hw2⟩
    · have hpos:0<vx*(ux*wy-wx*uy):=by
        rcases hs with hs | hs
        · have:=Rat.mul_pos hw hs; grind
        · have:=Rat.mul_pos hux hs; grind
      have h0:=key _ e
      refine Rat.not_le.1 fun hn=>?_
      have:ux*wy-wx*uy=0:=by grind
      rw [this] at hpos; grind
    · have:=Rat.mul_pos hux hw2
      rw [hw]; grind
  · rw [hv] at h1 h2
    have hw0:wx=0:=by
      rcases hw with hw | hw
      · have:=Rat.mul_pos hw hv2; grind
      · exact hw.1
    have hwy:0<wy:=by grind
    have p:=Rat.mul_nonneg ux0 (Rat.le_of_lt hwy)
    refine ⟨by rw [hw0]; grind,fun hs=>?_⟩
    rw [hv,hw0] at hs
    have hux:0<ux:=by
      rcases hs with hs | hs
      · refine Rat.not_le.1 fun hn=>?_
        have:ux=0:=by grind
        rw [this] at hs; grind
      · grind
    have:=Rat.mul_pos hux hwy
    rw [hw0]; grind
section
variable {α:Type} (X Y:α→Rat)
def lx (a b:α):Prop:=X a<X b∨X a=X b∧Y a<Y b
def Yq (a b c:α):Rat:=(X b-X a)*(Y c-Y a)-(X c-X a)*(Y b-Y a)
variable {X Y}
theorem Vl (a:α):¬lx X Y a a:=by unfold lx; grind
theorem Ar {a b c:α} (h:lx X Y a b) (h':lx X Y b c):lx X Y a c:=by unfold lx at *; grind
theorem Wa {a b:α} (h:lx X Y a b):0<X b-X a∨X b-X a=0∧0<Y b-Y a:=by unfold lx at h; grind
theorem Mw (a b:α):Yq X Y a b a=0∧Yq X Y a b b=0:=by unfold Yq; grind
theorem Qe9 (a b c:α):Yq X Y a c b=- Yq X Y a b c:=by unfold Yq; grind
theorem Qcb (a b c:α):Yq X Y a b c=(X b-X a)*(Y c-Y b)-(X c-X b)*(Y b-Y a):=by unfold Yq; grind
def Edg (Q:α→α→Prop):List α→Prop
  | a::b::r=>Q a b∧Edg Q (b::r)
  | _=>True
def Cnv (R:α→α→α→Prop):List α→Prop
  | a::b::c::r=>R a b c∧Cnv R (b::c::r)
  | _=>True
theorem Edg.tail {Q:α→α→Prop} {a:α} {l:List α} (h:Edg Q (a::l)):Edg Q l:=by
  cases l with
  | nil=>trivial
  | cons b l=>exact h.2
theorem Cnv.tail {R:α→α→α→Prop} {a:α} {l:List α} (h:Cnv R (a::l)):Cnv R l:=by
  match l,h with
  | [],_=>trivial
  | [_],_=>trivial
  | b::c::l,h=>exact h.2
theorem Edg.imp {Q Q':α→α→Prop}:∀ {l:List α},(∀ a∈l,∀ b∈l,Q a b→Q' a b)→Edg Q l→Edg Q' l
  | [],_,_=>trivial
  | [_],_,_=>trivial
  | a::b::l,hq,h=>⟨hq a (by simp) b (by simp) h.1,Edg.imp (l:=b::l) (fun x hx y hy=>hq x (List.mem_cons_of_mem _ hx) y (List.mem_cons_of_mem _ hy)) h.2⟩
theorem Cnv.imp {R R':α→α→α→Prop}:∀ {l:List α},(∀ a∈l,∀ b∈l,∀ c∈l,R a b c→R' a b c)→Cnv R l→Cnv R' l
  | [],_,_=>trivial
  | [_],_,_=>trivial
  | [_,_],_,_=>trivial
  | a::b::c::l,hq,h=>⟨hq a (by simp) b (by simp) c (by simp) h.1,Cnv.imp (l:=b::c::l) (fun x hx y hy z hz=>hq x (List.mem_cons_of_mem _ hx) y (List.mem_cons_of_mem _ hy) z (List.mem_cons_of_mem _ hz)) h.2⟩
def V6 (s:α→α→α→Bool) (c:α):List α→List α
  | b::a::r=>if s a b c=true then b::a::r else V6 s c (a::r)
  | l=>l
def Xv (s:α→α→α→Bool):List α→List α→List α
  | acc,[]=>acc
  | acc,c::l=>Xv s (c::V6 s c acc) l
structure Stk (X Y:α→Rat) (P:List α) (st:List α):Prop where
  srt:st.Pairwise fun b a=>lx X Y a b
  mem:∀ p∈st,p∈P
  edg:Edg (fun b a=>∀ p∈P,0≤Yq X Y a b p) st
  cnv:Cnv (fun c b a=>0<Yq X Y a b c) st
theorem Stk.tail {P:List α} {a:α} {st:List α} (h:Stk X Y P (a::st)):Stk X Y P st:=⟨(List.pairwise_cons.1 h.srt).2,fun p hp=>h.mem p (List.mem_cons_of_mem _ hp),h.edg.tail,h.cnv.tail⟩
theorem Qsf {P:List α} {s:α→α→α→Bool} {c:α} (hs:∀ a∈P,∀ b∈P,(s a b c=true↔0<Yq X Y a b c)) (hc:∀ p∈P,lx X Y p c) :
    ∀ (st:List α) (t:α),Stk X Y P (t::st)→(∀ p∈P,lx X Y t p→0≤Yq X Y t c p) →
    ∃ t' st',V6 s c (t::st)=t'::st'∧Stk X Y P (t'::st')∧(∀ p∈P,lx X Y t' p→0≤Yq X Y t' c p)∧(∀ a r,st'=a::r→0<Yq X Y a t' c)∧(t'::st').getLast? = (t::st).getLast?
  | [],t,h,h2=>⟨t,[],rfl,h,h2,fun a r e=>(by cases e),rfl⟩
  |
   a::r,t,h,h2=>by
   have ht:=h.mem t (by simp)
   have ha:=h.mem a (by simp)
   by_cases e:s a t c=true
   · refine ⟨t,a::r,by simp only [V6]; rw [if_pos e],h,h2,fun a' r' e'=>?_,rfl⟩
     injection e' with e1 _
     rw [←e1]; exact (hs a ha t ht).1 e
   · have hle:Yq X Y a t c≤0:=Rat.not_lt.1 fun h'=>e ((hs a ha t ht).2 h')
     have hat:lx X Y a t:=(List.pairwise_cons.1 h.srt).1 a (by simp)
     obtain ⟨t',st',g1,g2,g3,g4,g5⟩:=Qsf hs hc r a h.tail fun p hp hap=>by
       have e1:=h.edg.1 p hp
       have k:=ang (Wa (hc a ha)) (Wa hat) (Wa hap) (by rw [Qe9] at *; unfold Yq at *; grind) (by unfold Yq at *; grind)
       unfold Yq; grind
     exact ⟨t',st',by simp only [V6]; rw [if_neg e]; exact g1,g2,g3,g4,by rw [g5]; rfl⟩
theorem Oh {P:List α} {c:α}:∀ (st:List α) (t:α),Stk X Y P (t::st)→lx X Y t c→(∀ a r,st=a::r→0<Yq X Y a t c)→Edg (fun b a=>0<Yq X Y a b c) (t::st)
  | [],_,_,_,_=>trivial
  | [a],t,_,_,h=>⟨h a [] rfl,trivial⟩
  |
   a::q::r,t,hS,htc,h=>by
   have h1:=h a (q::r) rfl
   have h0:0<Yq X Y q a t:=hS.cnv.1
   have p1:=List.pairwise_cons.1 hS.srt
   have p2:=List.pairwise_cons.1 p1.2
   have hat:lx X Y a t:=p1.1 a (by simp)
   have hqa:lx X Y q a:=p2.1 q (by simp)
   refine ⟨h1,Oh (q::r) a hS.tail (Ar hat htc) fun a' r' e=>?_⟩
   injection e with e _
   rw [←e]
   rw [Qcb] at h0 h1 ⊢
   have k:=(ang (Wa hqa) (Wa hat) (Wa htc) (Rat.le_of_lt h0) (Rat.le_of_lt h1)).2 (.inl h0)
   grind
theorem Qwu {P:List α} {t:α} {st:List α} {c:α} (h:Stk X Y P (t::st)) (hc:∀ p∈P,lx X Y p c) (hP:∀ p∈P,p=t∨lx X Y p t∨lx X Y t p) (hb:∀ p∈P,(t::st).getLast? = some p∨∃ b,(t::st).getLast? = some b∧lx X Y b p) (h2:∀ p∈P,lx X Y t p→0≤Yq X Y t c p) (h3:∀ a r,st=a::r→0<Yq X Y a t c):Stk X Y (P++[c]) (c::t::st):=by
  have ht:=h.mem t (by simp)
  have htc:=hc t ht
  have hf:=Oh st t h htc h3
  refine ⟨List.pairwise_cons.2 ⟨fun p hp=>hc p (h.mem p hp),h.srt⟩,fun p hp=>?_,⟨fun p hp=>?_,?_⟩,?_⟩
  · rcases List.mem_cons.1 hp with rfl | hp
    · simp
    · exact List.mem_append_left _ (h.mem p hp)
  · rcases List.mem_append.1 hp with hp | hp
    · rcases hP p hp with rfl | hpt | htp
      · rw [(Mw p c).1]; exact Rat.le_refl
      · cases st with
        |
         nil =>
         exfalso
         rcases hb p hp with e | ⟨b,e,hb⟩
         · injection e with e; subst e; exact Vl _ hpt
         · injection e with e; subst e; exact Vl _ (Ar hpt hb)
        |
         cons a r =>
         have e1:=h.edg.1 p hp
         have h3:=h3 a r rfl
         have hat:lx X Y a t:=(List.pairwise_cons.1 h.srt).1 a (by simp)
         have k:=(ang (Wa hpt) (Wa hat) (Wa htc) (by unfold Yq at *; grind) (by unfold Yq at *; grind)).1
         unfold Yq; grind
      · exact h2 p hp htp
    · rw [List.mem_singleton.1 hp,(Mw t c).2]; exact Rat.le_refl
  · cases st with
    | nil=>trivial
    |
     cons a r =>
     have key:∀ l:List α,Edg (fun b a=>∀ p∈P,0≤Yq X Y a b p) l→Edg (fun b a=>0<Yq X Y a b c) l→Edg (fun b a=>∀ p∈P++[c],0≤Yq X Y a b p) l:=by
       intro l
       induction l with
       | nil=>intros; trivial
       |
        cons x l ih =>
        cases l with
        | nil=>intros; trivial
        |
         cons y l =>
         intro k1 k2
         refine ⟨fun p hp=>?_,ih k1.2 k2.2⟩
         rcases List.mem_append.1 hp with hp | hp
         · exact k1.1 p hp
         · rw [List.mem_singleton.1 hp]; exact Rat.le_of_lt k2.1
     exact key _ h.edg hf
  · cases st with
    | nil=>trivial
    | cons a r=>exact ⟨h3 a r rfl,h.cnv⟩
theorem I9 {s:α→α→α→Bool} {row:List α} (hs:∀ a∈row,∀ b∈row,∀ c∈row,(s a b c=true↔0<Yq X Y a b c)) (hrow:row.Pairwise (lx X Y)) :
    ∀ (l P:List α) (t:α) (st:List α),row=P++l→Stk X Y P (t::st)→P.getLast? = some t→(t::st).getLast? = P.head? →
    ∃ t' st',Xv s (t::st) l=t'::st'∧Stk X Y row (t'::st')∧row.getLast? = some t'∧(t'::st').getLast? = row.head?
  |
   [],P,t,st,e,h,h1,h2=>by
   rw [List.append_nil] at e; subst e
   exact ⟨t,st,rfl,h,h1,h2⟩
  |
   c::l,P,t,st,e,h,h1,h2=>by
   have hPm:∀ p∈P,p∈row:=fun p hp=>by rw [e]; exact List.mem_append_left _ hp
   have hcm:c∈row:=by rw [e]; simp
   have hpw:=hrow
   rw [e] at hpw
   obtain ⟨w1,w2,w3⟩:=List.pairwise_append.1 hpw
   have hc:∀ p∈P,lx X Y p c:=fun p hp=>w3 p hp c (by simp)
   have htop:∀ p∈P,p=t∨lx X Y p t:=fun p hp=>by
     obtain ⟨P1,rfl⟩:∃ P1,P=P1++[t]:=by
       have:=List.getLast?_eq_some_iff.1 h1
       exact this
     rcases List.mem_append.1 hp with hp | hp
     · exact .inr ((List.pairwise_append.1 w1).2.2 p hp t (by simp))
     · exact .inl (List.mem_singleton.1 hp)
   obtain ⟨t',st',g1,g2,g3,g4,g5⟩:=Qsf (fun a ha b hb=>hs a (hPm a ha) b (hPm b hb) c hcm) hc st t h fun p hp htp=>by
     rcases htop p hp with rfl | h'
     · exact absurd htp (Vl _)
     · exact absurd (Ar htp h') (Vl _)
   have tot:∀ p∈P,p=t'∨lx X Y p t'∨lx X Y t' p:=fun p hp=>by
     obtain ⟨i,hi,rfl⟩:=List.mem_iff_getElem.1 hp
     obtain ⟨j,hj,e2⟩:=List.mem_iff_getElem.1 (g2.mem t' (by simp))
     rcases Nat.lt_trichotomy i j with h' | h' | h'
     · exact .inr (.inl (by rw [←e2]; exact List.pairwise_iff_getElem.1 w1 i j hi hj h'))
     · subst h'; exact .inl e2
     · exact .inr (.inr (by rw [←e2]; exact List.pairwise_iff_getElem.1 w1 j i hj hi h'))
   have hPne:P≠[]:=fun h'=>by rw [h'] at h1; cases h1
   have hb:∀ p∈P,(t'::st').getLast? = some p∨∃ b,(t'::st').getLast? = some b∧lx X Y b p:=fun p hp=>by
     rw [g5,h2]
     cases P with
     | nil=>exact absurd rfl hPne
     |
      cons f P' =>
      rcases List.mem_cons.1 hp with rfl | hp
      · exact .inl rfl
      · exact .inr ⟨f,rfl,(List.pairwise_cons.1 w1).1 p hp⟩
   have hpush:=Qwu g2 hc tot hb g3 g4
   obtain ⟨t2,st2,k1,k2,k3,k4⟩:=I9 hs hrow l (P++[c]) c (t'::st') (by rw [e]; simp) hpush (by simp) (by
     rw [List.getLast?_cons_cons,g5,h2]
     cases P with
     | nil=>exact absurd rfl hPne
     | cons f P'=>rfl)
   exact ⟨t2,st2,by simp only [Xv]; rw [g1]; exact k1,k2,k3,k4⟩
theorem Qpy {P:List α} (tot:∀ p∈P,∀ q∈P,p=q∨lx X Y p q∨lx X Y q p) {z:α} :
    ∀ (L L':List α) (f:α),(f::L).Pairwise (lx X Y)→(f::L').Pairwise (lx X Y)→(∀ p∈f::L,p∈P)→(∀ p∈f::L',p∈P) →
    Edg (fun a b=>∀ p∈P,0≤Yq X Y a b p) (f::L)→Edg (fun a b=>∀ p∈P,0≤Yq X Y a b p) (f::L') →
    Cnv (fun a b c=>0<Yq X Y a b c) (f::L)→Cnv (fun a b c=>0<Yq X Y a b c) (f::L')→(f::L).getLast? = some z→(f::L').getLast? = some z→L=L':=by
  have one:∀ (L L':List α) (f b b':α),(f::b::L).Pairwise (lx X Y)→(f::b'::L').Pairwise (lx X Y)→(∀ p∈f::b::L,p∈P)→b'∈P →
      Edg (fun a b=>∀ p∈P,0≤Yq X Y a b p) (f::b::L)→0≤Yq X Y f b' b→Cnv (fun a b c=>0<Yq X Y a b c) (f::b::L)→(f::b::L).getLast? = some z→(f::b'::L').getLast? = some z→¬lx X Y b b':=by
    intro L L' f b b' s s' m m' e e' c l l' hlt
    have s1:=List.pairwise_cons.1 s
    have hfb:lx X Y f b:=s1.1 b (by simp)
    have hcol:Yq X Y f b b'=0:=by
      have:=e.1 b' m'
      rw [Qe9] at e'; grind
    cases L with
    |
     nil =>
     simp at l
     subst l
     have hz:b'=b∨lx X Y b' b:=by
       have:b∈f::b'::L':=List.mem_of_getLast? l'
       have s2:=(List.pairwise_cons.1 s').2
       rcases List.mem_cons.1 this with rfl | h
       · exact absurd hfb (Vl _)
       · rcases List.mem_cons.1 h with h | h
         · exact .inl h.symm
         · exact .inr ((List.pairwise_cons.1 s2).1 b h)
     rcases hz with rfl | hz
     · exact Vl _ hlt
     · exact Vl _ (Ar hlt hz)
    |
     cons d M =>
     have h1:0<Yq X Y f b d:=c.1
     have h2:=e.2.1 b' m'
     have s2:=List.pairwise_cons.1 s1.2
     have hbd:lx X Y b d:=s2.1 d (by simp)
     have k:=(ang (Wa hlt) (Wa hfb) (Wa hbd) (by unfold Yq at hcol; grind) (by rw [Qcb] at h1; exact Rat.le_of_lt h1)).2 (.inr (by rw [Qcb] at h1; exact h1))
     unfold Yq at h2; grind
  intro L
  induction L with
  |
   nil =>
   intro L' f s s' m m' e e' c c' l l'
   simp at l
   cases L' with
   | nil=>rfl
   |
    cons b' M' =>
    exfalso
    subst l
    have h1:=(List.pairwise_cons.1 s').1 f (by
      rw [List.getLast?_cons_cons] at l'
      exact List.mem_of_getLast? l')
    exact Vl _ h1
  |
   cons b M ih =>
   intro L' f s s' m m' e e' c c' l l'
   cases L' with
   |
    nil =>
    exfalso
    simp at l'
    subst l'
    have h1:=(List.pairwise_cons.1 s).1 f (by
      rw [List.getLast?_cons_cons] at l
      exact List.mem_of_getLast? l)
    exact Vl _ h1
   |
    cons b' M' =>
    have hb:=m b (by simp)
    have hb':=m' b' (by simp)
    have heq:b=b':=by
      rcases tot b hb b' hb' with h | h | h
      · exact h
      · exact absurd h (one M M' f b b' s s' m hb' e (e'.1 b hb) c l l')
      · exact absurd h (one M' M f b' b s' s m' hb e' (e.1 b' hb') c' l' l)
    subst heq
    rw [List.getLast?_cons_cons] at l l'
    rw [ih M' b (List.pairwise_cons.1 s).2 (List.pairwise_cons.1 s').2 (fun p hp=>m p (List.mem_cons_of_mem _ hp)) (fun p hp=>m' p (List.mem_cons_of_mem _ hp)) e.2 e'.2 c.tail c'.tail l l']
end
end Orq

namespace Orr
open Go
structure RawInt where
  b:Bool
  l:List Nat
structure RawPt where
  x:List RawInt
  y:List RawInt
  d:RawInt
  id:Int
structure RawInt.Ok (z:RawInt):Prop where
  u:∀ u∈z.l,u<4294967296
structure RawPt.Ok (z:RawPt):Prop where
  x:∀ a∈z.x,a.Ok
  y:∀ a∈z.y,a.Ok
  d:z.d.Ok
  id:-9223372036854775808≤z.id∧z.id≤9223372036854775807
def RawInt.cut (z:RawInt):RawInt:=⟨z.b,z.l.take 1⟩
end Orr

namespace Orr
def Qi7 (l:List Pt):Prop:=l.Pairwise fun a b=>a.id<b.id
theorem Qvv (id:Int):has [] id=false:=rfl
theorem Qq9 (p:Pt) (l:List Pt) (id:Int):has (p::l) id=if p.id<id then has l id else decide (p.id=id):=by
  by_cases h:p.id<id
  · rw [if_pos h]; unfold has; simp only [Lc]; rw [if_pos h]; simp
  · rw [if_neg h]; unfold has; simp only [Lc]; rw [if_neg h]; simp
theorem Qso (p:Pt) (l:List Pt) (q:Pt):put (p::l) q=if p.id<q.id then p::put l q else q::p::l:=by
  unfold put
  simp only [Lc]
  split <;> simp
theorem Qkp:∀ {l:List Pt} {id:Int},Qi7 l→(has l id=true↔∃ p∈l,p.id=id)
  | [],id,_=>by simp [Qvv]
  |
   p::l,id,h=>by
   have h1:=List.pairwise_cons.1 h
   rw [Qq9]
   split
   · rename_i hlt
     rw [Qkp h1.2]
     constructor
     · rintro ⟨x,hx,e⟩; exact ⟨x,List.mem_cons_of_mem _ hx,e⟩
     · rintro ⟨x,hx,e⟩
       rcases List.mem_cons.1 hx with rfl | hx
       · omega
       · exact ⟨x,hx,e⟩
   · rename_i hge
     rw [decide_eq_true_iff]
     constructor
     · intro e; exact ⟨p,List.mem_cons_self ..,e⟩
     · rintro ⟨x,hx,e⟩
       rcases List.mem_cons.1 hx with rfl | hx
       · exact e
       · have:=h1.1 x hx; omega
theorem Qsn {l:List Pt} {q:Pt} (h:l.length<6):Hw l q=if has l q.id=true then 6 else 0:=by
  unfold Hw
  split
  · rfl
  · rw [if_neg (by omega)]
end Orr

namespace Orr
open Go
section
variable {α:Type} {lt:α→α→Bool}
theorem Qnd (out:List α) (c:α):(K9 lt out c).Perm (c::out):=by
  unfold K9
  exact (List.perm_middle).trans (by rw [List.take_append_drop])
theorem E5:∀ (l acc:List α),(l.foldl (K9 lt) acc).Perm (l++acc)
  | [],acc=>List.Perm.refl _
  |
   c::l,acc=>by
   simp only [List.foldl_cons]
   exact (E5 l _).trans (((Qnd acc c).append_left l).trans List.perm_middle)
theorem Qit (l:List α):(Wl lt l).Perm l:=by
  have:=E5 (lt:=lt) l []
  rwa [List.append_nil] at this
end
end Orr

namespace Orr
open Go
theorem Qqy (c:Int) (l:List Int):Xe (l.map (· * c))=Xe l*c.natAbs:=by
  have key:∀ (l:List Int) (g:Nat),(l.map (· * c)).foldl (fun g z=>Nat.gcd g z.natAbs) (g*c.natAbs)=l.foldl (fun g z=>Nat.gcd g z.natAbs) g*c.natAbs:=by
    intro l
    induction l with
    | nil=>intro g; rfl
    |
     cons z l ih =>
     intro g
     simp only [List.map_cons,List.foldl_cons,Int.natAbs_mul,Nat.gcd_mul_right]
     exact ih _
  have:=key l 0
  rwa [Nat.zero_mul] at this
end Orr

namespace Orr
def Q2z (s m:Pt×Pt):Bool:=decide (m.1.id≠s.1.id) || decide (m.2.id≠s.2.id)
end Orr

namespace Orr
def U7 (l:List (List (List Int))):List (List LV):=l.map fun r=>[.row (r.map fun p=>[pl p])]
abbrev Sp (r:List (List Int)):List (List LV):=r.map fun p=>[pl p]
theorem Tz (l:List (List (List Int))):(U7 l).length=l.length:=by simp [U7]
def Rt (i:Nat) (rows:List (List (List Int))):Nat→List (List (List Int))
  | 0=>[]
  | j+1=>if j=i then Rt i rows j else Rt i rows j++[(rows.getD j []).drop 1]
def So (rows:List (List (List Int))) (i:Nat):List (List (List Int)):=Rt i rows rows.length
def Kf (f:Nat→List Int) (rows:List (List (List Int))):Nat→List Int
  | 0=>[]
  |
   i+1=>if ((rows.getD i []).getD 0 []).length=0 then Kf f rows i else
   if i % 2=0 then Hj (Kf f rows i) (Zo ((rows.getD i []).getD 0 []) (f i)) else Wd (Kf f rows i) (Zo ((rows.getD i []).getD 0 []) (f i))
def Wb:Nat→List (List (List Int))→List Int
  | 0,_=>[1]
  | k+1,rows=>Kf (fun i=>Wb k (So rows i)) rows (k+1)
structure Sq (s:Nat) (ds:List Nat) (k w:Nat) (rows:List (List (List Int))):Prop where
  l:rows.length=k
  w:∀ r∈rows,r.length=w
  t:∀ r∈rows,∀ p∈r,Qm p
  b:∀ r∈rows,∀ p∈r,Bd s p
  n:∀ r∈rows,∀ (j:Nat) (p:List Int),r[j]? = some p→p.length≤ds.getD j 0+1
theorem Au {i:Nat} {rows:List (List (List Int))}:∀ {j:Nat} {r:List (List Int)},j≤rows.length→r∈Rt i rows j→∃ q∈rows,r=q.drop 1
  | 0,r,_,h=>by simp [Rt] at h
  |
   j+1,r,hj,h=>by
   simp only [Rt] at h
   split at h
   · exact Au (by omega) h
   · rcases List.mem_append.1 h with h | h
     · exact Au (by omega) h
     · rw [List.mem_singleton.1 h]
       exact ⟨rows.getD j [],List.mem_of_getElem? (i:=j) (by rw [List.getD_eq_getElem?_getD,List.getElem?_eq_getElem (by omega)]; rfl),rfl⟩
theorem As {i:Nat} {rows:List (List (List Int))}:∀ (j:Nat),(Rt i rows j).length=if i<j then j-1 else j
  | 0=>rfl
  |
   j+1=>by
   have ih:=As (i:=i) (rows:=rows) j
   simp only [Rt]
   split
   · rename_i e; subst e; rw [ih,if_neg (by omega),if_pos (by omega)]; omega
   · rw [List.length_append,ih,List.length_singleton]
     split <;> split <;> omega
theorem Sq.min {s d k w:Nat} {ds:List Nat} {rows:List (List (List Int))} (h:Sq s (d::ds) (k+1) (w+1) rows) {i:Nat} (hi:i<k+1):Sq s ds k w (So rows i):=by
  have hl:=h.l
  have hm:∀ {r:List (List Int)},r∈So rows i→∃ q∈rows,r=q.drop 1:=fun h=>Au (Nat.le_refl _) h
  refine ⟨by unfold So; rw [As,hl,if_pos hi]; omega,fun r hr=>?_,fun r hr p hp=>?_,fun r hr p hp=>?_,fun r hr j p hp=>?_⟩
  · obtain ⟨q,hq,rfl⟩:=hm hr
    rw [List.length_drop,h.w q hq]; omega
  all_goals obtain ⟨q,hq,rfl⟩:=hm hr
  · exact h.t q hq p (List.mem_of_mem_drop hp)
  · exact h.b q hq p (List.mem_of_mem_drop hp)
  · rw [List.getElem?_drop] at hp
    have:=h.n q hq (1+j) p hp
    rw [Nat.add_comm 1 j] at this
    exact this
theorem Sq.at {s d k w:Nat} {ds:List Nat} {rows:List (List (List Int))} (h:Sq s (d::ds) k (w+1) rows) {i:Nat} (hi:i<k):∃ p r,rows[i]? = some (p::r)∧(rows.getD i []).getD 0 []=p∧Qm p∧Bd s p∧p.length≤d+1:=by
  obtain ⟨r,hr⟩:∃ r,rows[i]? = some r:=⟨_,List.getElem?_eq_getElem (by rw [h.l]; exact hi)⟩
  have hm:=List.mem_of_getElem? hr
  cases r with
  | nil=>have:=h.w _ hm; simp at this
  |
   cons p r =>
   have e:rows.getD i []=p::r:=by rw [List.getD_eq_getElem?_getD,hr]; rfl
   refine ⟨p,r,hr,by rw [e]; rfl,h.t _ hm p (by simp),h.b _ hm p (by simp),h.n _ hm 0 p rfl⟩
theorem Qbk {s d k w:Nat} {ds:List Nat} {f:Nat→List Int} {rows:List (List (List Int))} {B L:Nat} (h:Sq s (d::ds) k (w+1) rows) (hn:d<31) (hf:∀ i,i<k→Bd B (f i)∧(f i).length≤L+1):∀ i,i≤k→Qm (Kf f rows i)∧Bd (s+B+5+i) (Kf f rows i)∧(Kf f rows i).length≤d+L+1
  | 0,_=>⟨rfl,fun z hz=>(by cases hz),Nat.zero_le _⟩
  |
   i+1,hi=>by
   obtain ⟨h1,h2,h3⟩:=Qbk h hn hf i (by omega)
   obtain ⟨p,r,_,e,t,b,l⟩:=h.at (i:=i) (by omega)
   obtain ⟨f1,f2⟩:=hf i (by omega)
   have hp1:Bd (s+B+5) (Zo p (f i)):=Qaz b f1 (by omega)
   have hp2:=Ao p (f i)
   simp only [Kf]
   rw [e]
   split
   · exact ⟨h1,Qc h2 (by omega),h3⟩
   · split
     · exact ⟨Q8 _ _,Qc (Qay h2 hp1) (by omega),Nat.le_trans (An _ _) (by omega)⟩
     · exact ⟨Q8 _ _,Qc (P7 h2 hp1) (by omega),Nat.le_trans (Ro _ _) (by omega)⟩
theorem Qcc {s:Nat}:∀ (k:Nat) (ds:List Nat) (rows:List (List (List Int))),k≤4→ds.length=k→ds.sum<31→Sq s ds k k rows→Qm (Wb k rows)∧Bd (k*(s+10)+1) (Wb k rows)∧(Wb k rows).length≤ds.sum+1
  | 0,ds,rows,_,_,_,_=>⟨rfl,fun z hz=>(by simp [Wb] at hz; subst hz; rw [Nat.zero_mul]; decide),by simp [Wb]⟩
  | k+1,[],rows,_,hl,_,_=>by simp at hl
  |
   k+1,d::ds,rows,hk,hl,hd,h=>by
   rw [List.sum_cons] at hd
   have ih:=fun i (hi:i<k+1)=>Qcc k ds (So rows i) (by omega) (by simpa using hl) (by omega) (h.min hi)
   obtain ⟨h1,h2,h3⟩:=Qbk (f:=fun i=>Wb k (So rows i)) (B:=k*(s+10)+1) (L:=ds.sum) h (by omega) (fun i hi=>⟨(ih i hi).2.1,(ih i hi).2.2⟩) (k+1) (Nat.le_refl _)
   have e1:(k+1)*(s+10)=k*(s+10)+(s+10):=Nat.succ_mul ..
   rw [List.sum_cons]
   exact ⟨h1,Qc h2 (by omega),h3⟩
def Qfa (a b c:Crv):List (List (List Int)):=[[a.x,a.y,[a.d]],[b.x,b.y,[b.d]],[c.x,c.y,[c.d]]]
def Zr (a b c:Crv):List Int:=Wb 3 (Qfa a b c)
end Orr

namespace Orr
open Go Go.Proofs Orq
set_option maxRecDepth 10000
theorem gz {P:Program} [Mo P] {n:Nat} {Q:Exit→Sg→List OB→Prop} {L L':Sg} {B B':List OB} (i:Nat) {it:List It} (hs:Jj it=true) (h:Qsm [i] L B=some (L',B')) (k:AK P n Q it L' B'):AK P n Q it L B:=AK.sub (Ld h) hs k
theorem Ic {r:List (List Int)} {i:Nat} {p:List Int} (h:r[i]? = some p):(Sp r)[i]? = some [pl p]:=J0 h
theorem Ua {l:List (List (List Int))} {i:Nat} {r:List (List Int)} (h:l[i]? = some r):(U7 l)[i]? = some [.row (Sp r)]:=J0 h
theorem Qzd {r:List (List Int)} (ht:∀ p∈r,Qm p) (hb:∀ p∈r,Bd 1000000 p) (hl:∀ p∈r,p.length≤1000000) (hn:r.length≤1000):Qg Tryz.prog 236 [.one (.row (Sp r))] [.one (.row (Sp r))]:=by
  have hrl:(Sp r).length=r.length:=by simp
  refine X4 Tryz.func236 rfl ?_
  refine go tt [.o 3 26 1] rfl trivial ?_
  refine lp (S:=Nat) 1 (fun L1 i=>(8,.v (.one (.int .i64 (i:Int))))::(3,.v (.one (.orow 0 1 none)))::L1) (fun i=>[.row false 26 1 (Sp (r.take i))]) (fun i=>r.length-i) (fun i=>i≤r.length) 0 (Nat.zero_le _) rfl (fun _ _=>rfl) rfl fun i hi=>?_
  by_cases h:i<r.length
  · obtain ⟨p,hp⟩:∃ p,r[i]? = some p:=⟨_,List.getElem?_eq_getElem h⟩
    have hm:=List.mem_of_getElem? hp
    have hs:∀ y∈[[pl p]],y.length=1:=fun y hy=>by rw [List.mem_singleton.1 hy]; rfl
    have e:Sp (r.take (i+1))=Sp (r.take i)++[[pl p]]:=by rw [List.take_succ,hp]; simp
    refine go tt [.t (decide_eq_true (by omega)),.x (Ic hp),.c [] (Zx (ht p hm) (by have:=hl p hm; omega) (Qc (hb p hm) (by decide))),.s (sz:=1) hs] rfl (by simp [Qa] <;> omega) ?_
    exact rd (i+1) (by omega) h (by rw [e]; rfl)
  · obtain rfl:i=r.length:=by omega
    rw [List.take_length]
    exact en tt [.f (decide_eq_false (by omega))] rfl rfl trivial
theorem Q2g {s k w:Nat} {ds:List Nat} {rows:List (List (List Int))} (h:Sq s ds k k rows) (_hw:w=k) (hk:k≤4):Qg Tryz.prog 274 [.one (.row (U7 rows))] [.one (.bool true)]:=by
  have hrl:=Tz rows
  have hl:=h.l
  refine X4 Tryz.func274 rfl ?_
  refine go tt [] rfl trivial ?_
  refine lp (S:=Nat) 0 (fun L1 i=>(7,.v (.one (.int .i64 (i:Int))))::L1) (fun _=>[]) (fun i=>rows.length-i) (fun i=>i≤rows.length) 0 (Nat.zero_le _) rfl (fun _ _=>rfl) rfl fun i hi=>?_
  by_cases hlt:i<rows.length
  · obtain ⟨r,hr⟩:∃ r,rows[i]? = some r:=⟨_,List.getElem?_eq_getElem hlt⟩
    have hw:=h.w r (List.mem_of_getElem? hr)
    have hql:(Sp r).length=r.length:=by simp
    refine go tt [.t (decide_eq_true (by omega)),.x (Ua hr),.f (decide_eq_false (fun h=>h (by omega)))] rfl (by simp [Qa] <;> omega) ?_
    exact rd (i+1) (by omega) hlt rfl
  · exact en tt [.f (decide_eq_false (by omega))] rfl (by rw [decide_eq_true (by omega:((U7 rows).length:Int)≤4)]) trivial
theorem Qu7 {s k w:Nat} {ds:List Nat} {rows:List (List (List Int))} (h:Sq s ds k w rows) (hs:s≤1000000) (hk:k≤4) (hw:w≤4) (hd:∀ j,ds.getD j 0≤1000) (i:Nat):Qg Tryz.prog 302 [.one (.int .i64 (i:Int)),.one (.int .i64 0),.one (.row (U7 rows))] [.one (.row (U7 (So rows i)))]:=by
  have hrl:=Tz rows
  have hl:=h.l
  have hml:∀ j,j≤rows.length→(U7 (Rt i rows j)).length≤4:=fun j hj=>by
    rw [Tz,As]; split <;> omega
  refine X4 Tryz.func302 rfl ?_
  refine go tt [.o 7 278 1] rfl trivial ?_
  refine lp (S:=Nat) 1 (fun L1 j=>(15,.v (.one (.int .i64 (j:Int))))::(7,.v (.one (.orow 0 1 none)))::L1) (fun j=>[.row false 278 1 (U7 (Rt i rows j))]) (fun j=>rows.length-j) (fun j=>j≤rows.length) 0 (Nat.zero_le _) rfl (fun _ _=>rfl) rfl fun j hj=>?_
  have hmlj:=hml j hj
  by_cases hlt:j<rows.length
  · obtain ⟨r,hr⟩:∃ r,rows[j]? = some r:=⟨_,List.getElem?_eq_getElem hlt⟩
    have hm:=List.mem_of_getElem? hr
    have hw:=h.w r hm
    have hql:(Sp r).length=r.length:=by simp
    by_cases hij:j=i
    · have e:Rt i rows (j+1)=Rt i rows j:=by simp only [Rt]; rw [if_pos hij]
      refine go tt [.t (decide_eq_true (by omega)),.x (Ua hr),.t (decide_eq_true (by omega))] rfl (by simp [Qa] <;> omega) ?_
      exact rd (j+1) (by omega) hlt (by rw [e]; rfl)
    · have e:Rt i rows (j+1)=Rt i rows j++[r.drop 1]:=by
        simp only [Rt]; rw [if_neg hij,List.getD_eq_getElem?_getD,hr]; rfl
      refine go tt [.t (decide_eq_true (by omega)),.x (Ua hr),.f (decide_eq_false (by omega)),.o 10 26 1] rfl (by simp [Qa]) ?_
      refine lp (S:=Nat) 2 (fun L1 c=>(25,.v (.one (.int .i64 (c:Int))))::(10,.v (.one (.orow 1 1 none)))::L1) (fun c=>[.row false 278 1 (U7 (Rt i rows j)),.row false 26 1 (Sp ((r.take c).drop 1))]) (fun c=>r.length-c) (fun c=>c≤r.length) 0 (Nat.zero_le _) rfl (fun _ _=>rfl) rfl fun c hc=>?_
      by_cases hcl:c<r.length
      · obtain ⟨p,hp⟩:∃ p,r[c]? = some p:=⟨_,List.getElem?_eq_getElem hcl⟩
        have hpm:=List.mem_of_getElem? hp
        by_cases h0:c=0
        · subst h0
          refine go tt [.t (decide_eq_true (by omega)),.x (Ic hp),.f (decide_eq_false (by simp))] rfl (by simp [Qa]) ?_
          exact rd 1 (by omega) hcl (by rw [List.take_succ,hp]; rfl)
        · have hs1:∀ y∈[[pl p]],y.length=1:=fun y hy=>by rw [List.mem_singleton.1 hy]; rfl
          have e2:Sp ((r.take (c+1)).drop 1)=Sp ((r.take c).drop 1)++[[pl p]]:=by
            rw [List.take_succ,hp,List.drop_append_of_le_length (by rw [List.length_take]; omega)]; simp
          refine go tt [.t (decide_eq_true (by omega)),.x (Ic hp),.t (decide_eq_true (by omega)),.c [] (Zx (h.t r hm p hpm) (by have:=h.n r hm c p hp; have:=hd c; omega) (Qc (h.b r hm p hpm) (by omega))),.s (sz:=1) hs1] rfl (by simp [Qa] <;> omega) ?_
          exact rd (c+1) (by omega) hcl (by rw [e2]; rfl)
      · obtain rfl:c=r.length:=by omega
        rw [List.take_length]
        have hs1:∀ y∈[[LV.row (Sp (r.drop 1))]],y.length=1:=fun y hy=>by rw [List.mem_singleton.1 hy]; rfl
        refine go tt [.f (decide_eq_false (by omega))] rfl trivial ?_
        refine gz 1 rfl rfl ?_
        refine go tt [.s (sz:=1) hs1] rfl (by simp [Qa] <;> omega) ?_
        exact rd (j+1) (by omega) hlt (by rw [e]; simp [U7]; rfl)
  · obtain rfl:j=rows.length:=by omega
    exact en tt [.f (decide_eq_false (by omega))] rfl rfl trivial
theorem C0:∀ (ds:List Nat) (j:Nat),ds.getD j 0≤ds.sum
  | [],j=>by simp
  | d::ds,0=>by simp
  |
   d::ds,j+1=>by
   have:=C0 ds j
   rw [List.sum_cons]
   show ds.getD j 0≤_
   omega
theorem Qx8 {s:Nat} (hs:s≤100000):∀ (k:Nat) (ds:List Nat) (rows:List (List (List Int))),k≤4→ds.length=k→ds.sum<31→Sq s ds k k rows→Qg Tryz.prog 275 [.one (.row (U7 rows))] [pr (Wb k rows)]
  |
   0,ds,rows,_,_,_,h=>by
   have e:=List.eq_nil_of_length_eq_zero h.l
   subst e
   have co:=I6 (p:=[1]) (by decide) (by decide)
   exact w tt Tryz.func275 rfl [.t rfl,.c [] co] rfl rfl trivial
  | k+1,[],_,_,hl,_,_=>by simp at hl
  |
   k+1,d::ds,rows,hk,hl,hd,h=>by
   rw [List.sum_cons] at hd
   have hl':ds.length=k:=by simpa using hl
   have hrl:=Tz rows
   have hrn:=h.l
   have hmin:=fun i (hi:i<k+1)=>h.min hi
   have ih:=fun i (hi:i<k+1)=>Qx8 hs k ds (So rows i) (by omega) hl' (by omega) (hmin i hi)
   have hok:=fun i (hi:i<k+1)=>Qcc k ds (So rows i) (by omega) hl' (by omega) (hmin i hi)
   have hb:k*(s+10)+1≤500000:=by
     have:k*(s+10)≤4*(100010):=Nat.mul_le_mul (by omega) (by omega)
     omega
   have hds:=Qbk (f:=fun i=>Wb k (So rows i)) (B:=k*(s+10)+1) (L:=ds.sum) h (by omega) (fun i hi=>⟨(hok i hi).2.1,(hok i hi).2.2⟩)
   have cm:=Qu7 h (by omega) hk hk (fun j=>by have:=C0 (d::ds) j; rw [List.sum_cons] at this; omega)
   show Qg Tryz.prog 275 [.one (.row (U7 rows))] [pr (Kf (fun i=>Wb k (So rows i)) rows (k+1))]
   obtain ⟨f,hf⟩:∃ f,f=fun i=>Wb k (So rows i):=⟨_,rfl⟩
   rw [←hf] at hds ⊢
   have hfi:∀ i,f i=Wb k (So rows i):=fun i=>by rw [hf]
   refine X4 Tryz.func275 rfl ?_
   refine go tt [.f (decide_eq_false (by omega)),.z 3] rfl trivial ?_
   refine lp (S:=Nat) 0 (fun L1 i=>(14,.v (.one (.int .i64 (i:Int))))::(3,.v (pr (Kf f rows i)))::L1) (fun _=>[]) (fun i=>k+1-i) (fun i=>i≤k+1) 0 (Nat.zero_le _) rfl (fun _ _=>rfl) rfl fun i hi=>?_
   obtain ⟨d1,d2,d3⟩:=hds i hi
   by_cases hlt:i<k+1
   · obtain ⟨p,r,hr,e,t,b,l⟩:=h.at hlt
     have hx0:(Sp (p::r))[0]? = some [pl p]:=rfl
     have Ye:(p.map Z0).length=p.length:=by simp
     have cn:=Zx t (by omega) (Qc b (by omega))
     by_cases h0:p.length=0
     · have es:Kf f rows (i+1)=Kf f rows i:=by simp only [Kf]; rw [e,if_pos h0]
       refine go tt [.t (decide_eq_true (by omega)),.x (Ua hr),.x hx0,.c [] cn,.t (decide_eq_true (by omega))] rfl (by simp [Qa] <;> omega) ?_
       exact rd (i+1) (by omega) hlt (by rw [es]; rfl)
     · obtain ⟨k1,k2,k3⟩:=hok i hlt
       have ci:=ih i hlt
       have cp:=Qoy (p:=p) (q:=f i) t (by rw [hfi]; exact k1) (by omega) (by rw [hfi]; omega) b (by rw [hfi]; exact k2) (by omega)
       have hmb:Bd (s+(k*(s+10)+1)+5) (Zo p (f i)):=Qaz b (by rw [hfi]; exact k2) (by omega)
       have hml:=Ao p (f i)
       have hfl:(f i).length≤ds.sum+1:=by rw [hfi]; exact k3
       rw [←hfi] at ci
       by_cases h2:i % 2=0
       · have es:Kf f rows (i+1)=Hj (Kf f rows i) (Zo p (f i)):=by simp only [Kf]; rw [e,if_neg h0,if_pos h2]
         refine go tt [.t (decide_eq_true (by omega)),.x (Ua hr),.x hx0,.c [] cn,.f (decide_eq_false (by omega)),.x hx0,.c [] (cm i),.c [] ci,.c [] cp,.r 34 (eI (b:=((i % 2:Nat):Int)) rfl),.t (decide_eq_true (by omega)),.c [] (Qg4 (p:=Kf f rows i) (q:=Zo p (f i)) (by omega) (by omega) (Qc d2 (by omega)) (Qc hmb (by omega)))] rfl (by simp [Qa] <;> omega) ?_
         exact rd (i+1) (by omega) hlt (by rw [es]; rfl)
       · have es:Kf f rows (i+1)=Wd (Kf f rows i) (Zo p (f i)):=by simp only [Kf]; rw [e,if_neg h0,if_neg h2]
         refine go tt [.t (decide_eq_true (by omega)),.x (Ua hr),.x hx0,.c [] cn,.f (decide_eq_false (by omega)),.x hx0,.c [] (cm i),.c [] ci,.c [] cp,.r 34 (eI (b:=((i % 2:Nat):Int)) rfl),.f (decide_eq_false (by omega)),.c [] (L9 (p:=Kf f rows i) (q:=Zo p (f i)) (by omega) (by omega) (Qc d2 (by omega)) (Qc hmb (by omega)))] rfl (by simp [Qa] <;> omega) ?_
         exact rd (i+1) (by omega) hlt (by rw [es]; rfl)
   · obtain rfl:i=k+1:=by omega
     exact en tt [.f (decide_eq_false (by omega))] rfl rfl trivial
theorem Q13 {s:Nat} (hs:s≤100000) {k:Nat} {ds:List Nat} {rows:List (List (List Int))} (hk:k≤4) (hl:ds.length=k) (hd:ds.sum<31) (h:Sq s ds k k rows):Qg Tryz.prog 237 [.one (.row (U7 rows))] [pr (Wb k rows),.one (.int .i64 0)] :=
  w tt Tryz.func237 rfl [.c [] (Q2g h rfl hk),.f rfl,.c [] (Qx8 hs k ds rows hk hl hd h)] rfl rfl trivial
theorem Qg6 {k:Crv} (hk:Sc k):Qg Tryz.prog 235 [.agg (cl k)] [.one (.row (Sp [k.x,k.y,[k.d]]))]:=by
  have h0:k.d≠0:=by have:=hk.n.2.2.1; omega
  have td:Qm [k.d]:=by unfold Qm; simp [Qq,h0]
  have cd:=Qzd (r:=[k.x,k.y,[k.d]]) (fun p hp=>by
      rcases List.mem_cons.1 hp with rfl | hp
      · exact hk.n.1
      rcases List.mem_cons.1 hp with rfl | hp
      · exact hk.n.2.1
      · rw [List.mem_singleton.1 hp]; exact td) (fun p hp=>by
      rcases List.mem_cons.1 hp with rfl | hp
      · exact Qc hk.c.x (by decide)
      rcases List.mem_cons.1 hp with rfl | hp
      · exact Qc hk.c.y (by decide)
      · rw [List.mem_singleton.1 hp]
        intro z hz; rw [List.mem_singleton.1 hz]; exact Nat.le_trans hk.c.d (by decide)) (fun p hp=>by
      rcases List.mem_cons.1 hp with rfl | hp
      · have:=hk.c.lx; omega
      rcases List.mem_cons.1 hp with rfl | hp
      · have:=hk.c.ly; omega
      · rw [List.mem_singleton.1 hp]; show 1≤1000000; decide) (by show 3≤1000; decide)
  exact w tt Tryz.func235 rfl [.c [] (P9 hk.n (hk.c.mono (by decide) (by decide))),.c [] cd] rfl rfl trivial
theorem Qf4 {a b c:Crv} (ha:Sc a) (hb:Sc b) (hc:Sc c):Sq 90 [2,2,0] 3 3 (Qfa a b c):=by
  have key:∀ k:Crv,Sc k→(∀ p∈[k.x,k.y,[k.d]],Qm p∧Bd 90 p)∧∀ (j:Nat) (p:List Int),[k.x,k.y,[k.d]][j]? = some p→p.length≤[2,2,0].getD j 0+1:=fun k hk=>by
    have h0:k.d≠0:=by have:=hk.n.2.2.1; omega
    have td:Qm [k.d]:=by unfold Qm; simp [Qq,h0]
    refine ⟨fun p hp=>?_,fun j p hp=>?_⟩
    · rcases List.mem_cons.1 hp with rfl | hp
      · exact ⟨hk.n.1,hk.c.x⟩
      rcases List.mem_cons.1 hp with rfl | hp
      · exact ⟨hk.n.2.1,hk.c.y⟩
      · rw [List.mem_singleton.1 hp]
        exact ⟨td,fun z hz=>by rw [List.mem_singleton.1 hz]; exact hk.c.d⟩
    · match j,hp with
      | 0,hp=>injection hp with hp; subst hp; exact hk.c.lx
      | 1,hp=>injection hp with hp; subst hp; exact hk.c.ly
      | 2,hp=>injection hp with hp; subst hp; exact Nat.le_refl _
      | j+3,hp=>simp at hp
  have hr:∀ r∈Qfa a b c,∃ k:Crv,Sc k∧r=[k.x,k.y,[k.d]]:=fun r hr=>by
    rcases List.mem_cons.1 hr with rfl | hr
    · exact ⟨a,ha,rfl⟩
    rcases List.mem_cons.1 hr with rfl | hr
    · exact ⟨b,hb,rfl⟩
    · rw [List.mem_singleton.1 hr]; exact ⟨c,hc,rfl⟩
  refine ⟨rfl,fun r h=>?_,fun r h p hp=>?_,fun r h p hp=>?_,fun r h j p hp=>?_⟩
  all_goals obtain ⟨k,hk,rfl⟩:=hr r h
  · rfl
  · exact ((key k hk).1 p hp).1
  · exact ((key k hk).1 p hp).2
  · exact (key k hk).2 j p hp
theorem Ny {a b c:Crv} (ha:Sc a) (hb:Sc b) (hc:Sc c):Cp (Zr a b c):=by
  obtain ⟨h1,h2,h3⟩:=Qcc 3 [2,2,0] (Qfa a b c) (by decide) rfl (by decide) (Qf4 ha hb hc)
  exact ⟨h1,Nat.le_trans h3 (by decide),Qc h2 (by decide)⟩
theorem Qdm {a b c:Crv} (ha:Sc a) (hb:Sc b) (hc:Sc c):Qg Tryz.prog 190 [.agg (cl a),.agg (cl b),.agg (cl c)] [pr (Zr a b c)]:=by
  have cd:=Q13 (by decide) (k:=3) (ds:=[2,2,0]) (by decide) rfl (by decide) (Qf4 ha hb hc)
  exact w tt Tryz.func190 rfl [.c [] (Qg6 ha),.c [] (Qg6 hb),.c [] (Qg6 hc),.c [] cd] rfl rfl trivial
end Orr

namespace Orq
open Orr Go
theorem Qf9 {p q:List Int} (tp:Qm p) (tq:Qm q) (h:∀ i,p.getD i 0=q.getD i 0):p=q:=by
  have hl:∀ {p q:List Int},Qm p→(∀ i,p.getD i 0=q.getD i 0)→p.length≤q.length:=fun {p q} tp h=>by
    refine Nat.not_lt.1 fun hn=>?_
    have h1:=Xi tp (by omega)
    rw [h,List.getD_eq_getElem?_getD,List.getElem?_eq_none (by omega)] at h1
    exact h1 rfl
  have e:=Nat.le_antisymm (hl tp h) (hl tq fun i=>(h i).symm)
  refine List.ext_getElem e fun i h1 h2=>?_
  have:=h i
  rw [List.getD_eq_getElem?_getD,List.getD_eq_getElem?_getD,List.getElem?_eq_getElem h1,List.getElem?_eq_getElem h2] at this
  exact this
theorem Qea {p:List Int} (h:p=[]) (i:Nat):p.getD i 0=0:=by rw [h]; simp
theorem Ww (p:List Int) (c:Int) (i:Nat):(Zp p c).getD i 0=p.getD i 0*c:=by
  unfold Zp
  rw [Kg]
  split
  · rfl
  · rename_i h
    rw [List.getD_eq_getElem?_getD,List.getElem?_eq_none (by omega)]; simp
theorem Ia (p q:List Int) (i:Nat):(Wd p q).getD i 0=p.getD i 0-q.getD i 0:=by
  unfold Wd
  rw [Kg]
  split
  · rfl
  · rename_i h
    rw [List.getD_eq_getElem?_getD,List.getD_eq_getElem?_getD,List.getElem?_eq_none (by omega),List.getElem?_eq_none (by omega)]; simp
theorem Qwl {x y:Crv} (hx:Nml x) (hy:Nml y) (h1:Jd x y=[]) (h2:Jg x y=[]):x=y:=by
  have e1:∀ i,y.x.getD i 0*x.d=x.x.getD i 0*y.d:=fun i=>by
    have:=Qea h1 i
    unfold Jd at this
    rw [Ia,Ww,Ww] at this
    omega
  have e2:∀ i,y.y.getD i 0*x.d=x.y.getD i 0*y.d:=fun i=>by
    have:=Qea h2 i
    unfold Jg at this
    rw [Ia,Ww,Ww] at this
    omega
  have key:∀ {x y:Crv},Nml x→Nml y→(∀ i,y.x.getD i 0*x.d=x.x.getD i 0*y.d)→(∀ i,y.y.getD i 0*x.d=x.y.getD i 0*y.d)→x.d∣y.d:=fun {x y} hx hy e1 e2=>by
    have hd:=Qd3 (d:=x.d) (l:=(x.d::(x.x++x.y)).map (· * y.d)) fun z hz=>by
      obtain ⟨w,hw,rfl⟩:=List.mem_map.1 hz
      rcases List.mem_cons.1 hw with rfl | hw
      · exact Int.dvd_mul_right _ _
      · rcases List.mem_append.1 hw with hw | hw
        · obtain ⟨i,hi,rfl⟩:=List.mem_iff_getElem.1 hw
          have:=e1 i
          rw [show x.x.getD i 0=x.x[i] from by rw [List.getD_eq_getElem?_getD,List.getElem?_eq_getElem hi]; rfl] at this
          rw [←this]; exact Int.dvd_mul_left _ _
        · obtain ⟨i,hi,rfl⟩:=List.mem_iff_getElem.1 hw
          have:=e2 i
          rw [show x.y.getD i 0=x.y[i] from by rw [List.getD_eq_getElem?_getD,List.getElem?_eq_getElem hi]; rfl] at this
          rw [←this]; exact Int.dvd_mul_left _ _
    rw [Qqy,hx.2.2.2,Nat.one_mul] at hd
    exact Int.dvd_trans hd (Int.natAbs_dvd.2 (Int.dvd_refl _))
  have hd:x.d=y.d:=Int.dvd_antisymm (Int.le_of_lt hx.2.2.1) (Int.le_of_lt hy.2.2.1) (key hx hy e1 e2) (key hy hx (fun i=>(e1 i).symm) fun i=>(e2 i).symm)
  have hd0:y.d≠0:=by have:=hy.2.2.1; omega
  rw [hd] at e1 e2
  have ex:x.x=y.x:=Qf9 hx.1 hy.1 fun i=>(Int.eq_of_mul_eq_mul_right hd0 (e1 i)).symm
  have ey:x.y=y.y:=Qf9 hx.2.1 hy.2.1 fun i=>(Int.eq_of_mul_eq_mul_right hd0 (e2 i)).symm
  cases x; cases y
  simp only at hd ex ey
  rw [hd,ex,ey]
theorem Qxl (l:List Pt):(ways l).Pairwise fun x y=>x.c≠y.c:=by
  have key:∀ (l out:List Pt),out.Pairwise (fun x y=>x.c≠y.c)→(l.foldl Jk out).Pairwise fun x y=>x.c≠y.c:=by
    intro l
    induction l with
    | nil=>intro out h; exact h
    |
     cons p l ih =>
     intro out h
     refine ih _ ?_
     unfold Jk
     split
     · exact h
     · rename_i hn
       refine List.pairwise_append.2 ⟨h,List.pairwise_singleton _ _,fun a ha b hb e=>hn ?_⟩
       rw [List.mem_singleton.1 hb] at e
       rw [List.any_eq_true]
       exact ⟨a,ha,by rw [←e]; simp [Wi]⟩
  exact key l [] .nil
theorem Qtx (l:List Pt):(ways l).Sublist l:=by
  have key:∀ (l out o:List Pt),out.Sublist o→(l.foldl Jk out).Sublist (o++l):=by
    intro l
    induction l with
    | nil=>intro out o h; rw [List.append_nil]; exact h
    |
     cons p l ih =>
     intro out o h
     have:(Jk out p).Sublist (o++[p]):=by
       unfold Jk
       split
       · exact h.trans (List.sublist_append_left _ _)
       · exact h.append (List.Sublist.refl _)
     have:=ih _ _ this
     rwa [List.append_assoc] at this
  exact key l [] [] (List.Sublist.refl _)
theorem Gh (f:Nat→List Int) (rows:List (List (List Int))) (q:Rat) (i:Nat):Qf (Kf f rows (i+1)) q=Qf (Kf f rows i) q+(if i % 2=0 then 1 else -1)*(Qf ((rows.getD i []).getD 0 []) q*Qf (f i) q):=by
  simp only [Kf]
  split
  · rename_i h
    have:Qf ((rows.getD i []).getD 0 []) q=0:=by rw [List.eq_nil_of_length_eq_zero h]; rfl
    rw [this]; grind
  · split
    · rw [A1,Qy]; grind
    · rw [Vp,Qy]; grind
theorem Qlm (z:Int) (q:Rat):Qf [z] q=(z:Rat):=by simp [Qf,Rat.add_zero]
theorem Qfe (p:List Int) (q:Rat):Qf (Wb 1 [[p]]) q=Qf p q:=by
  show Qf (Kf (fun i=>Wb 0 (So [[p]] i)) [[p]] (0+1)) q=_
  rw [Gh]
  show (0:Rat)+1*(Qf p q*Qf [1] q)=_
  rw [Qlm]
  have:((1:Int):Rat)=1:=rfl
  grind
theorem A0 (p r s t:List Int) (q:Rat):Qf (Wb 2 [[p,r],[s,t]]) q=Qf p q*Qf t q-Qf s q*Qf r q:=by
  show Qf (Kf (fun i=>Wb 1 (So [[p,r],[s,t]] i)) [[p,r],[s,t]] (0+1+1)) q=_
  rw [Gh,Gh]
  show (0:Rat)+1*(Qf p q*Qf (Wb 1 [[t]]) q)+(-1)*(Qf s q*Qf (Wb 1 [[r]]) q)=_
  rw [Qfe,Qfe]; grind
theorem Qsb (a1 a2 a3 b1 b2 b3 c1 c2 c3:List Int) (q:Rat):Qf (Wb 3 [[a1,a2,a3],[b1,b2,b3],[c1,c2,c3]]) q=Qf a1 q*(Qf b2 q*Qf c3 q-Qf c2 q*Qf b3 q)-Qf b1 q*(Qf a2 q*Qf c3 q-Qf c2 q*Qf a3 q)+Qf c1 q*(Qf a2 q*Qf b3 q-Qf b2 q*Qf a3 q):=by
  show Qf (Kf (fun i=>Wb 2 (So [[a1,a2,a3],[b1,b2,b3],[c1,c2,c3]] i)) [[a1,a2,a3],[b1,b2,b3],[c1,c2,c3]] (0+1+1+1)) q=_
  rw [Gh,Gh,Gh]
  show (0:Rat)+1*(Qf a1 q*Qf (Wb 2 [[b2,b3],[c2,c3]]) q)+(-1)*(Qf b1 q*Qf (Wb 2 [[a2,a3],[c2,c3]]) q)+1*(Qf c1 q*Qf (Wb 2 [[a2,a3],[b2,b3]]) q)=_
  rw [A0,A0,A0]; grind
theorem Qio {a b c:Pt} (ha:Sc a.c) (hb:Sc b.c) (hc:Sc c.c) (q:Rat):Qk (Qf (Zr a.c b.c c.c) q)=Qk (Yq (px · q) (py · q) a b c):=by
  have Lc:∀ {k:Crv},Sc k→(0:Rat)<(k.d:Rat):=fun h=>by exact_mod_cast h.n.2.2.1
  have pa:=Lc ha
  have pb:=Lc hb
  have pc:=Lc hc
  have xx:∀ {p:Pt},0<(p.c.d:Rat)→Qf p.c.x q=px p q*(p.c.d:Rat)∧Qf p.c.y q=py p q*(p.c.d:Rat):=fun {p} h=>by
    unfold px py
    exact ⟨(Rat.div_mul_cancel (by grind)).symm,(Rat.div_mul_cancel (by grind)).symm⟩
  obtain ⟨xa,ya⟩:=xx pa
  obtain ⟨xb,yb⟩:=xx pb
  obtain ⟨xc,yc⟩:=xx pc
  have e:Qf (Zr a.c b.c c.c) q=((a.c.d:Rat)*(b.c.d:Rat)*(c.c.d:Rat))*Yq (px · q) (py · q) a b c:=by
    unfold Zr Qfa Yq
    rw [Qsb,Qlm,Qlm,Qlm,xa,xb,xc,ya,yb,yc]
    grind
  rw [e,Wy (Rat.mul_pos (Rat.mul_pos pa pb) pc)]
end Orq

namespace Orq
open Orr Go
def U6 (sg:List Int→Int) (a b c:Pt):Bool:=decide (0<X5 sg (Zr a.c b.c c.c))
def Jb (sg:List Int→Int) (row:List Pt):List Pt:=(Xv (U6 sg) [] row).reverse
def Vw (sg:List Int→Int) (row:List Pt):List Pt:=if row.length<3 then row else (Jb sg row).dropLast++(Jb sg row.reverse).dropLast
def Z1 (l:List Pt) (a:Tm):List Pt:=Vw (Zn a) (Jm a (ways l))
def Zl (C:List Pt):List (Pt×Pt):=C.zip (C.drop 1++C.take 1)
def J8 (sg:List Int→Int) (a b c:Pt):Ct:=⟨3,a.id,b.id,c.id,0,Zr a.c b.c c.c,X5 sg (Zr a.c b.c c.c)⟩
def V5 (e:Pt×Pt) (c:Pt):Bool:=decide (c.id≠e.1.id) && decide (c.id≠e.2.id)
def Jo (sg:List Int→Int) (l:List Pt) (e:Pt×Pt):List Ct:=(l.filter (V5 e)).map fun c=>J8 sg e.1 e.2 c
def Jx (sg:List Int→Int) (l C:List Pt):List Ct:=if C.length<2 then [] else (Zl C).flatMap (Jo sg l)
def bcH (l:List Pt) (a:Tm):List Ct:=bcS l a++Jx (Zn a) l (Z1 l a)
abbrev brH (l:List Pt) (a:Tm):List (List LV):=Qi (Z1 l a)
def Iq (l:List Pt):List (List Int):=l.flatMap fun x=>l.flatMap fun y=>l.map fun z=>Zr x.c y.c z.c
theorem Qdh {l:List Pt} {x y z:Pt} (hx:x∈l) (hy:y∈l) (hz:z∈l):Zr x.c y.c z.c∈Iq l :=
  List.mem_flatMap.2 ⟨x,hx,List.mem_flatMap.2 ⟨y,hy,List.mem_map.2 ⟨z,hz,rfl⟩⟩⟩
theorem Quj {l:List Pt} (hl:∀ p∈l,Sc p.c):∀ p∈Iq l,Cp p:=fun p hp=>by
  obtain ⟨x,hx,hp⟩:=List.mem_flatMap.1 hp
  obtain ⟨y,hy,hp⟩:=List.mem_flatMap.1 hp
  obtain ⟨z,hz,rfl⟩:=List.mem_map.1 hp
  exact Ny (hl x hx) (hl y hy) (hl z hz)
theorem A6 {α:Type} (s:α→α→α→Bool) (c:α):∀ st:List α,(V6 s c st).Sublist st
  | []=>List.Sublist.refl _
  | [_]=>List.Sublist.refl _
  |
   b::a::r=>by
   simp only [V6]
   split
   · exact List.Sublist.refl _
   · exact (A6 s c (a::r)).trans (List.sublist_cons_self _ _)
theorem S9 {α:Type} {s:α→α→α→Bool}:∀ {l acc:List α} {x:α},x∈Xv s acc l→x∈acc∨x∈l
  | [],acc,x,h=>.inl h
  |
   c::l,acc,x,h=>by
   rcases S9 (l:=l) h with h | h
   · rcases List.mem_cons.1 h with rfl | h
     · exact .inr (by simp)
     · exact .inl ((A6 s c acc).subset h)
   · exact .inr (List.mem_cons_of_mem _ h)
theorem S8 {α:Type} (s:α→α→α→Bool):∀ (l acc:List α),(Xv s acc l).length≤acc.length+l.length
  | [],acc=>by simp [Xv]
  |
   c::l,acc=>by
   have h1:=S8 s l (c::V6 s c acc)
   have h2:=(A6 s c acc).length_le
   simp only [Xv,List.length_cons] at h1 ⊢
   omega
theorem Ef {sg:List Int→Int} {row:List Pt} {x:Pt} (h:x∈Jb sg row):x∈row:=by
  unfold Jb at h
  rcases S9 (List.mem_reverse.1 h) with h | h
  · cases h
  · exact h
theorem G0 (sg:List Int→Int) (row:List Pt):(Jb sg row).length≤row.length:=by
  have:=S8 (U6 sg) row []
  unfold Jb; rw [List.length_reverse]; simpa using this
theorem Qik {sg:List Int→Int} {row:List Pt} {x:Pt} (h:x∈Vw sg row):x∈row:=by
  unfold Vw at h
  split at h
  · exact h
  · rcases List.mem_append.1 h with h | h
    · exact Ef ((List.dropLast_sublist _).subset h)
    · exact List.mem_reverse.1 (Ef ((List.dropLast_sublist _).subset h))
theorem Qij (sg:List Int→Int) (row:List Pt):(Vw sg row).length≤2*row.length:=by
  unfold Vw
  split
  · omega
  · have h1:=G0 sg row
    have h2:=G0 sg row.reverse
    rw [List.length_reverse] at h2
    rw [List.length_append,List.length_dropLast,List.length_dropLast]; omega
theorem W3 {l:List Pt} {a:Tm} {x:Pt} (h:x∈Z1 l a):x∈l:=Yd (Zh.1 (Qik h))
theorem Tq (l:List Pt) (a:Tm):(Z1 l a).length≤2*l.length:=by
  have h1:=Qij (Zn a) (Jm a (ways l))
  rw [K0] at h1
  have:=Im l
  unfold Z1; omega
theorem Cw {C:List Pt} {e:Pt×Pt} (h:e∈Zl C):e.1∈C∧e.2∈C:=by
  unfold Zl at h
  have h1:=List.of_mem_zip (show (e.1,e.2)∈_ from h)
  refine ⟨h1.1,?_⟩
  rcases List.mem_append.1 h1.2 with h | h
  · exact List.mem_of_mem_drop h
  · exact List.mem_of_mem_take h
theorem Qhp {sg:List Int→Int} {l C:List Pt} {x:Ct} (h:x∈Jx sg l C):∃ e∈Zl C,∃ c∈l,V5 e c=true∧x=J8 sg e.1 e.2 c:=by
  unfold Jx at h
  split at h
  · cases h
  · obtain ⟨e,he,h⟩:=List.mem_flatMap.1 h
    obtain ⟨c,hc,rfl⟩:=List.mem_map.1 h
    obtain ⟨h1,h2⟩:=List.mem_filter.1 hc
    exact ⟨e,he,c,h1,h2,rfl⟩
theorem Qaw {l:List Pt} {a:Tm}:∀ x∈bcH l a,x.p∈Nn l++Iq l:=fun x hx=>by
  rcases List.mem_append.1 hx with hx | hx
  · exact List.mem_append_left _ (Qum x hx)
  · obtain ⟨e,he,c,hc,_,rfl⟩:=Qhp hx
    obtain ⟨h1,h2⟩:=Cw he
    exact List.mem_append_right _ (Qdh (W3 h1) (W3 h2) hc)
theorem Ds {l:List Pt} (hl:∀ p∈l,Sc p.c):∀ p∈Nn l++Iq l,Cp p:=fun p hp=>by
  rcases List.mem_append.1 hp with h | h
  · exact Qja hl p h
  · exact Quj hl p h
theorem Pd {α β:Type} (f:α→List β) (n:Nat):∀ (m:List α),(∀ x∈m,(f x).length≤n)→(m.flatMap f).length≤m.length*n
  | [],_=>by simp
  |
   x::m,h=>by
   have:=Pd f n m fun y hy=>h y (List.mem_cons_of_mem _ hy)
   have:=h x (by simp)
   rw [List.flatMap_cons,List.length_append,List.length_cons,Nat.succ_mul]; omega
theorem Qho (sg:List Int→Int) (l C:List Pt):(Jx sg l C).length≤C.length*l.length:=by
  unfold Jx
  split
  · simp
  · refine Nat.le_trans (Pd _ l.length _ fun e _=>?_) (Nat.mul_le_mul_right _ ?_)
    · unfold Jo; rw [List.length_map]; exact List.length_filter_le _ _
    · unfold Zl; rw [List.length_zip]; exact Nat.min_le_left _ _
theorem Qgv {l:List Pt} (hl:∀ p∈l,Sc p.c) (hn:l.length≤10):BuildOk (bcH l) :=
  ⟨fun _ _ x hx=>Ds hl _ (Qaw x hx),fun a _=>by
    have h1:=Qho (Zn a) l (Z1 l a)
    have h2:=Tq l a
    have h3:(Z1 l a).length*l.length≤20*10:=Nat.mul_le_mul (by omega) hn
    show (bcS l a++Jx (Zn a) l (Z1 l a)).length≤1000
    have h4:(bcS l a).length≤l.length:=by unfold bcS; rw [Ub,K0]; omega
    rw [List.length_append]; omega⟩
def U3 {α:Type} (l:List α):List (α×α):=l.zip (l.drop 1)
theorem Qbn {α:Type} {Q:α→α→Prop}:∀ {l:List α},Edg Q l↔∀ e∈U3 l,Q e.1 e.2
  | []=>by simp [Edg,U3]
  | [_]=>by simp [Edg,U3]
  |
   a::b::l=>by
   have ih:=Qbn (Q:=Q) (l:=b::l)
   have e:U3 (a::b::l)=(a,b)::U3 (b::l):=rfl
   rw [e]
   constructor
   · rintro ⟨h1,h2⟩ x hx
     rcases List.mem_cons.1 hx with rfl | hx
     · exact h1
     · exact ih.1 h2 x hx
   · intro h
     exact ⟨h (a,b) (by simp),ih.2 fun x hx=>h x (List.mem_cons_of_mem _ hx)⟩
theorem Em {α:Type} (f z:α) (A:List α):U3 (f::A++[z])=(f::A).zip (A++[z]):=by
  unfold U3
  rw [List.cons_append,List.drop_succ_cons,List.drop_zero]
  have:f::(A++[z])=(f::A)++[z]:=rfl
  rw [this]
  have h:A++[z]=(A++[z])++[]:=(List.append_nil _).symm
  conv=>lhs; rw [h]
  rw [List.zip_append (by simp)]
  simp
theorem Qd5 {f z:Pt} {A B:List Pt}:Zl ((f::A++[z]).dropLast++(z::B++[f]).dropLast)=U3 (f::A++[z])++U3 (z::B++[f]):=by
  rw [List.dropLast_concat,List.dropLast_concat,Em,Em,←List.zip_append (by simp)]
  unfold Zl
  congr 1
  simp
theorem Edg.rev {α:Type} {Q:α→α→Prop}:∀ {l:List α},Edg Q l→Edg (fun a b=>Q b a) l.reverse:=by
  have app:∀ {Q:α→α→Prop} {l:List α} {b a:α},Edg Q (l++[b])→Q b a→Edg Q (l++[b]++[a]):=by
    intro Q l
    induction l with
    | nil=>intro b a _ h; exact ⟨h,trivial⟩
    |
     cons x l ih =>
     intro b a h h2
     cases l with
     | nil=>exact ⟨h.1,ih h.2 h2⟩
     | cons y l=>exact ⟨h.1,ih h.2 h2⟩
  intro l
  induction l with
  | nil=>intro _; trivial
  |
   cons a l ih =>
   intro h
   cases l with
   | nil=>trivial
   |
    cons b l =>
    have:=ih h.2
    rw [List.reverse_cons] at this ⊢
    rw [List.reverse_cons]
    exact app this h.1
theorem Cnv.rev {α:Type} {R:α→α→α→Prop}:∀ {l:List α},Cnv R l→Cnv (fun a b c=>R c b a) l.reverse:=by
  have app:∀ {R:α→α→α→Prop} {l:List α} {c b a:α},Cnv R (l++[c,b])→R c b a→Cnv R (l++[c,b,a]):=by
    intro R l
    induction l with
    | nil=>intro c b a _ h; exact ⟨h,trivial⟩
    |
     cons x l ih =>
     intro c b a h h2
     cases l with
     | nil=>exact ⟨h.1,ih h.2 h2⟩
     |
      cons y l =>
      cases l with
      | nil=>exact ⟨h.1,ih h.2 h2⟩
      | cons w l=>exact ⟨h.1,ih h.2 h2⟩
  intro l
  induction l with
  | nil=>intro _; trivial
  |
   cons a l ih =>
   intro h
   match l,h with
   | [],_=>trivial
   | [_],_=>trivial
   |
    b::c::l,h =>
    have:=ih h.2
    rw [List.reverse_cons,List.reverse_cons,List.append_assoc] at this
    rw [List.reverse_cons,List.reverse_cons,List.reverse_cons,List.append_assoc,List.append_assoc]
    exact app this h.1
end Orq

namespace Orr
open Go Go.Proofs Orq
set_option maxRecDepth 10000
theorem Qjm {a b c:Pt} {t:Tm} (ha:Sc a.c) (hb:Sc b.c) (hc:Sc c.c) (ht:Va t):Qg Tryz.prog 132 [.one (.int .i64 3),.agg (ta t),.one (.row [Zt a,Zt b,Zt c])] [.agg (Pn (J8 (Zn t) a b c)),.one (.int .i64 0)]:=by
  have hp:=(Ny ha hb hc).dp
  have e:Pn (J8 (Zn t) a b c)=[.int .i64 3,.int .i64 a.id,.int .i64 b.id,.int .i64 c.id,.int .i64 0,pl (Zr a.c b.c c.c),.int .i64 (X5 (Zn t) (Zr a.c b.c c.c))]:=by rw [J8]
  rw [e]
  have cg:=Qju hp ht
  have cf:=Qdm ha hb hc
  generalize Zr a.c b.c c.c=F at *
  refine X4 Tryz.func132 rfl ?_
  refine go tt [.c [] Qmy,.f rfl] rfl trivial ?_
  refine lp (S:=Nat) 3 (fun L1 i=>(22,.v (.one (.int .i64 (i:Int))))::L1) (fun i=>[.blk 67 (ta t),.blk 161 zCt,.blk 161 [.int .i64 3,.int .i64 (if 1≤i then a.id else 0),.int .i64 (if 2≤i then b.id else 0),.int .i64 (if 3≤i then c.id else 0),.int .i64 0,.nils,.int .i64 0]]) (fun i=>3-i) (fun i=>i≤3) 0 (Nat.zero_le _) rfl (fun _ _=>rfl) rfl fun i hi=>?_
  rcases (show i=0∨i=1∨i=2∨i=3 by omega) with rfl | rfl | rfl | rfl
  · refine go tt [.t rfl,.x (i:=0) (xs:=Zt a) rfl,.i 0] rfl (by simp [Qa]) ?_
    exact rd 1 (by omega) (by omega) rfl
  · refine go tt [.t rfl,.x (i:=1) (xs:=Zt b) rfl,.i 1] rfl (by simp [Qa]) ?_
    exact rd 2 (by omega) (by omega) rfl
  · refine go tt [.t rfl,.x (i:=2) (xs:=Zt c) rfl,.i 2] rfl (by simp [Qa]) ?_
    exact rd 3 (by omega) (by omega) rfl
  · exact en tt [.f rfl,.f rfl,.f rfl,.t rfl,.x (i:=0) (xs:=Zt a) rfl,.x (i:=1) (xs:=Zt b) rfl,.x (i:=2) (xs:=Zt c) rfl,.c [] cf,.c [] cg] rfl rfl trivial
theorem Uz {α:Type} (s:α→α→α→Bool):∀ (l acc:List α) (c:α),Xv s acc (l++[c])=c::V6 s c (Xv s acc l)
  | [],_,_=>rfl
  | _::l,_,c=>Uz s l _ c
theorem Qjr {R:List Pt} {t:Tm} (hR:∀ p∈R,Sc p.c) (hn:R.length≤1000000) (ht:Va t):Qg Tryz.prog 217 [.agg (ta t),.one (pts R)] [.one (pts (Jb (Zn t) R))]:=by
  have hcl:=Xy R
  show Qg Tryz.prog 217 [.agg (ta t),.one (.row (Qi R))] [.one (.row (Qi (Xv (U6 (Zn t)) [] R).reverse))]
  obtain ⟨s,hs⟩:∃ s,s=U6 (Zn t):=⟨_,rfl⟩
  have hs':∀ a b c,s a b c=decide (0<X5 (Zn t) (Zr a.c b.c c.c)):=fun a b c=>by rw [hs]; rfl
  rw [←hs]
  refine X4 Tryz.func217 rfl ?_
  refine go tt [.o 5 35 5] rfl trivial ?_
  refine lp (S:=Nat) 2 (fun L1 i=>(10,.v (.one (.int .i64 (i:Int))))::(5,.v (.one (.orow 1 5 none)))::L1) (fun i=>[.blk 67 (ta t),.row false 35 5 (Qi (Xv s [] (R.take i)).reverse)]) (fun i=>R.length-i) (fun i=>i≤R.length) 0 (Nat.zero_le _) rfl (fun _ _=>rfl) rfl fun i hi=>?_
  by_cases hlt:i<R.length
  · obtain ⟨c,hc⟩:∃ c,R[i]? = some c:=⟨_,List.getElem?_eq_getElem hlt⟩
    have hcp:=hR c (List.mem_of_getElem? hc)
    have hst:Xv s [] (R.take (i+1))=c::V6 s c (Xv s [] (R.take i)):=by rw [List.take_succ,hc]; exact Uz s _ _ c
    obtain ⟨O,hO⟩:∃ O,O=Xv s [] (R.take i):=⟨_,rfl⟩
    have hOl:O.length≤1000000:=by
      have:=S8 s (R.take i) []
      rw [←hO,List.length_take] at this; simp at this; omega
    have hOm:∀ x∈O,Sc x.c:=fun x hx=>by
      rw [hO] at hx
      rcases S9 hx with h | h
      · cases h
      · exact hR x (List.mem_of_mem_take h)
    rw [←hO] at hst ⊢
    have hrl:(Qi O.reverse).length=O.length:=by rw [Xy,List.length_reverse]
    have hm:∀ y∈[Zt c],y.length=5:=fun y hy=>by rw [List.mem_singleton.1 hy]; rfl
    have hget:∀ {pre r:List Pt} {x:Pt},O=pre++x::r→∀ j,j=r.length→(Qi O.reverse)[j]? = some (Zt x):=fun {pre r x} e j hj=>by
      refine Je ?_
      rw [e,hj]; simp
    have hfin:∀ {pre st:List Pt},O=pre++st→Qi (c::st).reverse=(Qi O.reverse).take st.length++[Zt c]:=fun {pre st} e=>by
      rw [e]; simp [Qi,List.map_take,List.take_append]
    have hfull:Qi (c::O).reverse=Qi O.reverse++[Zt c]:=by simp [Qi]
    refine go tt [.t (by simp [hcl]; omega),.x (Je hc)] rfl trivial ?_
    refine lp (S:=Bool×List Pt) 3 (fun L1 s=>(5,.v (.one (.orow 1 5 (cond s.1 (some (0,s.2.length)) none))))::L1) (fun _=>[.blk 67 (ta t),.row false 35 5 (Qi O.reverse),.blk 35 (Zt c)]) (fun s=>s.2.length) (fun st=>(∃ pre,O=pre++st.2∧(st.1=false→pre=[]))∧V6 s c st.2=V6 s c O) (false,O) ⟨⟨[],rfl,fun _=>rfl⟩,rfl⟩ rfl (fun _ _=>rfl) rfl fun ⟨b,st⟩ ⟨⟨pre,h1,h2⟩,h3⟩=>?_
    have h1:O=pre++st:=h1
    have h3:V6 s c st=V6 s c O:=h3
    have hl1:O.length=pre.length+st.length:=by rw [h1,List.length_append]
    have fin:∀ {st:List Pt},O=pre++st→V6 s c st=V6 s c O→V6 s c st=st→Qi (Xv s [] (R.take (i+1))).reverse=(Qi O.reverse).take st.length++[Zt c]∧(pre=[]→Qi (Xv s [] (R.take (i+1))).reverse=Qi O.reverse++[Zt c]):=fun {st} e1 e2 e3=>by
      rw [hst,←e2,e3]
      refine ⟨hfin e1,fun hp=>?_⟩
      rw [hp] at e1
      rw [←hfull,e1]; rfl
    rcases st with _ | ⟨z,_ | ⟨y,r⟩⟩
    · obtain ⟨f1,f2⟩:=fin h1 h3 rfl
      cases b with
      |
       false =>
       have hp:=h2 rfl
       have f2:=f2 hp
       rw [hp] at hl1
       have hl2:(Qi O.reverse).length≤1:=by rw [hrl,hl1]; simp
       refine go tt [.g 17 false (decide_eq_false (by omega)),.f rfl,.s (sz:=5) hm] rfl (by simp [Qa]; omega) ?_
       exact rd (i+1) (by omega) hlt (by rw [f2]; rfl)
      |
       true =>
       refine go tt [.g 17 false (decide_eq_false (by simp)),.f rfl,.s (sz:=5) hm] rfl (by simp [Qa]; omega) ?_
       exact rd (i+1) (by omega) hlt (by rw [f1]; rfl)
    · obtain ⟨f1,f2⟩:=fin h1 h3 rfl
      cases b with
      |
       false =>
       have hp:=h2 rfl
       have f2:=f2 hp
       rw [hp] at hl1
       have hl2:(Qi O.reverse).length≤1:=by rw [hrl,hl1]; simp
       refine go tt [.g 17 false (decide_eq_false (by omega)),.f rfl,.s (sz:=5) hm] rfl (by simp [Qa]; omega) ?_
       exact rd (i+1) (by omega) hlt (by rw [f2]; rfl)
      |
       true =>
       refine go tt [.g 17 false (decide_eq_false (by simp)),.f rfl,.s (sz:=5) hm] rfl (by simp [Qa]; omega) ?_
       exact rd (i+1) (by omega) hlt (by rw [f1]; rfl)
    · have sz:=hOm z (by rw [h1]; simp)
      have sy:=hOm y (by rw [h1]; simp)
      have co:=Qdm sy sz hcp
      have cg:=Qju (Ny sy sz hcp).dp ht
      have gz:=hget h1 (r.length+1) rfl
      have gy:=hget (pre:=pre++[z]) (r:=r) (x:=y) (by rw [h1]; simp) r.length rfl
      have hl1:O.length=pre.length+(r.length+2):=hl1
      have hls:=hs' y z c
      by_cases hq:s y z c=true
      · have hg:¬X5 (Zn t) (Zr y.c z.c c.c)≤0:=by rw [hls] at hq; have:=of_decide_eq_true hq; omega
        obtain ⟨f1,f2⟩:=fin h1 h3 (by simp only [V6]; rw [if_pos hq])
        cases b with
        |
         false =>
         have hp:=h2 rfl
         have f2:=f2 hp
         rw [hp] at hl1
         have hl2:(Qi O.reverse).length=r.length+2:=by rw [hrl,hl1]; simp
         refine go tt [.g 17 true (decide_eq_true (by omega)),.r 21 (eI (b:=(r.length:Int)) (by omega)),.i r.length,.x gy,.r 28 (eI (b:=((r.length+1:Nat):Int)) (by omega)),.i (r.length+1),.x gz,.c [] co,.c [] cg,.f (decide_eq_false hg),.s (sz:=5) hm] rfl (by simp [Qa]; omega) ?_
         exact rd (i+1) (by omega) hlt (by rw [f2]; rfl)
        |
         true =>
         refine go tt [.g 17 true (decide_eq_true (by simp; omega)),.r 21 (eI (b:=(r.length:Int)) (by simp; omega)),.i r.length,.x (l:=Qi O.reverse) (i:=0+r.length) (xs:=Zt y) (by rw [Nat.zero_add]; exact gy),.r 28 (eI (b:=((r.length+1:Nat):Int)) (by simp)),.i (r.length+1),.x (l:=Qi O.reverse) (i:=0+(r.length+1)) (xs:=Zt z) (by rw [Nat.zero_add]; exact gz),.c [] co,.c [] cg,.f (decide_eq_false hg),.s (sz:=5) hm] rfl (by simp [Qa]; omega) ?_
         exact rd (i+1) (by omega) hlt (by rw [f1]; rfl)
      · have hg:X5 (Zn t) (Zr y.c z.c c.c)≤0:=by
          rw [hls] at hq; have:=of_decide_eq_false (Bool.eq_false_iff.2 hq); omega
        have hpop:V6 s c (y::r)=V6 s c O:=by rw [←h3]; simp only [V6]; rw [if_neg hq]
        have hin:(∃ pre',O=pre'++(y::r)∧((true:Bool)=false→pre'=[]))∧V6 s c (y::r)=V6 s c O:=⟨⟨pre++[z],by rw [h1]; simp,fun h=>by cases h⟩,hpop⟩
        cases b with
        |
         false =>
         have hp:=h2 rfl
         rw [hp] at hl1
         have hl2:(Qi O.reverse).length=r.length+2:=by rw [hrl,hl1]; simp
         refine go tt [.g 17 true (decide_eq_true (by omega)),.r 21 (eI (b:=(r.length:Int)) (by omega)),.i r.length,.x gy,.r 28 (eI (b:=((r.length+1:Nat):Int)) (by omega)),.i (r.length+1),.x gz,.c [] co,.c [] cg,.t (decide_eq_true hg),.r 42 (eI (b:=((r.length+1:Nat):Int)) (by omega)),.i (r.length+1)] rfl (by simp [Qa]; omega) ?_
         exact rd (true,y::r) (by simp) hin rfl
        |
         true =>
         refine go tt [.g 17 true (decide_eq_true (by simp; omega)),.r 21 (eI (b:=(r.length:Int)) (by simp; omega)),.i r.length,.x (l:=Qi O.reverse) (i:=0+r.length) (xs:=Zt y) (by rw [Nat.zero_add]; exact gy),.r 28 (eI (b:=((r.length+1:Nat):Int)) (by simp)),.i (r.length+1),.x (l:=Qi O.reverse) (i:=0+(r.length+1)) (xs:=Zt z) (by rw [Nat.zero_add]; exact gz),.c [] co,.c [] cg,.t (decide_eq_true hg),.r 42 (eI (b:=((r.length+1:Nat):Int)) (by simp)),.i (r.length+1)] rfl (by simp [Qa]; omega) ?_
         exact rd (true,y::r) (by simp) hin rfl
  · obtain rfl:i=R.length:=by omega
    rw [List.take_length]
    exact en tt [.f (by simp [hcl])] rfl rfl trivial
theorem Qha {sg:List Int→Int} {R:List Pt} (h:R≠[]):0<(Jb sg R).length:=by
  unfold Jb
  rw [List.length_reverse]
  obtain ⟨x,hx⟩:∃ x,R.getLast? = some x:=⟨_,List.getLast?_eq_some_getLast h⟩
  obtain ⟨l,hl⟩:=List.getLast?_eq_some_iff.1 hx
  rw [hl,Uz]; simp
theorem Qfh {α:Type} (s:α→α→α→Bool) (c:α):∀ {st:List α},st≠[]→0<(V6 s c st).length
  | [],h=>absurd rfl h
  | [_],_=>by simp [V6]
  |
   b::a::r,_=>by
   simp only [V6]
   split
   · simp
   · exact Qfh s c (by simp)
theorem Eg {sg:List Int→Int} {R:List Pt} (h:2≤R.length):2≤(Jb sg R).length:=by
  unfold Jb
  rw [List.length_reverse]
  obtain ⟨x,hx⟩:∃ x,R.getLast? = some x:=⟨_,List.getLast?_eq_some_getLast (by intro e; rw [e] at h; simp at h)⟩
  obtain ⟨l,hl⟩:=List.getLast?_eq_some_iff.1 hx
  have hl0:l≠[]:=by intro e; rw [hl,e] at h; simp at h
  have:=Qha (sg:=sg) hl0
  unfold Jb at this
  rw [List.length_reverse] at this
  have:=Qfh (U6 sg) x (st:=Xv (U6 sg) [] l) (by intro e; rw [e] at this; simp at this)
  rw [hl,Uz,List.length_cons]; omega
theorem Qjw {R:List Pt} {t:Tm} (hR:∀ p∈R,Sc p.c) (hn:R.length≤1000000) (ht:Va t):Qg Tryz.prog 168 [.agg (ta t),.one (pts R)] [.one (pts (Vw (Zn t) R))]:=by
  have hcl:=Xy R
  have hrl:=Xy R.reverse
  rw [List.length_reverse] at hrl
  show Qg Tryz.prog 168 [.agg (ta t),.one (.row (Qi R))] [.one (.row (Qi (Vw (Zn t) R)))]
  refine X4 Tryz.func168 rfl ?_
  by_cases h3:R.length<3
  · have e:Vw (Zn t) R=R:=if_pos h3
    rw [e]
    exact en tt [.t (decide_eq_true (by omega))] rfl rfl trivial
  have c1:=Qjr hR hn ht
  have c2:=Qjr (R:=R.reverse) (fun p hp=>hR p (List.mem_reverse.1 hp)) (by rw [List.length_reverse]; exact hn) ht
  have p1:=Eg (sg:=Zn t) (R:=R) (by omega)
  have p2:=Eg (sg:=Zn t) (R:=R.reverse) (by rw [List.length_reverse]; omega)
  have k1:=G0 (Zn t) R
  have k2:=G0 (Zn t) R.reverse
  rw [List.length_reverse] at k2
  refine go tt [.f (decide_eq_false (by omega)),.o 5 35 5,.r 15 (eI (b:=(R.length:Int)-1-((0:Nat):Int)) (by omega))] rfl (by simp [Qa,hcl]; omega) ?_
  refine lp (S:=Nat) 2 (fun L1 j=>(6,.v (.one (.int .i64 ((R.length:Int)-1-(j:Int)))))::(5,.v (.one (.orow 1 5 none)))::L1) (fun j=>[.blk 67 (ta t),.row false 35 5 (Qi (R.reverse.take j))]) (fun j=>R.length-j) (fun j=>j≤R.length) 0 (Nat.zero_le _) rfl (fun _ _=>rfl) rfl fun j hj=>?_
  by_cases hlt:j<R.length
  · obtain ⟨x,hx⟩:∃ x,R[R.length-1-j]? = some x:=⟨_,List.getElem?_eq_getElem (by omega)⟩
    have hx':R.reverse[j]? = some x:=by rw [List.getElem?_reverse (by omega)]; exact hx
    have hm:∀ y∈[Zt x],y.length=5:=fun y hy=>by rw [List.mem_singleton.1 hy]; rfl
    have e:Qi (R.reverse.take (j+1))=Qi (R.reverse.take j)++[Zt x]:=by rw [List.take_succ,hx']; simp [Qi]
    have htl:(Qi (R.reverse.take j)).length=j:=by rw [Xy,List.length_take,List.length_reverse]; omega
    refine go tt [.t (decide_eq_true (by omega)),.r 22 (eI (b:=((R.length-1-j:Nat):Int)) (by omega)),.x (Je hx),.s (sz:=5) hm,.r 19 (eI (b:=(R.length:Int)-1-((j+1:Nat):Int)) (by omega))] rfl (by simp [Qa,htl]; omega) ?_
    exact rd (j+1) (by omega) hlt (by rw [e]; rfl)
  · obtain rfl:j=R.length:=by omega
    rw [List.take_of_length_le (by rw [List.length_reverse]; exact Nat.le_refl _)]
    obtain ⟨A,hA⟩:∃ A,A=Jb (Zn t) R:=⟨_,rfl⟩
    obtain ⟨C,hC⟩:∃ C,C=Jb (Zn t) R.reverse:=⟨_,rfl⟩
    have e:Vw (Zn t) R=A.dropLast++C.dropLast:=by rw [hA,hC]; exact if_neg h3
    rw [←hA] at c1 p1 k1
    rw [←hC] at c2 p2 k2
    rw [e]
    have hs:∀ y∈(C.map Zt).take (C.length-1),y.length=5:=fun y hy=>Qcp C y (List.mem_of_mem_take hy)
    have hs2:∀ y∈(A.map Zt).take (A.length-1),y.length=5:=fun y hy=>Qcp A y (List.mem_of_mem_take hy)
    refine en tt [.f (decide_eq_false (by omega)),.p 1,.c [] c1,.c [] c2,.r 36 (eI (b:=((A.length-1:Nat):Int)) (by simp; omega)),.r 39 (eI (b:=((A.length-1:Nat):Int)) (by simp; omega)),.i (A.length-1),.r 44 (eI (b:=((C.length-1:Nat):Int)) (by simp; omega)),.i (C.length-1),.s (sz:=5) hs] rfl (by simp [Qi,List.map_take,List.dropLast_eq_take]) ?_
    simp only [Qa,List.length_take,List.length_map]
    and_intros <;> first | exact hs2 | omega
end Orr

namespace Orr
open Go Go.Proofs Orq
set_option maxRecDepth 10000
theorem Cm {l:List Pt} {t:Tm} (hl:∀ p∈l,Sc p.c) (hn:l.length≤1000000) (ht:Va t):Xf Tryz.prog 155 [.agg (ta t),.one (pts l)] [] [.one (.orow 0 7 none)] [.row false 161 7 (Q4 (Ys (Zn t) l))]:=by
  have hcl:=Xy l
  show Xf Tryz.prog 155 [.agg (ta t),.one (.row (Qi l))] [] [.one (.orow 0 7 none)] [.row false 161 7 (Q4 (Ys (Zn t) l))]
  refine X4 Tryz.func155 rfl ?_
  refine go tt [.o 5 161 7] rfl trivial ?_
  refine lp (S:=Nat) 2 (fun L1 i=>(6,.v (.one (.int .i64 ((i+1:Nat):Int))))::(5,.v (.one (.orow 1 7 none)))::L1) (fun i=>[.blk 67 (ta t),.row false 161 7 (Q4 ((Ys (Zn t) l).take i))]) (fun i=>l.length-i) (fun i=>i≤l.length-1) 0 (Nat.zero_le _) rfl (fun _ _=>rfl) rfl fun i hi=>?_
  by_cases hlt:i+1<l.length
  · obtain ⟨a,ha⟩:∃ a,l[i]? = some a:=⟨_,List.getElem?_eq_getElem (by omega)⟩
    obtain ⟨b,hb⟩:∃ b,l[i+1]? = some b:=⟨_,List.getElem?_eq_getElem hlt⟩
    have hg:=Qae (Zn t) ha hb
    have hm:∀ y∈[Pn (Tx (Zn t) a b)],y.length=7:=fun y hy=>by rw [List.mem_singleton.1 hy]; rfl
    refine go tt [.t (by simp [hcl]; omega),.r 19 (eI (b:=(i:Int)) (by simp)),.x (Je ha),.x (Je hb),.c [] (Quy (hl a (List.mem_of_getElem? ha)) (hl b (List.mem_of_getElem? hb)) ht),.s (sz:=7) hm,.r 14 (eI (b:=((i+1+1:Nat):Int)) (by simp))] rfl (by simp [Qa,Xy,Ug,Ub]; omega) ?_
    exact rd (i+1) (by omega) (by omega) (by rw [hg]; simp [Q4]; rfl)
  · have e:(Ys (Zn t) l).take i=Ys (Zn t) l:=List.take_of_length_le (by rw [Ub]; omega)
    rw [e]
    exact ed tt [] [1] [.f (by simp [hcl]; omega)] rfl trivial
theorem Cu {C:List Pt} {i:Nat} {a b:Pt} (ha:C[i]? = some a) (hb:C[(i+1) % C.length]? = some b):(Zl C)[i]? = some (a,b):=by
  have hi:=(List.getElem?_eq_some_iff.1 ha).1
  unfold Zl
  rw [List.getElem?_zip_eq_some]
  refine ⟨ha,?_⟩
  by_cases h:i+1<C.length
  · rw [Nat.mod_eq_of_lt h] at hb
    rw [List.getElem?_append_left (by rw [List.length_drop]; omega),List.getElem?_drop,Nat.add_comm]; exact hb
  · have e:i+1=C.length:=by omega
    rw [e,Nat.mod_self] at hb
    rw [List.getElem?_append_right (by rw [List.length_drop]; omega),List.length_drop,show i-(C.length-1)=0 by omega,List.getElem?_take_of_lt (by omega)]; exact hb
theorem Cv (C:List Pt):(Zl C).length=C.length:=by
  unfold Zl
  rw [List.length_zip,List.length_append,List.length_drop,List.length_take]; omega
theorem Tg {α β:Type} {f:α→List β} {l:List α} {i:Nat} {x:α} (h:l[i]? = some x):(l.take (i+1)).flatMap f=(l.take i).flatMap f++f x:=by
  rw [List.take_succ,h]; simp
theorem Gs {α β:Type} {f:α→β} {p:α→Bool} {l:List α} {i:Nat} {x:α} (h:l[i]? = some x):((l.take (i+1)).filter p).map f=((l.take i).filter p).map f++if p x=true then [f x] else []:=by
  rw [List.take_succ,h,List.filter_append,List.map_append]
  congr 1
  simp only [Option.toList]
  by_cases hp:p x=true
  · rw [if_pos hp,List.filter_cons_of_pos hp]; rfl
  · rw [if_neg hp,List.filter_cons_of_neg hp]; rfl
theorem Cy {α β:Type} {f:α→List β} {n:Nat} (hf:∀ x,(f x).length≤n) (l:List α):(l.flatMap f).length≤l.length*n:=Pd f n l fun x _=>hf x
theorem Qmj {l:List Pt} (hl:∀ p∈l,Sc p.c):∀ p∈l,Qgp 4294967294 1073741824 p:=fun p hp=>⟨(hl p hp).n,(hl p hp).c.mono (by decide) (by decide)⟩
set_option maxHeartbeats 4000000 in
theorem Qmu {l:List Pt} {a:Tm} {c:Cr} {r1:List (List LV)} (hl:∀ p∈l,Sc p.c) (hn:l.length≤10) (ha:Va a):Xf Tryz.prog 113 [.one (.ow 0 0),.agg (ta a)] [.blk 182 (Ff c (Qi l) r1)] [.one (.row (Q4 (bcH l a)))] [.blk 182 (Ff c (Qi l) (brH l a))]:=by
  have hwl:=Im l
  have cw:=Qpc (l:=l) (Qmj hl) (by omega)
  have cr:=Qjp (l:=ways l) (fun p hp=>hl p (Yd hp)) (by omega) ha
  have cn:=Qjw (R:=Jm a (ways l)) (fun p hp=>hl p (Yd (Zh.1 hp))) (by rw [K0]; omega) ha
  have cr2:=Qjp hl (by omega) ha
  have cc:=Cm (l:=Jm a l) (t:=a) (fun p hp=>hl p (Zh.1 hp)) (by rw [K0]; omega) ha
  have hCm:∀ p∈Z1 l a,p∈l:=fun p hp=>W3 hp
  have hCl:=Tq l a
  have e0:bcH l a=bcS l a++Jx (Zn a) l (Z1 l a):=rfl
  rw [e0]
  show Xf Tryz.prog 113 _ _ _ [.blk 182 (Ff c (Qi l) (Qi (Z1 l a)))]
  have cn:Qg Tryz.prog 168 [.agg (ta a),.one (pts (Jm a (ways l)))] [.one (pts (Z1 l a))]:=cn
  have cc:Xf Tryz.prog 155 [.agg (ta a),.one (pts (Jm a l))] [] [.one (.orow 0 7 none)] [.row false 161 7 (Q4 (bcS l a))]:=cc
  have hbl:(bcS l a).length≤10:=by unfold bcS; rw [Ub,K0]; omega
  obtain ⟨C,hC⟩:∃ C,C=Z1 l a:=⟨_,rfl⟩
  obtain ⟨cs0,hc0⟩:∃ cs0,cs0=bcS l a:=⟨_,rfl⟩
  rw [←hC] at cn hCm hCl ⊢
  rw [←hc0] at cc hbl ⊢
  have hcp:=Xy C
  have hlp:=Xy l
  have eel:∀ x,(Jo (Zn a) l x).length≤l.length:=fun x=>by unfold Jo; rw [List.length_map]; exact List.length_filter_le _ _
  refine X4 Tryz.func113 rfl ?_
  refine go tt [.c [] cw,.c [] cr,.c [] cn,.c [] Qa3,.c [] cr2,.c [2] cc] rfl trivial ?_
  by_cases h2:C.length<2
  · have e:Jx (Zn a) l C=[]:=if_pos h2
    rw [e,List.append_nil]
    exact ed tt [2] [0] [.t (decide_eq_true (by simp; omega))] rfl trivial
  have e:Jx (Zn a) l C=(Zl C).flatMap (Jo (Zn a) l):=if_neg h2
  rw [e]
  refine go tt [.f (decide_eq_false (by simp; omega))] rfl trivial ?_
  refine sb [(48,.v (.one (.int .i64 0))),(47,.v (.one (.int .i64 ((C.map Zt).length:Int)))),(46,.v (.one (pts C))),(6,.v (.one (.orow 2 7 none))),(3,.v (.one (.ow 1 0))),(0,.v (.one (.ow 0 0)))] [.blk 182 (Ff c (Qi l) (Qi C)),.blk 67 (ta a),.row false 161 7 (Q4 cs0)] rfl rfl ?_
  rw [show Q4 cs0=Q4 (cs0++((Zl C).take 0).flatMap (Jo (Zn a) l)) by simp]
  refine lp (S:=Nat) 3 (fun L1 i=>(48,.v (.one (.int .i64 (i:Int))))::(6,.v (.one (.orow 2 7 none)))::L1) (fun i=>[.blk 182 (Ff c (Qi l) (Qi C)),.blk 67 (ta a),.row false 161 7 (Q4 (cs0++((Zl C).take i).flatMap (Jo (Zn a) l)))]) (fun i=>C.length-i) (fun i=>i≤C.length) 0 (Nat.zero_le _) rfl (fun _ _=>rfl) rfl fun i hi=>?_
  by_cases hlt:i<C.length
  · obtain ⟨x,hx⟩:∃ x,C[i]? = some x:=⟨_,List.getElem?_eq_getElem hlt⟩
    obtain ⟨y,hy⟩:∃ y,C[(i+1) % C.length]? = some y:=⟨_,List.getElem?_eq_getElem (Nat.mod_lt _ (by omega))⟩
    have he:=Cu hx hy
    have sx:=hl x (hCm x (List.mem_of_getElem? hx))
    have sy:=hl y (hCm y (List.mem_of_getElem? hy))
    have hflat:=Tg (f:=Jo (Zn a) l) he
    obtain ⟨F,hF⟩:∃ F,F=cs0++((Zl C).take i).flatMap (Jo (Zn a) l):=⟨_,rfl⟩
    have hFl:F.length≤10+20*10:=by
      have h1:=Cy eel ((Zl C).take i)
      have h2:((Zl C).take i).length*l.length≤20*10:=Nat.mul_le_mul (by rw [List.length_take]; omega) hn
      rw [hF,List.length_append]; omega
    have hmod:(((i+1:Nat):Int)).tmod ((C.map Zt).length:Int)=(((i+1) % C.length:Nat):Int):=by rw [List.length_map]; exact (Int.ofNat_tmod _ _).symm
    have hm0:=Int.emod_nonneg ((i+1:Nat):Int) (show (C.length:Int)≠0 by omega)
    have hm1:=Int.emod_lt_of_pos ((i+1:Nat):Int) (show (0:Int)<C.length by omega)
    have hnext:cs0++((Zl C).take (i+1)).flatMap (Jo (Zn a) l)=F++(l.filter (V5 (x,y))).map fun c=>J8 (Zn a) x y c:=by rw [hflat,←List.append_assoc,←hF]; rfl
    rw [←hF]
    refine go tt [.t (decide_eq_true (by simp; omega)),.x (Je hx),.r 58 (eI (b:=((i+1:Nat):Int)) (by simp)),.r 64 (eI (b:=(((i+1) % C.length:Nat):Int)) hmod),.x (Je hy),.c [] Qa3] rfl (by simp only [Qa]; omega) ?_
    rw [show Q4 F=Q4 (F++((l.take 0).filter (V5 (x,y))).map fun c=>J8 (Zn a) x y c) by simp]
    refine lp (S:=Nat) 5 (fun L1 k=>(73,.v (.one (.int .i64 (k:Int))))::(6,.v (.one (.orow 2 7 none)))::L1) (fun k=>[.blk 182 (Ff c (Qi l) (Qi C)),.blk 67 (ta a),.row false 161 7 (Q4 (F++((l.take k).filter (V5 (x,y))).map fun c=>J8 (Zn a) x y c)),.blk 35 (Zt x),.blk 35 (Zt y)]) (fun k=>l.length-k) (fun k=>k≤l.length) 0 (Nat.zero_le _) rfl (fun _ _=>rfl) rfl fun k hk=>?_
    by_cases hlk:k<l.length
    · obtain ⟨z,hz⟩:∃ z,l[k]? = some z:=⟨_,List.getElem?_eq_getElem hlk⟩
      have sz:=hl z (List.mem_of_getElem? hz)
      have hflt:=Gs (f:=fun c=>J8 (Zn a) x y c) (p:=V5 (x,y)) hz
      obtain ⟨G,hG⟩:∃ G,G=((l.take k).filter (V5 (x,y))).map fun c=>J8 (Zn a) x y c:=⟨_,rfl⟩
      have hGl:G.length≤10:=by
        have h1:=List.length_filter_le (V5 (x,y)) (l.take k)
        rw [List.length_take] at h1
        rw [hG,List.length_map]; omega
      rw [←hG] at hflt ⊢
      by_cases h1:z.id=x.id
      · rw [if_neg (show ¬V5 (x,y) z=true by simp [V5,h1]),List.append_nil] at hflt
        refine go tt [.t (decide_eq_true (by simp; omega)),.x (Je hz),.g 82 false (decide_eq_false (by simp [h1])),.f rfl] rfl (by simp [Qa]; omega) ?_
        exact rd (k+1) (by omega) hlk (by rw [hflt]; rfl)
      · by_cases h2:z.id=y.id
        · rw [if_neg (show ¬V5 (x,y) z=true by simp [V5,h2]),List.append_nil] at hflt
          refine go tt [.t (decide_eq_true (by simp; omega)),.x (Je hz),.g 82 true (decide_eq_true h1),.f (decide_eq_false (by simp [h2]))] rfl (by simp [Qa]; omega) ?_
          exact rd (k+1) (by omega) hlk (by rw [hflt]; rfl)
        · rw [if_pos (show V5 (x,y) z=true by simp [V5,h1,h2])] at hflt
          have hm:∀ q∈[Pn (J8 (Zn a) x y z)],q.length=7:=fun q hq=>by rw [List.mem_singleton.1 hq]; rfl
          refine go tt [.t (decide_eq_true (by simp; omega)),.x (Je hz),.g 82 true (decide_eq_true h1),.t (decide_eq_true h2),.c [] (Qjm sx sy sz ha),.s (sz:=7) hm] rfl (by simp [Qa,Ug]; omega) ?_
          have e3:Q4 (F++(G++[J8 (Zn a) x y z]))=Q4 (F++G)++[Pn (J8 (Zn a) x y z)]:=by simp [Q4]
          exact rd (k+1) (by omega) hlk (by rw [hflt,e3]; rfl)
    · obtain rfl:k=l.length:=by omega
      rw [List.take_length,←hnext]
      refine go tt [.f (decide_eq_false (by simp))] rfl (by simp [Qa]; omega) ?_
      exact rd (i+1) (by omega) hlt rfl
  · obtain rfl:i=C.length:=by omega
    rw [List.take_of_length_le (by rw [Cv]; exact Nat.le_refl _)]
    exact ed tt [2] [0] [.f (decide_eq_false (by simp))] rfl trivial
set_option maxHeartbeats 4000000 in
theorem Qmt {l:List Pt} {a:Tm} (hl:∀ p∈l,Sc p.c) (hn:l.length≤10) (ha:Va a):Xf Tryz.prog 113 [.one (.ow 0 0),.agg (ta a)] [.blk 182 (crz (.row (Qi l)) .nils)] [.one (.row (Q4 (bcH l a)))] [.blk 182 (crz (.row (Qi l)) (.row (brH l a)))]:=by
  have hwl:=Im l
  have cw:=Qpc (l:=l) (Qmj hl) (by omega)
  have cr:=Qjp (l:=ways l) (fun p hp=>hl p (Yd hp)) (by omega) ha
  have cn:=Qjw (R:=Jm a (ways l)) (fun p hp=>hl p (Yd (Zh.1 hp))) (by rw [K0]; omega) ha
  have cr2:=Qjp hl (by omega) ha
  have cc:=Cm (l:=Jm a l) (t:=a) (fun p hp=>hl p (Zh.1 hp)) (by rw [K0]; omega) ha
  have hCm:∀ p∈Z1 l a,p∈l:=fun p hp=>W3 hp
  have hCl:=Tq l a
  have e0:bcH l a=bcS l a++Jx (Zn a) l (Z1 l a):=rfl
  rw [e0]
  show Xf Tryz.prog 113 _ _ _ [.blk 182 (crz (.row (Qi l)) (.row (Qi (Z1 l a))))]
  have cn:Qg Tryz.prog 168 [.agg (ta a),.one (pts (Jm a (ways l)))] [.one (pts (Z1 l a))]:=cn
  have cc:Xf Tryz.prog 155 [.agg (ta a),.one (pts (Jm a l))] [] [.one (.orow 0 7 none)] [.row false 161 7 (Q4 (bcS l a))]:=cc
  have hbl:(bcS l a).length≤10:=by unfold bcS; rw [Ub,K0]; omega
  obtain ⟨C,hC⟩:∃ C,C=Z1 l a:=⟨_,rfl⟩
  obtain ⟨cs0,hc0⟩:∃ cs0,cs0=bcS l a:=⟨_,rfl⟩
  rw [←hC] at cn hCm hCl ⊢
  rw [←hc0] at cc hbl ⊢
  have hcp:=Xy C
  have hlp:=Xy l
  have eel:∀ x,(Jo (Zn a) l x).length≤l.length:=fun x=>by unfold Jo; rw [List.length_map]; exact List.length_filter_le _ _
  refine X4 Tryz.func113 rfl ?_
  refine go tt [.c [] cw,.c [] cr,.c [] cn,.c [] Qa3,.c [] cr2,.c [2] cc] rfl trivial ?_
  by_cases h2:C.length<2
  · have e:Jx (Zn a) l C=[]:=if_pos h2
    rw [e,List.append_nil]
    exact ed tt [2] [0] [.t (decide_eq_true (by simp; omega))] rfl trivial
  have e:Jx (Zn a) l C=(Zl C).flatMap (Jo (Zn a) l):=if_neg h2
  rw [e]
  refine go tt [.f (decide_eq_false (by simp; omega))] rfl trivial ?_
  refine sb [(48,.v (.one (.int .i64 0))),(47,.v (.one (.int .i64 ((C.map Zt).length:Int)))),(46,.v (.one (pts C))),(6,.v (.one (.orow 2 7 none))),(3,.v (.one (.ow 1 0))),(0,.v (.one (.ow 0 0)))] [.blk 182 (crz (.row (Qi l)) (.row (Qi C))),.blk 67 (ta a),.row false 161 7 (Q4 cs0)] rfl rfl ?_
  rw [show Q4 cs0=Q4 (cs0++((Zl C).take 0).flatMap (Jo (Zn a) l)) by simp]
  refine lp (S:=Nat) 3 (fun L1 i=>(48,.v (.one (.int .i64 (i:Int))))::(6,.v (.one (.orow 2 7 none)))::L1) (fun i=>[.blk 182 (crz (.row (Qi l)) (.row (Qi C))),.blk 67 (ta a),.row false 161 7 (Q4 (cs0++((Zl C).take i).flatMap (Jo (Zn a) l)))]) (fun i=>C.length-i) (fun i=>i≤C.length) 0 (Nat.zero_le _) rfl (fun _ _=>rfl) rfl fun i hi=>?_
  by_cases hlt:i<C.length
  · obtain ⟨x,hx⟩:∃ x,C[i]? = some x:=⟨_,List.getElem?_eq_getElem hlt⟩
    obtain ⟨y,hy⟩:∃ y,C[(i+1) % C.length]? = some y:=⟨_,List.getElem?_eq_getElem (Nat.mod_lt _ (by omega))⟩
    have he:=Cu hx hy
    have sx:=hl x (hCm x (List.mem_of_getElem? hx))
    have sy:=hl y (hCm y (List.mem_of_getElem? hy))
    have hflat:=Tg (f:=Jo (Zn a) l) he
    obtain ⟨F,hF⟩:∃ F,F=cs0++((Zl C).take i).flatMap (Jo (Zn a) l):=⟨_,rfl⟩
    have hFl:F.length≤10+20*10:=by
      have h1:=Cy eel ((Zl C).take i)
      have h2:((Zl C).take i).length*l.length≤20*10:=Nat.mul_le_mul (by rw [List.length_take]; omega) hn
      rw [hF,List.length_append]; omega
    have hmod:(((i+1:Nat):Int)).tmod ((C.map Zt).length:Int)=(((i+1) % C.length:Nat):Int):=by rw [List.length_map]; exact (Int.ofNat_tmod _ _).symm
    have hm0:=Int.emod_nonneg ((i+1:Nat):Int) (show (C.length:Int)≠0 by omega)
    have hm1:=Int.emod_lt_of_pos ((i+1:Nat):Int) (show (0:Int)<C.length by omega)
    have hnext:cs0++((Zl C).take (i+1)).flatMap (Jo (Zn a) l)=F++(l.filter (V5 (x,y))).map fun c=>J8 (Zn a) x y c:=by rw [hflat,←List.append_assoc,←hF]; rfl
    rw [←hF]
    refine go tt [.t (decide_eq_true (by simp; omega)),.x (Je hx),.r 58 (eI (b:=((i+1:Nat):Int)) (by simp)),.r 64 (eI (b:=(((i+1) % C.length:Nat):Int)) hmod),.x (Je hy),.c [] Qa3] rfl (by simp only [Qa]; omega) ?_
    rw [show Q4 F=Q4 (F++((l.take 0).filter (V5 (x,y))).map fun c=>J8 (Zn a) x y c) by simp]
    refine lp (S:=Nat) 5 (fun L1 k=>(73,.v (.one (.int .i64 (k:Int))))::(6,.v (.one (.orow 2 7 none)))::L1) (fun k=>[.blk 182 (crz (.row (Qi l)) (.row (Qi C))),.blk 67 (ta a),.row false 161 7 (Q4 (F++((l.take k).filter (V5 (x,y))).map fun c=>J8 (Zn a) x y c)),.blk 35 (Zt x),.blk 35 (Zt y)]) (fun k=>l.length-k) (fun k=>k≤l.length) 0 (Nat.zero_le _) rfl (fun _ _=>rfl) rfl fun k hk=>?_
    by_cases hlk:k<l.length
    · obtain ⟨z,hz⟩:∃ z,l[k]? = some z:=⟨_,List.getElem?_eq_getElem hlk⟩
      have sz:=hl z (List.mem_of_getElem? hz)
      have hflt:=Gs (f:=fun c=>J8 (Zn a) x y c) (p:=V5 (x,y)) hz
      obtain ⟨G,hG⟩:∃ G,G=((l.take k).filter (V5 (x,y))).map fun c=>J8 (Zn a) x y c:=⟨_,rfl⟩
      have hGl:G.length≤10:=by
        have h1:=List.length_filter_le (V5 (x,y)) (l.take k)
        rw [List.length_take] at h1
        rw [hG,List.length_map]; omega
      rw [←hG] at hflt ⊢
      by_cases h1:z.id=x.id
      · rw [if_neg (show ¬V5 (x,y) z=true by simp [V5,h1]),List.append_nil] at hflt
        refine go tt [.t (decide_eq_true (by simp; omega)),.x (Je hz),.g 82 false (decide_eq_false (by simp [h1])),.f rfl] rfl (by simp [Qa]; omega) ?_
        exact rd (k+1) (by omega) hlk (by rw [hflt]; rfl)
      · by_cases h2:z.id=y.id
        · rw [if_neg (show ¬V5 (x,y) z=true by simp [V5,h2]),List.append_nil] at hflt
          refine go tt [.t (decide_eq_true (by simp; omega)),.x (Je hz),.g 82 true (decide_eq_true h1),.f (decide_eq_false (by simp [h2]))] rfl (by simp [Qa]; omega) ?_
          exact rd (k+1) (by omega) hlk (by rw [hflt]; rfl)
        · rw [if_pos (show V5 (x,y) z=true by simp [V5,h1,h2])] at hflt
          have hm:∀ q∈[Pn (J8 (Zn a) x y z)],q.length=7:=fun q hq=>by rw [List.mem_singleton.1 hq]; rfl
          refine go tt [.t (decide_eq_true (by simp; omega)),.x (Je hz),.g 82 true (decide_eq_true h1),.t (decide_eq_true h2),.c [] (Qjm sx sy sz ha),.s (sz:=7) hm] rfl (by simp [Qa,Ug]; omega) ?_
          have e3:Q4 (F++(G++[J8 (Zn a) x y z]))=Q4 (F++G)++[Pn (J8 (Zn a) x y z)]:=by simp [Q4]
          exact rd (k+1) (by omega) hlk (by rw [hflt,e3]; rfl)
    · obtain rfl:k=l.length:=by omega
      rw [List.take_length,←hnext]
      refine go tt [.f (decide_eq_false (by simp))] rfl (by simp [Qa]; omega) ?_
      exact rd (i+1) (by omega) hlt rfl
  · obtain rfl:i=C.length:=by omega
    rw [List.take_of_length_le (by rw [Cv]; exact Nat.le_refl _)]
    exact ed tt [2] [0] [.f (decide_eq_false (by simp))] rfl trivial
end Orr

namespace Orq
open Orr Go
section
variable {α:Type} {lt lt':α→α→Bool}
theorem A7 {out:List α} {x:α} (h:∀ y∈out,lt x y=lt' x y):∀ k,Wc lt out x k=Wc lt' out x k
  | 0=>rfl
  |
   k+1=>by
   simp only [Wc]
   cases hy:out[k]? with
   | none=>rfl
   | some y=>simp only [h y (List.mem_of_getElem? hy),A7 h k]
theorem Cz {l:List α} (h:∀ u∈l,∀ v∈l,lt u v=lt' u v):∀ (m out:List α),(∀ x∈m,x∈l)→(∀ x∈out,x∈l)→m.foldl (K9 lt) out=m.foldl (K9 lt') out
  | [],_,_,_=>rfl
  |
   x::m,out,h1,h2=>by
   have e:K9 lt out x=K9 lt' out x:=by
     unfold K9; rw [A7 fun y hy=>h x (h1 x (by simp)) y (h2 y hy)]
   simp only [List.foldl_cons]
   rw [e]
   exact Cz h m _ (fun y hy=>h1 y (List.mem_cons_of_mem _ hy)) fun y hy=>by
     rcases Mk.1 hy with rfl | hy
     · exact h1 _ (by simp)
     · exact h2 y hy
end
theorem Qil {a:Tm} {l:List Pt} {q:Rat} (hb:∀ u∈l,∀ v∈l,(Xu (Zn a) u v=true↔V4 q u v)) (hd:l.Pairwise fun x y=>x.id≠y.id):(Jm a l).Pairwise (V4 q) :=
  E6 (S:=fun x=>x∈l) (D:=fun x y=>x.id≠y.id) (Tw q) (fun u v hu hv h=>(hb u hu v hv).1 h) (fun u v hu hv hne h=>Qer (fun e=>hne e.symm) fun h'=>by
    rw [(hb u hu v hv).2 h'] at h; cases h) l [] .nil (fun x hx=>by cases hx) (fun x hx=>hx) hd (fun x hx=>by cases hx)
theorem Q0d {a:Tm} (ha:Va a) {u v:Pt} (hu:Sc u.c) (hv:Sc v.c) {q:Rat} (h1:X5 (Zn a) (Jd u.c v.c)=Qk (Qf (Jd u.c v.c) q)) (h2:X5 (Zn a) (Jg u.c v.c)=Qk (Qf (Jg u.c v.c) q)) (hne:u.c≠v.c) (h:V4 q u v):lx (px · q) (py · q) u v:=by
  rcases h with h | ⟨h,h3⟩
  · exact .inl h
  rcases h3 with h3 | ⟨h3,_⟩
  · exact .inr ⟨h,h3⟩
  · exfalso
    rw [Qaj hu hv] at h1
    rw [Qah hu hv] at h2
    have z1:Qk (px v q-px u q)=0:=Q0.2 (by grind)
    have z2:Qk (py v q-py u q)=0:=Q0.2 (by grind)
    rw [z1] at h1
    rw [z2] at h2
    have e1:(Jd u.c v.c).length=0:=Decidable.byContradiction fun e=>(Ha ha (H9 hu hv).dp e).2 h1
    have e2:(Jg u.c v.c).length=0:=Decidable.byContradiction fun e=>(Ha ha (H8 hu hv).dp e).2 h2
    exact hne (Qwl hu.n hv.n (List.eq_nil_of_length_eq_zero e1) (List.eq_nil_of_length_eq_zero e2))
structure LowC (X Y:Pt→Rat) (R L:List Pt):Prop where
  hd:L.head? = R.head?
  la:L.getLast? = R.getLast?
  srt:L.Pairwise (lx X Y)
  mem:∀ p∈L,p∈R
  edg:Edg (fun a b=>∀ p∈R,0≤Yq X Y a b p) L
  cnv:Cnv (fun a b c=>0<Yq X Y a b c) L
theorem I8 {X Y:Pt→Rat} {sg:List Int→Int} {R:List Pt} (hs:∀ a∈R,∀ b∈R,∀ c∈R,(U6 sg a b c=true↔0<Yq X Y a b c)) (hR:R.Pairwise (lx X Y)) (h0:R≠[]):LowC X Y R (Jb sg R):=by
  cases R with
  | nil=>exact absurd rfl h0
  |
   cons f R =>
   obtain ⟨t,st,g1,g2,g3,g4⟩:=I9 hs hR R [f] f [] rfl ⟨List.pairwise_singleton _ _,fun p hp=>by rw [List.mem_singleton.1 hp]; simp,trivial,trivial⟩ rfl rfl
   have e:Jb sg (f::R)=(t::st).reverse:=by
     unfold Jb
     rw [←g1]; rfl
   rw [e]
   exact ⟨by rw [List.head?_reverse,g4],by rw [List.getLast?_reverse]; exact g3.symm,List.pairwise_reverse.2 g2.srt,fun p hp=>g2.mem p (List.mem_reverse.1 hp),g2.edg.rev,g2.cnv.rev⟩
theorem Q0v {X Y:Pt→Rat} {R:List Pt} (hR:R.Pairwise (lx X Y)):∀ p∈R,∀ q∈R,p=q∨lx X Y p q∨lx X Y q p:=fun p hp q hq=>by
  by_cases e:p=q
  · exact .inl e
  · exact .inr (Qfs hR hp hq e)
theorem Qro {X Y:Pt→Rat} {R L L':List Pt} (hR:R.Pairwise (lx X Y)) (h:LowC X Y R L) (h':LowC X Y R L'):L=L':=by
  have hh:=h.hd.trans h'.hd.symm
  have hl:=h.la.trans h'.la.symm
  cases L with
  |
   nil=>cases L' with
   | nil=>rfl
   | cons _ _=>simp at hh
  |
   cons f M=>cases L' with
   | nil=>simp at hh
   |
    cons f' M' =>
    simp at hh
    subst hh
    obtain ⟨z,hz⟩:∃ z,(f::M).getLast? = some z:=⟨_,List.getLast?_eq_some_getLast (by simp)⟩
    rw [Qpy (Q0v hR) M M' f h.srt h'.srt h.mem h'.mem h.edg h'.edg h.cnv h'.cnv hz (hl ▸ hz)]
theorem Qfz {x y:Rat} (h:Qk x=Qk y):(0≤x→0≤y)∧(0<x→0<y):=by
  have h1:=Qz x
  have h2:=Qz y
  grind
theorem Qdt {X Y X' Y':Pt→Rat} {R:List Pt}:∀ {L:List Pt},(∀ p∈L,p∈R)→(∀ e∈U3 L,∀ p∈R,Qk (Yq X Y e.1 e.2 p)=Qk (Yq X' Y' e.1 e.2 p))→Cnv (fun a b c=>0<Yq X Y a b c) L→Cnv (fun a b c=>0<Yq X' Y' a b c) L
  | [],_,_,_=>trivial
  | [_],_,_,_=>trivial
  | [_,_],_,_,_=>trivial
  | a::b::c::l,hm,he,h=>⟨(Qfz (he (a,b) (by simp [U3]) c (hm c (by simp)))).2 h.1,Qdt (fun p hp=>hm p (List.mem_cons_of_mem _ hp)) (fun e hx=>he e (List.mem_cons_of_mem _ hx)) h.2⟩
theorem Qes {X Y X' Y':Pt→Rat} {R L:List Pt} (h:LowC X Y R L) (hl:∀ u∈R,∀ v∈R,lx X Y u v→lx X' Y' u v) (he:∀ e∈U3 L,∀ p∈R,Qk (Yq X Y e.1 e.2 p)=Qk (Yq X' Y' e.1 e.2 p)):LowC X' Y' R L :=
  ⟨h.hd,h.la,h.srt.imp_of_mem fun hu hv h'=>hl _ (h.mem _ hu) _ (h.mem _ hv) h',h.mem,Qbn.2 fun e hx p hp=>(Qfz (he e hx p hp)).1 (Qbn.1 h.edg e hx p hp),Qdt h.mem he h.cnv⟩
theorem Qca (X Y:Pt→Rat) (a b c:Pt):Yq (fun p=>-X p) (fun p=>-Y p) a b c=Yq X Y a b c:=by unfold Yq; grind
theorem Qb3 {X Y:Pt→Rat} {a b:Pt}:lx (fun p=>-X p) (fun p=>-Y p) a b↔lx X Y b a:=by unfold lx; grind
theorem Qtc {L:List Pt} {f z:Pt} (h1:L.head? = some f) (h2:L.getLast? = some z) (hne:f≠z):∃ A,L=f::A++[z]:=by
  cases L with
  | nil=>cases h1
  |
   cons g M =>
   simp at h1
   subst h1
   cases M with
   | nil=>simp at h2; exact absurd h2 hne
   |
    cons x M =>
    rw [List.getLast?_cons_cons] at h2
    obtain ⟨A,hA⟩:=List.getLast?_eq_some_iff.1 h2
    exact ⟨A,by rw [hA]; rfl⟩
theorem E4 {α β:Type} {f g:α→List β}:∀ {m:List α},(∀ x∈m,f x=g x)→m.flatMap f=m.flatMap g
  | [],_=>rfl
  | x::m,h=>by rw [List.flatMap_cons,List.flatMap_cons,h x (by simp),E4 fun y hy=>h y (List.mem_cons_of_mem _ hy)]
theorem Qei {sa sb:List Int→Int} {l C:List Pt} (h:∀ x∈Jx sa l C,X5 sb x.p=X5 sa x.p):Jx sb l C=Jx sa l C:=by
  by_cases h2:C.length<2
  · unfold Jx; rw [if_pos h2,if_pos h2]
  · have e:∀ s,Jx s l C=(Zl C).flatMap (Jo s l):=fun s=>if_neg h2
    rw [e] at h ⊢
    rw [e]
    refine E4 fun x hx=>List.map_congr_left fun c hc=>?_
    have:=h (J8 sa x.1 x.2 c) (List.mem_flatMap.2 ⟨x,hx,List.mem_map_of_mem hc⟩)
    show (⟨3,x.1.id,x.2.id,c.id,0,Zr x.1.c x.2.c c.c,X5 sb (Zr x.1.c x.2.c c.c)⟩:Ct)=⟨3,x.1.id,x.2.id,c.id,0,Zr x.1.c x.2.c c.c,X5 sa (Zr x.1.c x.2.c c.c)⟩
    have this:X5 sb (Zr x.1.c x.2.c c.c)=X5 sa (Zr x.1.c x.2.c c.c):=this
    rw [this]
theorem Ql5 {l:List Pt} (hd:l.Pairwise fun x y=>x.id≠y.id) {u v:Pt} (hu:u∈l) (hv:v∈l) (h:u.id=v.id):u=v:=by
  refine Classical.byContradiction fun e=>?_
  rcases Qfs hd hu hv e with h' | h'
  · exact h' h
  · exact h' h.symm
structure Soon (l:List Pt) (a:Tm) (q:Rat):Prop where
  g:∀ p∈Nn l++Iq l,X5 (Zn a) p=Qk (Qf p q)
  b:∀ u∈l,∀ v∈l,(Xu (Zn a) u v=true↔V4 q u v)
  o:∀ u∈l,∀ v∈l,∀ w∈l,X5 (Zn a) (Zr u.c v.c w.c)=Qk (Yq (px · q) (py · q) u v w)
  t:∀ u∈l,∀ v∈l,∀ w∈l,(U6 (Zn a) u v w=true↔0<Yq (px · q) (py · q) u v w)
  r:(Jm a (ways l)).Pairwise (lx (px · q) (py · q))
theorem Qf2 {l:List Pt} (hl:∀ p∈l,Sc p.c) (hd:l.Pairwise fun x y=>x.id≠y.id) {a:Tm} (ha:Va a):∃ y,Qu a y=-1∧∀ q,Qu a q=-1→q≤y→Soon l a q:=by
  obtain ⟨y,y1,y2⟩:=Aa ha (Nn l++Iq l) fun p hp=>(Ds hl p hp).dp
  refine ⟨y,y1,fun q q1 q2=>?_⟩
  have g:=y2 q q1 q2
  have gP:=fun p hp=>g p (List.mem_append_left _ hp)
  have b:∀ u∈l,∀ v∈l,(Xu (Zn a) u v=true↔V4 q u v):=fun u hu v hv=>Lx ha (hl u hu) (hl v hv) (gP _ (Kt hu hv).1) (gP _ (Kt hu hv).2)
  have o:∀ u∈l,∀ v∈l,∀ w∈l,X5 (Zn a) (Zr u.c v.c w.c)=Qk (Yq (px · q) (py · q) u v w):=fun u hu v hv w hw=>by
    rw [g _ (List.mem_append_right _ (Qdh hu hv hw)),Qio (hl u hu) (hl v hv) (hl w hw)]
  refine ⟨g,b,o,fun u hu v hv w hw=>?_,?_⟩
  · unfold U6
    rw [o u hu v hv w hw,decide_eq_true_eq]
    have:=Qz (Yq (px · q) (py · q) u v w)
    grind
  · have hw:∀ u∈ways l,u∈l:=fun u hu=>Yd hu
    have h1:=Qil (a:=a) (l:=ways l) (q:=q) (fun u hu v hv=>b u (hw u hu) v (hw v hv)) (List.Pairwise.sublist (Qtx l) hd)
    have h2:(Jm a (ways l)).Pairwise fun x y=>x.c≠y.c:=(List.Perm.pairwise_iff (fun {x y} h e=>h e.symm) (Qit (lt:=Xu (Zn a)) (ways l))).2 (Qxl l)
    refine (h1.and h2).imp_of_mem fun {u v} hu hv h=>?_
    have hu:=hw u (Zh.1 hu)
    have hv:=hw v (Zh.1 hv)
    exact Q0d ha (hl u hu) (hl v hv) (gP _ (Kt hu hv).1) (gP _ (Kt hu hv).2) h.2 h.1
theorem Ql6 {l:List Pt} (hl:∀ p∈l,Sc p.c) (hd:l.Pairwise fun x y=>x.id≠y.id) {a:Tm} (ha:Va a):∃ q,Soon l a q :=
  let ⟨y,h1,h2⟩:=Qf2 hl hd ha
  ⟨y,h2 y h1 Rat.le_refl⟩
theorem En {l:List Pt} {a:Tm} {q:Rat} (S:Soon l a q) (h3:3≤(Jm a (ways l)).length):∃ f z A B,Jb (Zn a) (Jm a (ways l))=f::A++[z]∧Jb (Zn a) (Jm a (ways l)).reverse=z::B++[f]∧LowC (px · q) (py · q) (Jm a (ways l)) (f::A++[z])∧LowC (fun p=>-px p q) (fun p=>-py p q) (Jm a (ways l)).reverse (z::B++[f])∧Zl (Z1 l a)=U3 (f::A++[z])++U3 (z::B++[f])∧2≤(Z1 l a).length:=by
  obtain ⟨R,hR⟩:∃ R,R=Jm a (ways l):=⟨_,rfl⟩
  have hm:∀ x∈R,x∈l:=fun x hx=>by rw [hR] at hx; exact Yd (Zh.1 hx)
  have r:=S.r
  rw [←hR] at r h3 ⊢
  have h0:R≠[]:=fun e=>by rw [e] at h3; simp at h3
  have c1:=I8 (sg:=Zn a) (fun u hu v hv w hw=>S.t u (hm u hu) v (hm v hv) w (hm w hw)) r h0
  have r2:R.reverse.Pairwise (lx (fun p=>-px p q) (fun p=>-py p q)):=List.pairwise_reverse.2 (r.imp fun h=>Qb3.2 h)
  have c2:=I8 (sg:=Zn a) (R:=R.reverse) (X:=fun p=>-px p q) (Y:=fun p=>-py p q) (fun u hu v hv w hw=>by
    rw [Qca (px · q) (py · q)]
    exact S.t u (hm u (List.mem_reverse.1 hu)) v (hm v (List.mem_reverse.1 hv)) w (hm w (List.mem_reverse.1 hw))) r2 (by simpa using h0)
  obtain ⟨f,hf⟩:∃ f,R.head? = some f:=by cases R with
    | nil=>exact absurd rfl h0
    | cons f _=>exact ⟨f,rfl⟩
  obtain ⟨z,hz⟩:∃ z,R.getLast? = some z:=⟨_,List.getLast?_eq_some_getLast h0⟩
  have hne:f≠z:=fun e=>by
    subst e
    cases R with
    | nil=>exact absurd rfl h0
    |
     cons g M =>
     simp at hf; subst hf
     cases M with
     | nil=>simp at h3
     |
      cons x M =>
      rw [List.getLast?_cons_cons] at hz
      exact Vl _ ((List.pairwise_cons.1 r).1 g (List.mem_of_getLast? hz))
  obtain ⟨A,hA⟩:=Qtc (c1.hd.trans hf) (c1.la.trans hz) hne
  obtain ⟨B,hB⟩:=Qtc (c2.hd.trans (by rw [List.head?_reverse]; exact hz)) (c2.la.trans (by rw [List.getLast?_reverse]; exact hf)) (Ne.symm hne)
  have hc:Z1 l a=(f::A++[z]).dropLast++(z::B++[f]).dropLast:=by
    unfold Z1 Vw
    rw [←hR,if_neg (by omega),hA,hB]
  rw [hA] at c1
  rw [hB] at c2
  refine ⟨f,z,A,B,hA,hB,c1,c2,by rw [hc]; exact Qd5,?_⟩
  rw [hc,List.dropLast_concat,List.dropLast_concat]
  simp; omega
theorem Qnb {l:List Pt} (hl:∀ p∈l,Sc p.c) (hd:l.Pairwise fun x y=>x.id≠y.id) {a b:Tm} (ha:Va a) (hb:Va b) (h:∀ x∈bcH l a,X5 (Zn b) x.p=X5 (Zn a) x.p):Z1 l b=Z1 l a∧bcH l b=bcH l a:=by
  obtain ⟨q,Sa⟩:=Ql6 hl hd ha
  obtain ⟨r,Sb⟩:=Ql6 hl hd hb
  obtain ⟨k1,k2⟩:=Qs2 hl hd ha hb fun x hx=>h x (List.mem_append_left _ hx)
  have pa:=Qil Sa.b hd
  have pb:=Qil Sb.b hd
  rw [k1] at pb
  have pab:=pa.and pb
  have lexs:∀ u∈l,∀ v∈l,(V4 q u v↔V4 r u v):=fun u hu v hv=>by
    by_cases e:u=v
    · subst e; exact ⟨fun h=>absurd h (Rq _ _),fun h=>absurd h (Rq _ _)⟩
    · rcases Qfs pab (Zh.2 hu) (Zh.2 hv) e with h' | h'
      · exact ⟨fun _=>h'.2,fun _=>h'.1⟩
      · exact ⟨fun h=>absurd (Tw _ _ _ _ h h'.1) (Rq _ _),fun h=>absurd (Tw _ _ _ _ h h'.2) (Rq _ _)⟩
  have bef:∀ u∈l,∀ v∈l,Xu (Zn b) u v=Xu (Zn a) u v:=fun u hu v hv=>by
    have h1:=Sa.b u hu v hv
    have h2:=Sb.b u hu v hv
    have h3:=lexs u hu v hv
    cases e1:Xu (Zn a) u v <;> cases e2:Xu (Zn b) u v <;> rw [e1] at h1 <;> rw [e2] at h2 <;> simp_all
  have eR:Jm b (ways l)=Jm a (ways l):=Cz (l:=ways l) (fun u hu v hv=>bef u (Yd hu) v (Yd hv)) (ways l) [] (fun x hx=>hx) fun x hx=>by cases hx
  have hm:∀ x∈Jm a (ways l),x∈l:=fun x hx=>Yd (Zh.1 hx)
  have rb:=Sb.r
  rw [eR] at rb
  have hc:Z1 l b=Z1 l a:=by
    by_cases h3:(Jm a (ways l)).length<3
    · unfold Z1 Vw
      rw [eR,if_pos h3,if_pos h3]
    · obtain ⟨f,z,A,B,hA,hB,c1,c2,hE,hC2⟩:=En Sa (by omega)
      obtain ⟨f',z',A',B',hA',hB',c1',c2',hE',_⟩:=En Sb (by rw [eR]; omega)
      rw [eR] at hA' hB' c1' c2'
      have sgs:∀ e∈Zl (Z1 l a),∀ p∈Jm a (ways l),Qk (Yq (px · q) (py · q) e.1 e.2 p)=Qk (Yq (px · r) (py · r) e.1 e.2 p):=fun e he p hp=>by
        obtain ⟨m1,m2⟩:=Cw he
        have m1:=W3 m1
        have m2:=W3 m2
        have m3:=hm p hp
        by_cases ho:V5 e p=true
        · have hx:J8 (Zn a) e.1 e.2 p∈bcH l a:=by
            refine List.mem_append_right _ ?_
            unfold Jx
            rw [if_neg (by omega)]
            exact List.mem_flatMap.2 ⟨e,he,List.mem_map_of_mem (List.mem_filter.2 ⟨m3,ho⟩)⟩
          have hg:X5 (Zn b) (Zr e.1.c e.2.c p.c)=X5 (Zn a) (Zr e.1.c e.2.c p.c):=h _ hx
          rw [←Sa.o _ m1 _ m2 _ m3,←Sb.o _ m1 _ m2 _ m3,hg]
        · have hz:∀ X Y:Pt→Rat,Yq X Y e.1 e.2 p=0:=fun X Y=>by
            by_cases e1:p.id=e.1.id
            · rw [Ql5 hd m3 m1 e1]; exact (Mw _ _).1
            · by_cases e2:p.id=e.2.id
              · rw [Ql5 hd m3 m2 e2]; exact (Mw _ _).2
              · exact absurd (by simp [V5,e1,e2]) ho
          rw [hz,hz]
      have hlx:∀ u∈Jm a (ways l),∀ v∈Jm a (ways l),lx (px · q) (py · q) u v→lx (px · r) (py · r) u v:=fun u hu v hv huv=>by
        have ra:=Sa.r
        by_cases e:u=v
        · subst e; exact absurd huv (Vl _)
        · rcases Qfs (ra.and rb) hu hv e with h' | h'
          · exact h'.2
          · exact absurd (Ar huv h'.1) (Vl _)
      have e1:=Qro rb (Qes c1 hlx fun e he=>sgs e (by rw [hE]; exact List.mem_append_left _ he)) c1'
      have rb2:(Jm a (ways l)).reverse.Pairwise (lx (fun p=>-px p r) (fun p=>-py p r)):=List.pairwise_reverse.2 (rb.imp fun h=>Qb3.2 h)
      have e2:=Qro rb2 (Qes c2 (fun u hu v hv huv=>Qb3.2 (hlx v (List.mem_reverse.1 hv) u (List.mem_reverse.1 hu) (Qb3.1 huv))) fun e he p hp=>by
        rw [Qca (px · q) (py · q),Qca (px · r) (py · r)]
        exact sgs e (by rw [hE]; exact List.mem_append_right _ he) p (List.mem_reverse.1 hp)) c2'
      unfold Z1 Vw
      rw [eR,if_neg h3,if_neg h3,hA,hB,hA',hB',e1,e2]
  refine ⟨hc,?_⟩
  unfold bcH
  rw [hc,k2,Qei fun x hx=>h x (List.mem_append_right _ hx)]
theorem Q3b {l:List Pt} (hl:∀ p∈l,Sc p.c) (hn:l.length≤10) (hd:l.Pairwise fun x y=>x.id≠y.id):Stab (bcH l) (brH l):=by
  refine ⟨Qgv hl hn,⟨Nn l++Iq l,Ds hl,fun a _ x hx=>Qaw x hx⟩,fun a b ha hb h=>?_⟩
  obtain ⟨e1,e2⟩:=Qnb hl hd ha hb h
  exact ⟨e2,by show Qi _=Qi _; rw [e1]⟩
end Orq

namespace Orq
open Orr Go
structure Quiet {β:Type} (Bc:Tm→List Ct) (Br:Tm→β) (a b:Tm):Prop where
  va:Va a
  vb:Va b
  le:¬K8 b a
  n:∀ x∈Bc a,∃ o,Wh x.p a o∧∀ u,o=some u→K8 b u
section
variable {β:Type} {Bc:Tm→List Ct} {Br:Tm→β} (S:Stab Bc Br)
include S
theorem Quiet.same {a b:Tm} (h:Quiet Bc Br a b):Bc b=Bc a∧Br b=Br a:=by
  refine S.st a b h.va h.vb fun x hx=>?_
  obtain ⟨o,o1,o2⟩:=h.n x hx
  exact Ow (S.ok.p _ h.va _ hx).dp h.va h.vb h.le o1 o2
end
theorem Qxe {p:List Int} (h:Cp p):(tms p).length≤67:=by
  obtain ⟨l,l1,l2,_⟩:=Tl h
  unfold tms; rw [l1]; exact l2
theorem Qmb:∀ {Ps:List (List Int)},(∀ p∈Ps,Cp p)→(Ps.flatMap tms).length≤67*Ps.length
  | [],_=>Nat.zero_le _
  |
   p::Ps,h=>by
   have h1:=Qxe (h p (by simp))
   have h2:=Qmb (Ps:=Ps) fun q hq=>h q (List.mem_cons_of_mem _ hq)
   rw [List.flatMap_cons,List.length_append,List.length_cons]; omega
theorem Q2w (T:List Tm) (a:Tm):mu T a≤T.length:=List.length_filter_le _ _
theorem Qy3 {β:Type} {Bc:Tm→List Ct} {Br:Tm→β} (S:Stab Bc Br) {Ps:List (List Int)} (hP:∀ p∈Ps,Cp p) (hPs:∀ a,Va a→∀ x∈Bc a,x.p∈Ps) (hl:Ps.length≤1000000) {t:Rat} (ht:Qs 400000 t) {c:Cr} {r:β} (hS:KSt Bc Br c r) (h:Qu c.now t≤0) :
    ∃ (K:Nat) (c':Cr) (E:List Tm),K≤67000001∧goF Bc Br t K c r 0=some (c',Br (tq t),((E.length:Nat):Int))∧c'.now=tq t∧KSt Bc Br c' (Br (tq t))∧c'.ev=c.ev+((E.length:Nat):Int)∧E.length≤67000000∧Evs Bc t c.now E:=by
  have hm:=Qmb hP
  have hmu:=Q2w (Ps.flatMap tms) c.now
  have hv:=hS.inv.ok.n
  obtain ⟨c',r',E,g1,g2,g3,g4,g5,g6⟩:=Q2m S ht hP hPs (mu (Ps.flatMap tms) c.now) c r 0 (Nat.le_refl _) hS fun h'=>by
    have:=(El hv.cut).2 h'; omega
  have hr:r'=Br (tq t):=by rw [g3.r,g2]
  rw [hr] at g1 g3
  rw [Int.zero_add] at g1
  exact ⟨_,c',E,by omega,g1,g2,g3,g4,by omega,g6⟩
theorem Qza {β:Type} {Bc:Tm→List Ct} {Br:Tm→β} (S:Stab Bc Br) {a:Tm} (ha:Va a):KSt Bc Br ⟨a,(Z3 (Bc a)).map fresh,0⟩ (Br a):=by
  refine ⟨⟨⟨ha,fun w hw=>?_,?_⟩,fun w hw hk=>?_⟩,?_,rfl⟩
  · obtain ⟨x,hx,rfl⟩:=List.mem_map.1 hw
    exact ⟨S.ok.p _ ha x (Ca hx),fun t ht=>by cases ht⟩
  · show ((Z3 (Bc a)).map fresh).length≤1000
    rw [List.length_map,Gp]; exact S.ok.n _ ha
  · obtain ⟨x,hx,rfl⟩:=List.mem_map.1 hw
    cases hk
  · show ((Z3 (Bc a)).map fresh).map (·.c)=Z3 (Bc a)
    rw [List.map_map]
    show (Z3 (Bc a)).map (fun x=>x)=_
    rw [List.map_id']
end Orq

namespace Orr
open Go Go.Proofs Orq
set_option maxRecDepth 10000
theorem Q14 {T:Nat} {t:Rat} {Bc:Tm→List Ct} {Br:Tm→List (List LV)} {r0:List (List LV)} (ht:Qs 400000 t) (hB:BuildOk Bc)
    (hb:∀ a c r1,Va a→CrOk c→Xf Tryz.prog 113 [.one (.ow 0 0),.agg (ta a)] [.blk T (Ff c r0 r1)] [.one (.row (Q4 (Bc a)))] [.blk T (Ff c r0 (Br a))])
    {K:Nat} {c c':Cr} {r1 r1':List (List LV)} {n:Int} (hc:CrOk c) (hev:0≤c.ev∧c.ev+K≤1000000000000000000) (h:Qu c.now t≤0) (hg:goF Bc Br t K c r1 0=some (c',r1',n)) :
    Xf Tryz.prog 81 [.one (.ow 0 0),.agg (rl t),.one (.ofn 113 [.ow 0 0] [])] [.blk T (Ff c r0 r1)] [.one (.int .i64 n),.one (.int .i64 0)] [.blk T (Ff c' r0 r1')]:=by
  have qt:Qb t:=ht.mono (by decide)
  have c1:=Lz hc.n.tb qt
  refine X4 Tryz.func81 rfl ?_
  refine go tt [.c [0] (Qot hc.n),.c [] c1,.f (by simpa using h)] rfl trivial ?_
  refine lp (S:=Nat×Cr×List (List LV)×Int) 2 (fun L1 s=>(8,.v (.one (.int .i64 s.2.2.2)))::L1) (fun s=>[.blk T (Ff s.2.1 r0 s.2.2.1),.blk 41 (rl t)]) (fun s=>s.1) (fun s=>CrOk s.2.1∧(0≤s.2.1.ev∧s.2.1.ev+s.1≤1000000000000000000)∧(0≤s.2.2.2∧s.2.2.2+s.1≤1000000000000000000)∧goF Bc Br t s.1 s.2.1 s.2.2.1 s.2.2.2=some (c',r1',n)) (K,c,r1,0) ⟨hc,hev,⟨Int.le_refl 0,by dsimp only; omega⟩,hg⟩ rfl (fun _ _=>rfl) rfl fun ⟨k,x,r,m⟩ ⟨j1,j2,j3,j4⟩=>?_
  dsimp only at j1 j2 j3 j4 ⊢
  cases k with
  | zero=>cases j4
  |
   succ k =>
   simp only [goF] at j4
   obtain ⟨ws,w1,j4⟩:=Option.bind_eq_some_iff.1 j4
   obtain ⟨o,o1,j4⟩:=Option.bind_eq_some_iff.1 j4
   have cn:=Qux (T:=T) (r0:=r0) (r1:=r) j1 w1 o1
   have ca:=Qx5 (Qe t.num) (Qe (t.den:Int)) (Nat.le_trans ht.1 (by decide)) (Nat.le_trans ht.2 (by decide)) (by rw [M7]; exact ht.mono (by decide))
   rw [M7] at ca
   cases o with
   |
    none =>
    injection j4 with j4; injection j4 with e1 j4; injection j4 with e2 e3
    subst e1; subst e2; subst e3
    exact ed tt [] [0] [.c [0] cn,.g 25 true rfl,.t rfl,.c [] ca] rfl trivial
   |
    some a =>
    have ha:=Q0o j1 w1 o1
    dsimp only at j4
    have cc:=Lz ha.tb qt
    by_cases h0:0<Qu a t
    · rw [if_pos h0] at j4
      injection j4 with j4; injection j4 with e1 j4; injection j4 with e2 e3
      subst e1; subst e2; subst e3
      exact ed tt [] [0] [.c [0] cn,.g 25 false rfl,.c [] cc,.t (by simpa using h0),.c [] ca] rfl trivial
    · rw [if_neg h0] at j4
      obtain ⟨w2,l1,j4⟩:=Option.bind_eq_some_iff.1 j4
      have j1':=D8 j1 w1
      have cl:=H6 (b:=a) (l:=[]) ha.tb (fun t ht=>by cases ht) (by decide) rfl
      have cb:=hb a { x with l:=ws } r ha j1'
      have cy:=Quv (T:=T) (r0:=r0) (r1:=Br a) j1' ha (hB.p a ha) (hB.n a ha) l1
      have hf:decide (0<Qu a t)=false:=by simpa using h0
      refine go tt [.c [0] cn,.g 25 false rfl,.c [] cc,.f hf,.c [] cl,.c [0] cb,.c [0] cy] rfl (by simp [Qa]; omega) ?_
      exact rd (k,⟨a,w2,x.ev+1⟩,Br a,m+1) (by dsimp only; omega) ⟨lay_ok _ j1' ha (hB.p a ha) (hB.n a ha) l1,by dsimp only; omega,by dsimp only; omega,j4⟩ rfl
def Qmp (l:List Pt) (a:Tm):Cr:=⟨a,(Z3 (bcH l a)).map fresh,0⟩
theorem Qjk {zs:List (List LV)} {qs l:List Pt} {x y x' y':LV} {n d:Int} (hz:IsPts 4294967294 1073741824 zs qs) (hq:qs.length≤6) (hnl:Vn [] qs=(l,0)) (hl:∀ p∈l,Sc p.c) (hn:l.length≤10) (h1:Xg x y n) (h2:Xg x' y' d) (bn:Qt n≤4294967295) (bd:Qt d≤4294967295) (ht:Qs 400000 (Vv n d)) :
    Xf Tryz.prog 67 [.agg [x,y,x',y'],.one (.row zs)] [] [.one (.ow 0 0),.one (.int .i64 0)] [.blk 182 (Ff (Qmp l (tq (Vv n d))) (Qi l) (brH l (tq (Vv n d))))]:=by
  have cn:=Q16 hz hq
  rw [hnl] at cn
  have co:=Qx5 h1 h2 bn bd (ht.mono (by decide))
  have hv:=Qxj ht
  have hB:=Qgv hl hn
  have cb:=Qmt hl hn hv
  have cg:=Qmv (T:=182) (r0:=Qi l) (r1:=brH l (tq (Vv n d))) hv (hB.p _ hv) (hB.n _ hv)
  obtain ⟨b,l1,rfl,rfl,_⟩:=h1
  obtain ⟨b',l2,rfl,rfl,_⟩:=h2
  refine X4 Tryz.func67 rfl ?_
  exact ed tt [] [2] [.c [] cn,.f rfl,.c [] co,.c [2] cb,.c [2] cg] rfl trivial
theorem Qze {t:Rat} {l:List Pt} {K:Nat} {c c':Cr} {r1 r1':List (List LV)} {n:Int} (ht:Qs 400000 t) (hl:∀ p∈l,Sc p.c) (hn:l.length≤10) (hc:CrOk c) (hev:0≤c.ev∧c.ev+K≤1000000000000000000) (h:Qu c.now t≤0) (hg:goF (bcH l) (brH l) t K c r1 0=some (c',r1',n)) :
    Xf Tryz.prog 68 [.one (.ow 0 0),.agg (rl t)] [.blk 182 (Ff c (Qi l) r1)] [.one (.int .i64 n),.one (.int .i64 0)] [.blk 182 (Ff c' (Qi l) r1')]:=by
  have cg:=Q14 (T:=182) (r0:=Qi l) ht (Qgv hl hn) (fun a c r1 ha _=>Qmu (c:=c) (r1:=r1) hl hn ha) hc hev h hg
  refine X4 Tryz.func68 rfl ?_
  exact ed tt [] [0] [.c [] (Gz (ht.mono (by decide))),.c [0] cg] rfl trivial
theorem Qa2 {c:Cr} {l s:List Pt} (hs:s.length≤1000000):Xf Tryz.prog 69 [.one (.ow 0 0)] [.blk 182 (Ff c (Qi l) (Qi s))] [.one (ids (s.map (·.id)))] [.blk 182 (Ff c (Qi l) (Qi s))]:=by
  have hcl:=Xy s
  refine X4 Tryz.func69 rfl ?_
  refine go tt [.o 3 3 1] rfl trivial ?_
  refine lp (S:=Nat) 2 (fun L1 i=>(11,.v (.one (.int .i64 (i:Int))))::(3,.v (.one (.orow 1 1 none)))::L1) (fun i=>[.blk 182 (Ff c (Qi l) (Qi s)),.row false 3 1 (((s.take i).map (·.id)).map fun (z:Int)=>[LV.int .i64 z])]) (fun i=>s.length-i) (fun i=>i≤s.length) 0 (Nat.zero_le _) rfl (fun _ _=>rfl) rfl fun i hi=>?_
  by_cases hlt:i<s.length
  · obtain ⟨p,hp⟩:∃ p,s[i]? = some p:=⟨_,List.getElem?_eq_getElem hlt⟩
    have hg:(((s.take (i+1)).map (·.id)).map fun (z:Int)=>[LV.int .i64 z])=(((s.take i).map (·.id)).map fun (z:Int)=>[LV.int .i64 z])++[[.int .i64 p.id]]:=by
      rw [List.take_succ,hp]; simp
    refine go tt [.t (by simp [hcl]; omega),.x (Je hp),.s (sz:=1) (l:=[[.int .i64 p.id]]) (fun c hc=>by rw [List.mem_singleton.1 hc]; rfl)] rfl (by simp [Qa]; omega) ?_
    exact rd (i+1) (by omega) hlt (by rw [hg]; rfl)
  · obtain rfl:i=s.length:=by omega
    rw [List.take_length]
    exact ed tt [1] [0] [.f (by simp [hcl])] rfl trivial
theorem Qx1 {c:Cr} {l s:List Pt} {id:Int} (hs:s.length≤1000000):Xf Tryz.prog 114 [.one (.ow 0 0),.one (.int .i64 id)] [.blk 182 (Ff c (Qi l) (Qi s))] [.one (.bool (s.any fun p=>decide (p.id=id)))] [.blk 182 (Ff c (Qi l) (Qi s))]:=by
  have hcl:=Xy s
  refine X4 Tryz.func114 rfl ?_
  refine go tt [] rfl trivial ?_
  refine lp (S:=Nat) 1 (fun L1 i=>(12,.v (.one (.int .i64 (i:Int))))::L1) (fun _=>[.blk 182 (Ff c (Qi l) (Qi s))]) (fun i=>s.length-i) (fun i=>i≤s.length∧(s.any fun p=>decide (p.id=id))=(s.drop i).any fun p=>decide (p.id=id)) 0 ⟨Nat.zero_le _,by rw [List.drop_zero]⟩ rfl (fun _ _=>rfl) rfl fun i ⟨hi,he⟩=>?_
  by_cases hlt:i<s.length
  · obtain ⟨p,hp⟩:∃ p,s[i]? = some p:=⟨_,List.getElem?_eq_getElem hlt⟩
    have hdr:s.drop i=p::s.drop (i+1):=by
      rw [List.drop_eq_getElem_cons hlt]; congr 1
      have:=List.getElem?_eq_getElem hlt; rw [hp] at this; injection this with this; exact this.symm
    rw [hdr,List.any_cons] at he
    by_cases h:p.id=id
    · rw [decide_eq_true h,Bool.true_or] at he
      rw [he]
      exact ed tt [] [0] [.t (by simp [hcl]; omega),.x (Je hp),.t (decide_eq_true h)] rfl trivial
    · rw [decide_eq_false h,Bool.false_or] at he
      refine go tt [.t (by simp [hcl]; omega),.x (Je hp),.f (decide_eq_false h)] rfl (by simp [Qa]; omega) ?_
      exact rd (i+1) (by omega) ⟨hlt,he⟩ rfl
  · obtain rfl:i=s.length:=by omega
    rw [List.drop_length,List.any_nil] at he
    rw [he]
    exact ed tt [] [0] [.f (by simp [hcl])] rfl trivial
end Orr

namespace Orr
open Go
end Orr

namespace Orq
open Orr Go
end Orq
namespace Orr
open Orq Go
end Orr

namespace Orr
open Orq
end Orr
namespace Orq
open Orr Go
theorem I4 {l:List Int} (h:∀ z∈l,z.natAbs<2^60):Bd 80 l:=fun z hz=>by
  have:=h z hz
  exact Nat.le_trans (Y0.2 (by omega:z.natAbs<2^60)) (by decide)
theorem Qlh {x y:List Int} (hx:Qm x) (hy:Qm y):Nml ⟨x,y,1⟩:=by
  refine ⟨hx,hy,by show (0:Int)<1; decide,?_⟩
  have:=Fz (l:=(1:Int)::(x++y)) 1 (List.mem_cons_self ..)
  have:=Int.ofNat_dvd_left.1 this
  simpa using this
end Orq

namespace Orr
theorem Qfr:∀ {l:List Pt} {q:Pt},(∀ p∈l,p.id<q.id)→put l q=l++[q]
  | [],_,_=>rfl
  | p::l,q,h=>by rw [Qso,if_pos (h p (by simp)),Qfr fun x hx=>h x (List.mem_cons_of_mem _ hx)]; rfl
theorem Qe0:∀ (qs acc:List Pt),Qi7 (acc++qs)→(acc++qs).length≤6→Vn acc qs=(acc++qs,0)
  | [],acc,_,_=>by rw [List.append_nil]; rfl
  |
   q::qs,acc,hs,hl=>by
   obtain ⟨h1,h2,h3⟩:=List.pairwise_append.1 hs
   have ha:∀ p∈acc,p.id<q.id:=fun p hp=>h3 p hp q (by simp)
   have he:Hw acc q=0:=by
     rw [Qsn (by simp at hl; omega)]
     have:has acc q.id=false:=by
       cases h:has acc q.id
       · rfl
       · obtain ⟨p,hp,e⟩:=(Qkp h1).1 h
         have:=ha p hp; omega
     rw [this]; rfl
   simp only [Vn]
   rw [if_pos he,Qfr ha,Qe0 qs (acc++[q]) (by rw [List.append_assoc]; exact hs) (by rw [List.append_assoc]; exact hl),List.append_assoc]
   rfl
end Orr

namespace Orq
open Orr Go
section
variable {α:Type} {s:α→α→α→Bool} {S:α→Prop}
theorem Co (hs:∀ a b c,S a→S b→S c→s a b c=false) {f:α} (hf:S f):∀ (l:List α) (z:α),S z→(∀ x∈l,S x)→Xv s [z,f] l=[(z::l).getLast (by simp),f]
  | [],z,_,_=>rfl
  |
   c::l,z,hz,hl=>by
   have h:=hl c (by simp)
   have e:V6 s c [z,f]=[f]:=by simp only [V6]; rw [hs f z c hf hz h]; rfl
   simp only [Xv]
   rw [e,Co hs hf l c h fun x hx=>hl x (List.mem_cons_of_mem _ hx)]
   rfl
end
theorem Cn {sg:List Int→Int} {S:Pt→Prop} (hs:∀ a b c,S a→S b→S c→U6 sg a b c=false) {f z:Pt} {M:List Pt} (hl:∀ x∈f::M++[z],S x):Jb sg (f::M++[z])=[f,z]:=by
  have e:Xv (U6 sg) [] (f::M++[z])=[z,f]:=by
    cases M with
    | nil=>rfl
    |
     cons g M =>
     show Xv (U6 sg) [g,f] (M++[z])=[z,f]
     rw [Co hs (hl f (by simp)) _ g (hl g (by simp)) fun x hx=>hl x (by simp at hx ⊢; rcases hx with h | h; exact .inr (.inr (.inl h)); exact .inr (.inr (.inr h)))]
     have:∀ h,(g::(M++[z])).getLast h=z:=fun h=>by rw [List.getLast_cons (by simp)]; simp
     rw [this]
  unfold Jb; rw [e]; rfl
theorem Qfv {sg:List Int→Int} {S:Pt→Prop} (hs:∀ a b c,S a→S b→S c→U6 sg a b c=false) {f z:Pt} {M:List Pt} (hl:∀ x∈f::M++[z],S x):Vw sg (f::M++[z])=[f,z]:=by
  unfold Vw
  cases M with
  | nil=>rfl
  |
   cons g M =>
   rw [if_neg (by simp)]
   have e:(f::(g::M)++[z]).reverse=z::(g::M).reverse++[f]:=by simp
   rw [Cn hs hl,e,Cn hs fun x hx=>hl x (by rw [←e] at hx; exact List.mem_reverse.1 hx)]
   rfl
theorem Qlz {α:Type} {R:α→α→Prop} (irr:∀ x,¬R x x) (tr:∀ x y z,R x y→R y z→R x z) {l:List α} (hp:l.Pairwise R) {f:α} (hf:f∈l) (h:∀ x∈l,x≠f→R f x):l.head? = some f:=by
  cases l with
  | nil=>cases hf
  |
   cons x m =>
   rcases List.mem_cons.1 hf with e | hm
   · rw [e]; rfl
   · by_cases e:x=f
     · rw [e]; rfl
     · exact absurd (tr _ _ _ ((List.pairwise_cons.1 hp).1 f hm) (h x (by simp) e)) (irr x)
theorem Qwx {α:Type} {R:α→α→Prop} (irr:∀ x,¬R x x) (tr:∀ x y z,R x y→R y z→R x z) {l:List α} (hp:l.Pairwise R) {z:α} (hz:z∈l) (h:∀ x∈l,x≠z→R x z):l.getLast? = some z:=by
  rw [←List.head?_reverse]
  exact Qlz (R:=fun x y=>R y x) irr (fun x y w h1 h2=>tr _ _ _ h2 h1) (List.pairwise_reverse.2 hp) (List.mem_reverse.2 hz) fun x hx=>h x (List.mem_reverse.1 hx)
theorem Qnj {l:List Pt} {a:Tm} {q:Rat} (S:Soon l a q) (hflat:∀ u∈l,∀ v∈l,∀ w∈l,Yq (px · q) (py · q) u v w=0) {f z:Pt} (hf:f∈ways l) (hz:z∈ways l) (hne:f≠z) (h1:∀ x∈ways l,x≠f→lx (px · q) (py · q) f x) (h2:∀ x∈ways l,x≠z→lx (px · q) (py · q) x z):Z1 l a=[f,z]:=by
  have e1:=Qlz Vl (fun _ _ _=>Ar) S.r (Zh.2 hf) fun x hx=>h1 x (Zh.1 hx)
  have e2:=Qwx Vl (fun _ _ _=>Ar) S.r (Zh.2 hz) fun x hx=>h2 x (Zh.1 hx)
  obtain ⟨M,hM⟩:=Qtc e1 e2 hne
  unfold Z1
  rw [hM]
  refine Qfv (S:=fun x=>x∈l) (fun u v w hu hv hw=>?_) fun x hx=>?_
  · have:=S.t u hu v hv w hw
    rw [hflat u hu v hv w hw] at this
    cases h:U6 (Zn a) u v w
    · rfl
    · exact absurd (this.1 h) (by decide)
  · rw [←hM] at hx; exact Yd (Zh.1 hx)
theorem Ob {x y:Crv}:Wi x y=true↔x=y:=by
  cases x; cases y; simp [Wi]
theorem Qat:∀ (l out:List Pt),(∀ x∈out,∀ y∈l,x.c≠y.c)→l.Pairwise (fun x y=>x.c≠y.c)→l.foldl Jk out=out++l
  | [],out,_,_=>by simp
  |
   p::l,out,h1,h2=>by
   have e:Jk out p=out++[p]:=by
     unfold Jk
     rw [if_neg]
     intro h
     obtain ⟨x,hx,hx2⟩:=List.any_eq_true.1 h
     exact h1 x hx p (by simp) (Ob.1 hx2).symm
   rw [List.foldl_cons,e,Qat l _ (fun x hx y hy=>?_) (List.pairwise_cons.1 h2).2,List.append_assoc]
   · rfl
   · rcases List.mem_append.1 hx with hx | hx
     · exact h1 x hx y (List.mem_cons_of_mem _ hy)
     · rw [List.mem_singleton.1 hx]; exact (List.pairwise_cons.1 h2).1 y hy
theorem Qxk {l:List Pt} (h:l.Pairwise fun x y=>x.c≠y.c):ways l=l:=by
  unfold Orr.ways; rw [Qat l [] (fun x hx=>by cases hx) h]; rfl
theorem Qgh {p:Pt}:∀ {l:List Pt},(∀ x∈l,x.c=p.c)→l.foldl Jk [p]=[p]
  | [],_=>rfl
  |
   x::l,h=>by
   have e:Jk [p] x=[p]:=by
     unfold Jk
     rw [if_pos]
     simp [Ob,h x (by simp)]
   rw [List.foldl_cons,e]; exact Qgh fun y hy=>h y (List.mem_cons_of_mem _ hy)
def Ws (g:Nat→Int):Nat→Nat
  | 0=>0
  | i+1=>if g i<g (Ws g i) then i else Ws g i
def Uo (g:Nat→Int):Nat→Nat
  | 0=>0
  | i+1=>if g (Uo g i)≤g i then i else Uo g i
theorem Qbr (g:Nat→Int):∀ n,Ws g (n+1)<n+1∧∀ k,k<n+1→k≠Ws g (n+1)→g (Ws g (n+1))<g k∨g (Ws g (n+1))=g k∧Ws g (n+1)<k
  |
   0=>by
   have e:Ws g 1=0:=by simp [Ws]
   rw [e]; exact ⟨by omega,fun k h1 h2=>by omega⟩
  |
   n+1=>by
   obtain ⟨i1,i2⟩:=Qbr g n
   rw [show Ws g (n+1+1)=if g (n+1)<g (Ws g (n+1)) then n+1 else Ws g (n+1) from rfl]
   by_cases h:g (n+1)<g (Ws g (n+1))
   · rw [if_pos h]
     refine ⟨by omega,fun k h1 h2=>?_⟩
     by_cases e:k=Ws g (n+1)
     · rw [e]; exact .inl h
     · have:=i2 k (by omega) e; omega
   · rw [if_neg h]
     refine ⟨by omega,fun k h1 h2=>?_⟩
     by_cases e:k=n+1
     · rw [e]; omega
     · exact i2 k (by omega) h2
theorem Qb2 (g:Nat→Int):∀ n,Uo g (n+1)<n+1∧∀ k,k<n+1→k≠Uo g (n+1)→g k<g (Uo g (n+1))∨g k=g (Uo g (n+1))∧k<Uo g (n+1)
  |
   0=>by
   have e:Uo g 1=0:=by simp [Uo]
   rw [e]; exact ⟨by omega,fun k h1 h2=>by omega⟩
  |
   n+1=>by
   obtain ⟨i1,i2⟩:=Qb2 g n
   rw [show Uo g (n+1+1)=if g (Uo g (n+1))≤g (n+1) then n+1 else Uo g (n+1) from rfl]
   by_cases h:g (Uo g (n+1))≤g (n+1)
   · rw [if_pos h]
     refine ⟨by omega,fun k h1 h2=>?_⟩
     by_cases e:k=Uo g (n+1)
     · rw [e]; omega
     · have:=i2 k (by omega) e; omega
   · rw [if_neg h]
     refine ⟨by omega,fun k h1 h2=>?_⟩
     by_cases e:k=n+1
     · rw [e]; omega
     · exact i2 k (by omega) h2
def Dk (s:List Int) (same:Bool) (i:Nat):List Int:=if same=true then [3,2] else Qq [s.getD i 0,(i:Int)]
def hpt (s:List Int) (same:Bool) (i:Nat):Pt:=⟨⟨Dk s same i,Hj (Dk s same i) (Dk s same i),1⟩,(i:Int)⟩
def Jl (s:List Int) (same:Bool) (n:Nat):List Pt:=(List.range n).map (hpt s same)
theorem Mi (s:List Int) (b:Bool) (n:Nat):(Jl s b n).length=n:=by simp [Jl]
theorem Qeg (s:List Int) (b:Bool) (n:Nat):(Jl s b n).Pairwise fun x y=>x.id<y.id:=by
  unfold Jl
  rw [List.pairwise_map]
  exact List.Pairwise.imp (fun {a b} h=>by show (a:Int)<(b:Int); omega) (List.pairwise_lt_range (n:=n))
theorem Qkr (s:List Int) (b:Bool) (n:Nat):(Jl s b n).Pairwise fun x y=>x.id≠y.id:=(Qeg s b n).imp fun {a b} h=>by omega
theorem Qef (s:List Int) (b:Bool) (i:Nat):Qm (Dk s b i):=by
  unfold Dk; split
  · show Qq [3,2]=[3,2]; decide
  · exact Xt _
theorem Qra {s:List Int} (hs:∀ z∈s,0≤z∧z<15) (b:Bool) {i:Nat} (hi:i<5):Bd 80 (Dk s b i)∧(Dk s b i).length≤2:=by
  have h0:=Qbt (by decide) hs i
  unfold Dk; split
  · exact ⟨I4 fun z hz=>by simp only [List.mem_cons,List.not_mem_nil,or_false] at hz; omega,by simp⟩
  · exact ⟨Jf (I4 fun z hz=>by simp only [List.mem_cons,List.not_mem_nil,or_false] at hz; omega),Nat.le_trans (Xd _) (by simp)⟩
theorem Qrb {s:List Int} {b:Bool} {i:Nat} (hs:∀ z∈s,0≤z∧z<15) (hi:i<5):Sc (hpt s b i).c:=by
  obtain ⟨h1,h2⟩:=Qra hs b hi
  have h3:=An (Dk s b i) (Dk s b i)
  exact ⟨Qlh (Qef s b i) (Q8 _ _),⟨Qc h1 (by decide),Qc (Qay h1 h1) (by decide),by show Qt 1≤90; decide,by show (Dk s b i).length≤3; omega,by show (Hj _ _).length≤3; omega⟩⟩
theorem Qks {s:List Int} {b:Bool} (hs:∀ z∈s,0≤z∧z<15) {n:Nat} (hn:n≤5):∀ p∈Jl s b n,Sc p.c:=fun p hp=>by
  obtain ⟨i,hi,rfl⟩:=List.mem_map.1 hp
  have:=List.mem_range.1 hi
  exact Qrb hs (by omega)
theorem Qzv (x:Rat):x / ((1:Int):Rat)=x:=by
  rw [show ((1:Int):Rat)=1 from rfl,Rat.div_def]
  have:=Q5g
  rw [this]; grind
theorem Q0w (s:List Int) (i:Nat) (q:Rat):px (hpt s false i) q=((s.getD i 0:Int):Rat)+((i:Int):Rat)*q:=by
  show Qf (Qq [s.getD i 0,(i:Int)]) q / ((1:Int):Rat)=_
  rw [Uq,Qzv]
  simp only [Qf]
  grind
theorem Q0x (s:List Int) (b:Bool) (i:Nat) (q:Rat):py (hpt s b i) q=2*px (hpt s b i) q:=by
  show Qf (Hj (Dk s b i) (Dk s b i)) q / ((1:Int):Rat)=2*(Qf (Dk s b i) q / ((1:Int):Rat))
  rw [A1,Qzv,Qzv]; grind
def Ye (s:List Int) (t:Int) (i:Nat):Int:=s.getD i 0+(i:Int)*t
theorem Qna {s:List Int} {b:Bool} {n:Nat} {a:Tm} (h:b=true∨n<2):Z1 (Jl s b n) a=if n=0 then [] else [hpt s b 0]:=by
  cases n with
  | zero=>rfl
  |
   succ n =>
   rw [if_neg (by omega)]
   have e:ways (Jl s b (n+1))=[hpt s b 0]:=by
     have e1:Jl s b (n+1)=hpt s b 0::(List.range n).map (fun i=>hpt s b (i+1)):=by
       unfold Jl; rw [List.range_succ_eq_map,List.map_cons,List.map_map]; rfl
     rw [e1]
     show List.foldl Jk [hpt s b 0] _=_
     refine Qgh fun x hx=>?_
     obtain ⟨i,hi,rfl⟩:=List.mem_map.1 hx
     have:=List.mem_range.1 hi
     rcases h with h | h
     · rw [h]; rfl
     · omega
   unfold Z1; rw [e]; rfl
theorem Qhn {s:List Int} (hs:∀ z∈s,0≤z∧z<15) {n:Nat} (hn:n≤5) (h2:2≤n) {t:Int} (ht:Qs 400000 (t:Rat)):Z1 (Jl s false n) (tq (t:Rat))=[hpt s false (Ws (Ye s t) n),hpt s false (Uo (Ye s t) n)]:=by
  have tgt:∀ {t q:Rat},Qu (tq t) q=-1↔t<q:=fun {t q}=>by
    rw [Qmd]; rcases Vi t q with ⟨e,h⟩ | ⟨e,h⟩ | ⟨e,h⟩ <;> grind
  obtain ⟨y,y1,y2⟩:=Qf2 (Qks (b:=false) hs hn) (Qkr s false n) (Qxj ht)
  have y1:=tgt.1 y1
  obtain ⟨q,hq⟩:∃ q:Rat,q=if y≤(t:Rat)+1 / 100 then y else (t:Rat)+1 / 100:=⟨_,rfl⟩
  have q1:(t:Rat)<q:=by grind
  have q2:q≤y:=by grind
  have q3:q≤(t:Rat)+1 / 100:=by grind
  have S:=y2 q (tgt.2 q1) q2
  obtain ⟨d,hd⟩:∃ d:Rat,d=q-t:=⟨_,rfl⟩
  have d0:0<d:=by grind
  have d1:d≤1 / 100:=by grind
  have pp:∀ i,px (hpt s false i) q=((Ye s t i:Int):Rat)+((i:Int):Rat)*d:=fun i=>by
    rw [Q0w]; unfold Ye; rw [Rat.intCast_add,Rat.intCast_mul]; grind
  have hcmp:∀ i k,i<n→k<n→(Ye s t i<Ye s t k∨Ye s t i=Ye s t k∧i<k)→px (hpt s false i) q<px (hpt s false k) q:=fun i k hi hk h=>by
    rw [pp,pp]
    have i4:((i:Int):Rat)≤((4:Int):Rat):=Rat.intCast_le_intCast.2 (by omega)
    have k0:((0:Int):Rat)≤((k:Int):Rat):=Rat.intCast_le_intCast.2 (by omega)
    have m1:=Rat.mul_nonneg (show (0:Rat)≤((4:Int):Rat)-((i:Int):Rat) by grind) (Rat.le_of_lt d0)
    have m2:=Rat.mul_nonneg (show (0:Rat)≤((k:Int):Rat) by exact k0) (Rat.le_of_lt d0)
    rcases h with h | ⟨h,h'⟩
    · have h3:((Ye s t i+1:Int):Rat)≤((Ye s t k:Int):Rat):=Rat.intCast_le_intCast.2 (by omega)
      rw [Rat.intCast_add] at h3
      have e1:((1:Int):Rat)=1:=rfl
      have e4:((4:Int):Rat)=4:=rfl
      grind
    · rw [h]
      have h3:((i:Int):Rat)<((k:Int):Rat):=Rat.intCast_lt_intCast.2 (by omega)
      have:=Rat.mul_pos (show (0:Rat)<((k:Int):Rat)-((i:Int):Rat) by grind) d0
      grind
  have hw:ways (Jl s false n)=Jl s false n:=Qxk (by
    unfold Jl
    rw [List.pairwise_map]
    refine List.Pairwise.imp (fun {i k} h e=>?_) (List.pairwise_lt_range (n:=n))
    have e:Qq [s.getD i 0,(i:Int)]=Qq [s.getD k 0,(k:Int)]:=congrArg Crv.x e
    have e2:=congrArg (fun l:List Int=>l.getD 1 0) e
    simp only [Gt] at e2
    have e2:(i:Int)=(k:Int):=e2
    omega)
  obtain ⟨m,rfl⟩:∃ m,n=m+1:=⟨n-1,by omega⟩
  obtain ⟨f1,f2⟩:=Qbr (Ye s t) m
  obtain ⟨l1,l2⟩:=Qb2 (Ye s t) m
  have mem:∀ i,i<m+1→hpt s false i∈Jl s false (m+1):=fun i hi=>List.mem_map_of_mem (List.mem_range.2 hi)
  have idx:∀ x∈Jl s false (m+1),∃ i,i<m+1∧x=hpt s false i:=fun x hx=>by
    obtain ⟨i,hi,rfl⟩:=List.mem_map.1 hx
    exact ⟨i,List.mem_range.1 hi,rfl⟩
  refine Qnj S (fun u hu v hv w hw=>?_) (by rw [hw]; exact mem _ f1) (by rw [hw]; exact mem _ l1) (fun e=>?_) (fun x hx hne=>?_) fun x hx hne=>?_
  · obtain ⟨i,_,rfl⟩:=idx u hu
    obtain ⟨j,_,rfl⟩:=idx v hv
    obtain ⟨k,_,rfl⟩:=idx w hw
    unfold Yq
    simp only [Q0x]; grind
  · have e:((Ws (Ye s t) (m+1):Nat):Int)=((Uo (Ye s t) (m+1):Nat):Int):=congrArg Pt.id e
    by_cases h0:Ws (Ye s t) (m+1)=0
    · have:=f2 1 (by omega) (by omega); have:=l2 1 (by omega) (by omega)
      have e':Ws (Ye s t) (m+1)=Uo (Ye s t) (m+1):=by omega
      rw [←e'] at this; omega
    · have:=f2 0 (by omega) (by omega); have:=l2 0 (by omega) (by omega)
      have e':Ws (Ye s t) (m+1)=Uo (Ye s t) (m+1):=by omega
      rw [←e'] at this; omega
  · rw [hw] at hx
    obtain ⟨k,hk,rfl⟩:=idx x hx
    exact .inl (hcmp _ k f1 hk (f2 k hk fun e=>hne (by rw [e])))
  · rw [hw] at hx
    obtain ⟨k,hk,rfl⟩:=idx x hx
    exact .inl (hcmp k _ hk l1 (l2 k hk fun e=>hne (by rw [e])))
end Orq

namespace Orr
open Go Go.Proofs Orq
set_option maxRecDepth 10000
end Orr
