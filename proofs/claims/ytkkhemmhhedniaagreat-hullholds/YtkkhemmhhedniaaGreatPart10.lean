/- HullT H4 SD1 SC1 NewsN W1 W2 WR18 WS18 X20 B20 TouL TouQ RiseL AscL HLineL A20 WL20 WS20 Z1 Z2 Z3 Z4 Z5 Z6 Z7 HoS HoH K5 Z8 R27 R28 Hal20 WH20 ReadN LastN LastR -/
import Derived.Test.YtkkhemmhhedniaaGreatPart09
import Derived.Test.YtkkhemmhhedniaaGreatPart00
import Derived.Test.YtkkhemmhhedniaaGreatPart08
import Derived.Test.YtkkhemmhhedniaaGreatPart04
import Derived.Test.YtkkhemmhhedniaaGreatPart05
import Derived.Test.YtkkhemmhhedniaaGreatPart07
import Derived.Deep.Slices
import Derived.ProofKit
import Derived.OpenShut
import Derived.WideKeyArgs
import Derived.SizedLaws
set_option linter.all false
namespace Orq
open Orr Go
section
variable {α:Type} {lt lt':α->α->Bool}
theorem Qmx {out:List α} {x:α} (h:∀ y∈out,lt x y=lt' x y):∀ k,Sv lt out x k=Sv lt' out x k
 | 0=>rfl
 |
  k+1=>by
  simp only [Sv];cases hy:out[k]? with
  | none=>rfl
  | some y=>simp only [h y (Qa hy),Qmx h k]
theorem Qii {l:List α} (h:∀ u∈l,∀ v∈l,lt u v=lt' u v):∀ (m out:List α),(∀ x∈m,x∈l)->(∀ x∈out,x∈l)->m.foldl (M8 lt) out=m.foldl (M8 lt') out
 | [],_,_,_=>rfl
 |
  x::m,out,h1,h2=>by
  have e:M8 lt out x=M8 lt' out x:=by
   unfold M8; rw [Qmx λy hy=>h x (h1 x (by simp)) y (h2 y hy)]
  simp only [Xg];rw [e];exact Qii h m _ (λy hy=>h1 y (Qj _ hy)) λy hy=>by
   rcases Qfa.1 hy with rfl | hy
   ·exact h1 _ (by simp)
   ·exact h2 y hy
end
theorem Q0v {a:Tm} {l:List Pt} {q:Rat} (hb:∀ u∈l,∀ v∈l,(Sj (Hk a) u v=true↔C4 q u v)) (hd:l.Pairwise λx y=>x.id≠y.id):(Pp a l).Pairwise (C4 q) :=
 foldG_pw (S:=λx=>x∈l) (D:=λx y=>x.id≠y.id) (Qcr q) (λu v hu hv h=>(hb u hu v hv).1 h) (λu v hu hv hne h=>Qvs (λe=>hne e.symm) λh'=>by
  rw [(hb u hu v hv).2 h'] at h; cases h) l [] .nil (λx hx=>by cases hx) (λx hx=>hx) hd (λx hx=>by cases hx)
theorem Zmt {a:Tm} (ha:Va a) {u v:Pt} (hu:Sc u.c) (hv:Sc v.c) {q:Rat} (h1:Tg (Hk a) (Hp u.c v.c)=Fo (Fe (Hp u.c v.c) q)) (h2:Tg (Hk a) (Re u.c v.c)=Fo (Fe (Re u.c v.c) q)) (hne:u.c≠v.c) (h:C4 q u v):lx (px · q) (py · q) u v:=by
 rcases h with h | ⟨h,h3⟩
 ·exact .inl h
 rcases h3 with h3 | ⟨h3,_⟩
 ·exact .inr ⟨h,h3⟩
 ·exfalso;rw [Qqf hu hv] at h1;rw [Qqd hu hv] at h2;have z1:Fo (px v q-px u q)=0:=Gk.2 (by grind);have z2:Fo (py v q-py u q)=0:=Gk.2 (by grind);rw [z1] at h1;rw [z2] at h2;have e1:(Hp u.c v.c).length=0:=Decidable.byContradiction λe=>(Qac ha (Qbg hu hv).dp e).2 h1
  have e2:(Re u.c v.c).length=0:=Decidable.byContradiction λe=>(Qac ha (Qbf hu hv).dp e).2 h2
  exact hne (Zia hu.n hv.n (Qh e1) (Qh e2))
structure LowC (X Y:Pt->Rat) (R L:List Pt):Prop where
 hd:L.head? = R.head?
 la:L.getLast? = R.getLast?
 srt:L.Pairwise (lx X Y)
 mem:∀ p∈L,p∈R
 edg:Edg (λa b=>∀ p∈R,0≤Bi X Y a b p) L
 cnv:Cnv (λa b c=>0<Bi X Y a b c) L
theorem Qoi {X Y:Pt->Rat} {sg:List Int->Int} {R:List Pt} (hs:∀ a∈R,∀ b∈R,∀ c∈R,(Qfe sg a b c=true↔0<Bi X Y a b c)) (hR:R.Pairwise (lx X Y)) (h0:R≠[]):LowC X Y R (Pu sg R):=by
 cases R with
 | nil=>exact absurd rfl h0
 |
  cons f R =>
  obtain ⟨t,st,g1,g2,g3,g4⟩:=Qoj hs hR R [f] f [] rfl ⟨Vp _ _,λp hp=>by rw [Qk.1 hp]; simp,trivial,trivial⟩ rfl rfl;have e:Pu sg (f::R)=(t::st).reverse:=by
   unfold Pu;rw [<-g1]; rfl
  rw [e];exact ⟨by rw [List.head?_reverse,g4],by rw [List.getLast?_reverse]; exact g3.symm,Wp.2 g2.srt,λp hp=>g2.mem p (Jt.1 hp),g2.edg.rev,g2.cnv.rev⟩
theorem Zm8 {X Y:Pt->Rat} {R:List Pt} (hR:R.Pairwise (lx X Y)):∀ p∈R,∀ q∈R,p=q\/lx X Y p q\/lx X Y q p:=λp hp q hq=>by
 by_cases e:p=q
 ·exact .inl e
 ·exact .inr (Qw1 hR hp hq e)
theorem Zbw {X Y:Pt->Rat} {R L L':List Pt} (hR:R.Pairwise (lx X Y)) (h:LowC X Y R L) (h':LowC X Y R L'):L=L':=by
 have hh:=h.hd.trans h'.hd.symm;have hl:=h.la.trans h'.la.symm;cases L with
 |
  nil=>cases L' with
  | nil=>rfl
  | cons _ _=>simp at hh
 |
  cons f M=>cases L' with
  | nil=>simp at hh
  |
   cons f' M' =>
   simp at hh;subst hh;obtain ⟨z,hz⟩:∃ z,(f::M).getLast? = some z:=⟨_,Yv (by simp)⟩;rw [Q95 (Zm8 hR) M M' f h.srt h'.srt h.mem h'.mem h.edg h'.edg h.cnv h'.cnv hz (hl ▸ hz)]
theorem Qxb {x y:Rat} (h:Fo x=Fo y):(0<=x->0<=y)/\(0<x->0<y):=by
 have h1:=Gp x;have h2:=Gp y;grind
theorem Qun {X Y X' Y':Pt->Rat} {R:List Pt}:∀ {L:List Pt},(∀ p∈L,p∈R)->(∀ e∈Au L,∀ p∈R,Fo (Bi X Y e.1 e.2 p)=Fo (Bi X' Y' e.1 e.2 p))->Cnv (λa b c=>0<Bi X Y a b c) L->Cnv (λa b c=>0<Bi X' Y' a b c) L
 | [],_,_,_=>trivial
 | [_],_,_,_=>trivial
 | [_,_],_,_,_=>trivial
 | a::b::c::l,hm,he,h=>⟨(Qxb (he (a,b) (by simp [Au]) c (hm c (by simp)))).2 h.1,Qun (λp hp=>hm p (Qj _ hp)) (λe hx=>he e (Qj _ hx)) h.2⟩
theorem Qvv {X Y X' Y':Pt->Rat} {R L:List Pt} (h:LowC X Y R L) (hl:∀ u∈R,∀ v∈R,lx X Y u v->lx X' Y' u v) (he:∀ e∈Au L,∀ p∈R,Fo (Bi X Y e.1 e.2 p)=Fo (Bi X' Y' e.1 e.2 p)):LowC X' Y' R L :=
 ⟨h.hd,h.la,h.srt.imp_of_mem λhu hv h'=>hl _ (h.mem _ hu) _ (h.mem _ hv) h',h.mem,Qrp.2 λe hx p hp=>(Qxb (he e hx p hp)).1 (Qrp.1 h.edg e hx p hp),Qun h.mem he h.cnv⟩
theorem Qso (X Y:Pt->Rat) (a b c:Pt):Bi (λp=>-X p) (λp=>-Y p) a b c=Bi X Y a b c:=by unfold Bi; grind
theorem Qsd {X Y:Pt->Rat} {a b:Pt}:lx (λp=>-X p) (λp=>-Y p) a b↔lx X Y b a:=by unfold lx; grind
theorem Zk1 {L:List Pt} {f z:Pt} (h1:L.head? = some f) (h2:L.getLast? = some z) (hne:f≠z):∃ A,L=f::A++[z]:=by
 cases L with
 | nil=>cases h1
 |
  cons g M =>
  simp at h1;subst h1;cases M with
  | nil=>simp at h2; exact absurd h2 hne
  |
   cons x M =>
   rw [Ye] at h2;obtain ⟨A,hA⟩:=Vh.1 h2;exact ⟨A,by rw [hA]; rfl⟩
theorem Qlx {α β:Type} {f g:α->List β}:∀ {m:List α},(∀ x∈m,f x=g x)->m.flatMap f=m.flatMap g
 | [],_=>rfl
 | x::m,h=>by rw [Yg,Yg,h x (by simp),Qlx λy hy=>h y (Qj _ hy)]
theorem Qvi {sa sb:List Int->Int} {l C:List Pt} (h:∀ x∈Md sa l C,Tg sb x.p=Tg sa x.p):Md sb l C=Md sa l C:=by
 by_cases h2:C.length<2
 ·unfold Md; rw [if_pos h2,if_pos h2]
 ·have e:∀ s,Md s l C=(Gq C).flatMap (Pw s l):=λs=>if_neg h2
  rw [e] at h ⊢;rw [e];refine Qlx λx hx=>Vn λc hc=>?_
  have:=h (Mv sa x.1 x.2 c) (Z0.2 ⟨x,hx,Kz hc⟩);show (⟨3,x.1.id,x.2.id,c.id,0,Hm x.1.c x.2.c c.c,Tg sb (Hm x.1.c x.2.c c.c)⟩:Ct)=⟨3,x.1.id,x.2.id,c.id,0,Hm x.1.c x.2.c c.c,Tg sa (Hm x.1.c x.2.c c.c)⟩;have this:Tg sb (Hm x.1.c x.2.c c.c)=Tg sa (Hm x.1.c x.2.c c.c):=this;rw [this]
theorem Q4w {l:List Pt} (hd:l.Pairwise λx y=>x.id≠y.id) {u v:Pt} (hu:u∈l) (hv:v∈l) (h:u.id=v.id):u=v:=by
 refine Classical.byContradiction λe=>?_
 rcases Qw1 hd hu hv e with h' | h'
 ·exact h' h
 ·exact h' h.symm
structure Soon (l:List Pt) (a:Tm) (q:Rat):Prop where
 g:∀ p∈Qem l++Qki l,Tg (Hk a) p=Fo (Fe p q)
 b:∀ u∈l,∀ v∈l,(Sj (Hk a) u v=true↔C4 q u v)
 o:∀ u∈l,∀ v∈l,∀ w∈l,Tg (Hk a) (Hm u.c v.c w.c)=Fo (Bi (px · q) (py · q) u v w)
 t:∀ u∈l,∀ v∈l,∀ w∈l,(Qfe (Hk a) u v w=true↔0<Bi (px · q) (py · q) u v w)
 r:(Pp a (Nb l)).Pairwise (lx (px · q) (py · q))
theorem Zd7 {l:List Pt} (hl:∀ p∈l,Sc p.c) (hd:l.Pairwise λx y=>x.id≠y.id) {a:Tm} (ha:Va a):∃ y,Fv a y=-1/\∀ q,Fv a q=-1->q≤y->Soon l a q:=by
 obtain ⟨y,y1,y2⟩:=Ql4 ha (Qem l++Qki l) λp hp=>(Qjk hl p hp).dp
 refine ⟨y,y1,λq q1 q2=>?_⟩;have g:=y2 q q1 q2;have gP:=λp hp=>g p (J9 _ hp)
 have b:∀ u∈l,∀ v∈l,(Sj (Hk a) u v=true↔C4 q u v):=λu hu v hv=>Qko ha (hl u hu) (hl v hv) (gP _ (D6 hu hv).1) (gP _ (D6 hu hv).2)
 have o:∀ u∈l,∀ v∈l,∀ w∈l,Tg (Hk a) (Hm u.c v.c w.c)=Fo (Bi (px · q) (py · q) u v w):=λu hu v hv w hw=>by
  rw [g _ (Yn _ (Qt7 hu hv hw)),Q02 (hl u hu) (hl v hv) (hl w hw)]
 refine ⟨g,b,o,λu hu v hv w hw=>?_,?_⟩
 ·unfold Qfe;rw [o u hu v hv w hw,decide_eq_true_eq];have:=Gp (Bi (px · q) (py · q) u v w);grind
 ·have hw:∀ u∈Nb l,u∈l:=λu hu=>Nv hu
  have h1:=Q0v (a:=a) (l:=Nb l) (q:=q) (λu hu v hv=>b u (hw u hu) v (hw v hv)) (List.Pairwise.sublist (Zex l) hd);have h2:(Pp a (Nb l)).Pairwise λx y=>x.c≠y.c:=(List.Perm.pairwise_iff (λ{x y} h e=>h e.symm) (Qnf (lt:=Sj (Hk a)) (Nb l))).2 (Zjp l)
  refine (h1.and h2).imp_of_mem λ{u v} hu hv h=>?_
  have hu:=hw u (Rj.1 hu);have hv:=hw v (Rj.1 hv);exact Zmt ha (hl u hu) (hl v hv) (gP _ (D6 hu hv).1) (gP _ (D6 hu hv).2) h.2 h.1
theorem Q4x {l:List Pt} (hl:∀ p∈l,Sc p.c) (hd:l.Pairwise λx y=>x.id≠y.id) {a:Tm} (ha:Va a):∃ q,Soon l a q :=
 let ⟨y,h1,h2⟩:=Zd7 hl hd ha
 ⟨y,h2 y h1 Qq⟩
theorem Qla {l:List Pt} {a:Tm} {q:Rat} (S:Soon l a q) (h3:3<=(Pp a (Nb l)).length):∃ f z A B,Pu (Hk a) (Pp a (Nb l))=f::A++[z]/\Pu (Hk a) (Pp a (Nb l)).reverse=z::B++[f]/\LowC (px · q) (py · q) (Pp a (Nb l)) (f::A++[z])/\LowC (λp=>-px p q) (λp=>-py p q) (Pp a (Nb l)).reverse (z::B++[f])/\Gq (Rt l a)=Au (f::A++[z])++Au (z::B++[f])/\2<=(Rt l a).length:=by
 obtain ⟨R,hR⟩:=nmE (Pp a (Nb l));have hm:∀ x∈R,x∈l:=λx hx=>by rw [hR] at hx; exact Nv (Rj.1 hx)
 have r:=S.r;rw [<-hR] at r h3 ⊢;have h0:R≠[]:=λe=>by rw [e] at h3; simp at h3
 have c1:=Qoi (sg:=Hk a) (λu hu v hv w hw=>S.t u (hm u hu) v (hm v hv) w (hm w hw)) r h0;have r2:R.reverse.Pairwise (lx (λp=>-px p q) (λp=>-py p q)):=Wp.2 (r.imp λh=>Qsd.2 h);have c2:=Qoi (sg:=Hk a) (R:=R.reverse) (X:=λp=>-px p q) (Y:=λp=>-py p q) (λu hu v hv w hw=>by
  rw [Qso (px · q) (py · q)];exact S.t u (hm u (Jt.1 hu)) v (hm v (Jt.1 hv)) w (hm w (Jt.1 hw))) r2 (by simpa using h0)
 obtain ⟨f,hf⟩:∃ f,R.head? = some f:=by cases R with
  | nil=>exact absurd rfl h0
  | cons f _=>exact ⟨f,rfl⟩
 obtain ⟨z,hz⟩:∃ z,R.getLast? = some z:=⟨_,Yv h0⟩;have hne:f≠z:=λe=>by
  subst e;cases R with
  | nil=>exact absurd rfl h0
  |
   cons g M =>
   simp at hf; subst hf;cases M with
   | nil=>simp at h3
   |
    cons x M =>
    rw [Ye] at hz;exact Li _ ((Q6.1 r).1 g (Km hz))
 obtain ⟨A,hA⟩:=Zk1 (c1.hd.trans hf) (c1.la.trans hz) hne;obtain ⟨B,hB⟩:=Zk1 (c2.hd.trans (by rw [List.head?_reverse]; exact hz)) (c2.la.trans (by rw [List.getLast?_reverse]; exact hf)) (Ne.symm hne);have hc:Rt l a=(f::A++[z]).dropLast++(z::B++[f]).dropLast:=by
  unfold Rt Lm;rw [<-hR,if_neg (by omega),hA,hB]
 rw [hA] at c1;rw [hB] at c2;refine ⟨f,z,A,B,hA,hB,c1,c2,by rw [hc]; exact Qu7,?_⟩;rw [hc,Kl,Kl];simp; omega
theorem Q6f {l:List Pt} (hl:∀ p∈l,Sc p.c) (hd:l.Pairwise λx y=>x.id≠y.id) {a b:Tm} (ha:Va a) (hb:Va b) (h:∀ x∈bcH l a,Tg (Hk b) x.p=Tg (Hk a) x.p):Rt l b=Rt l a/\bcH l b=bcH l a:=by
 obtain ⟨q,Sa⟩:=Q4x hl hd ha;obtain ⟨r,Sb⟩:=Q4x hl hd hb;obtain ⟨k1,k2⟩:=Zdj hl hd ha hb λx hx=>h x (J9 _ hx)
 have pa:=Q0v Sa.b hd;have pb:=Q0v Sb.b hd;rw [k1] at pb;have pab:=pa.and pb;have lexs:∀ u∈l,∀ v∈l,(C4 q u v↔C4 r u v):=λu hu v hv=>by
  by_cases e:u=v
  ·subst e; exact ⟨λh=>absurd h (Qbw _ _),λh=>absurd h (Qbw _ _)⟩
  ·rcases Qw1 pab (Rj.2 hu) (Rj.2 hv) e with h' | h'
   ·exact ⟨λ_=>h'.2,λ_=>h'.1⟩
   ·exact ⟨λh=>absurd (Qcr _ _ _ _ h h'.1) (Qbw _ _),λh=>absurd (Qcr _ _ _ _ h h'.2) (Qbw _ _)⟩
 have bef:∀ u∈l,∀ v∈l,Sj (Hk b) u v=Sj (Hk a) u v:=λu hu v hv=>by
  have h1:=Sa.b u hu v hv;have h2:=Sb.b u hu v hv;have h3:=lexs u hu v hv;cases e1:Sj (Hk a) u v <;> cases e2:Sj (Hk b) u v <;> rw [e1] at h1 <;> rw [e2] at h2 <;> simp_all
 have eR:Pp b (Nb l)=Pp a (Nb l):=Qii (l:=Nb l) (λu hu v hv=>bef u (Nv hu) v (Nv hv)) (Nb l) [] (λx hx=>hx) λx hx=>by cases hx
 have hm:∀ x∈Pp a (Nb l),x∈l:=λx hx=>Nv (Rj.1 hx)
 have rb:=Sb.r;rw [eR] at rb;have hc:Rt l b=Rt l a:=by
  by_cases h3:(Pp a (Nb l)).length<3
  ·unfold Rt Lm;rw [eR,if_pos h3,if_pos h3]
  ·obtain ⟨f,z,A,B,hA,hB,c1,c2,hE,hC2⟩:=Qla Sa (by omega);obtain ⟨f',z',A',B',hA',hB',c1',c2',hE',_⟩:=Qla Sb (by rw [eR]; omega);rw [eR] at hA' hB' c1' c2';have sgs:∀ e∈Gq (Rt l a),∀ p∈Pp a (Nb l),Fo (Bi (px · q) (py · q) e.1 e.2 p)=Fo (Bi (px · r) (py · r) e.1 e.2 p):=λe he p hp=>by
    obtain ⟨m1,m2⟩:=Qbm he;have m1:=Bs m1;have m2:=Bs m2;have m3:=hm p hp;by_cases ho:Pj e p=true
    ·have hx:Mv (Hk a) e.1 e.2 p∈bcH l a:=by
      refine Yn _ ?_;unfold Md;rw [if_neg (by omega)];exact Z0.2 ⟨e,he,Kz (K8.2 ⟨m3,ho⟩)⟩
     have hg:Tg (Hk b) (Hm e.1.c e.2.c p.c)=Tg (Hk a) (Hm e.1.c e.2.c p.c):=h _ hx;rw [<-Sa.o _ m1 _ m2 _ m3,<-Sb.o _ m1 _ m2 _ m3,hg]
    ·have hz:∀ X Y:Pt->Rat,Bi X Y e.1 e.2 p=0:=λX Y=>by
      by_cases e1:p.id=e.1.id
      ·rw [Q4w hd m3 m1 e1]; exact (Qfn _ _).1
      ·by_cases e2:p.id=e.2.id
       ·rw [Q4w hd m3 m2 e2]; exact (Qfn _ _).2
       ·exact absurd (by simp [Pj,e1,e2]) ho
     rw [hz,hz]
   have hlx:∀ u∈Pp a (Nb l),∀ v∈Pp a (Nb l),lx (px · q) (py · q) u v->lx (px · r) (py · r) u v:=λu hu v hv huv=>by
    have ra:=Sa.r;by_cases e:u=v
    ·subst e; exact absurd huv (Li _)
    ·rcases Qw1 (ra.and rb) hu hv e with h' | h'
     ·exact h'.2
     ·exact absurd (Qvy huv h'.1) (Li _)
   have e1:=Zbw rb (Qvv c1 hlx λe he=>sgs e (by rw [hE]; exact J9 _ he)) c1';have rb2:(Pp a (Nb l)).reverse.Pairwise (lx (λp=>-px p r) (λp=>-py p r)):=Wp.2 (rb.imp λh=>Qsd.2 h);have e2:=Zbw rb2 (Qvv c2 (λu hu v hv huv=>Qsd.2 (hlx v (Jt.1 hv) u (Jt.1 hu) (Qsd.1 huv))) λe he p hp=>by
    rw [Qso (px · q) (py · q),Qso (px · r) (py · r)];exact sgs e (by rw [hE]; exact Yn _ he) p (Jt.1 hp)) c2'
   unfold Rt Lm;rw [eR,if_neg h3,if_neg h3,hA,hB,hA',hB',e1,e2]
 refine ⟨hc,?_⟩;unfold bcH;rw [hc,k2,Qvi λx hx=>h x (Yn _ hx)]
theorem Zp8 {l:List Pt} (hl:∀ p∈l,Sc p.c) (hn:l.length≤10) (hd:l.Pairwise λx y=>x.id≠y.id):Stab (bcH l) (brH l):=by
 refine ⟨Qx3 hl hn,⟨Qem l++Qki l,Qjk hl,λa _ x hx=>Qqv x hx⟩,λa b ha hb h=>?_⟩;obtain ⟨e1,e2⟩:=Q6f hl hd ha hb h;exact ⟨e2,by show Fh _=Fh _; rw [e1]⟩
end Orq
namespace Orr
open Go Go.Proofs Orq
set_option maxRecDepth 10000
theorem Zos {T:Nat} {t:Rat} {Bc:Tm->List Ct} {Br:Tm->List (List LV)} {r0:List (List LV)} (ht:Qs 400000 t) (hB:BuildOk Bc)
 (hb:∀ a c r1,Va a->CrOk c->Rh Tryz.prog 113 [.one (.ow 0 0),.agg (ta a)] [.blk T (C7 c r0 r1)] [.one (.row (Gm (Bc a)))] [.blk T (C7 c r0 (Br a))])
 {K:Nat} {c c':Cr} {r1 r1':List (List LV)} {n:Int} (hc:CrOk c) (hev:0<=c.ev/\c.ev+K<=1000000000000000000) (h:Fv c.now t<=0) (hg:goF Bc Br t K c r1 0=some (c',r1',n)) :
 Rh Tryz.prog 97 [.one (.ow 0 0),.agg (rl t),.one (.ofn 113 [.ow 0 0] [])] [.blk T (C7 c r0 r1)] [.one (.int .i64 n),.one (.int .i64 0)] [.blk T (C7 c' r0 r1')]:=by
 have qt:Qb t:=ht.mono (by decide);have c1:=Qkr hc.n.tb qt;refine Hl Tryz.func97 rfl ?_;refine go tt [.c [0] (Qye hc.n),.c [] c1,.f (by simpa using h)] rfl trivial ?_;refine lp (S:=Nat×Cr×List (List LV)×Int) 2 (λL1 s=>(8,.v (.one (.int .i64 s.2.2.2)))::L1) (λs=>[.blk T (C7 s.2.1 r0 s.2.2.1),.blk 72 (rl t)]) (λs=>s.1) (λs=>CrOk s.2.1/\(0<=s.2.1.ev/\s.2.1.ev+s.1<=1000000000000000000)/\(0<=s.2.2.2/\s.2.2.2+s.1<=1000000000000000000)/\goF Bc Br t s.1 s.2.1 s.2.2.1 s.2.2.2=some (c',r1',n)) (K,c,r1,0) ⟨hc,hev,⟨Int.le_refl 0,by dsimp only; omega⟩,hg⟩ rfl (λ_ _=>rfl) rfl λ⟨k,x,r,m⟩ ⟨j1,j2,j3,j4⟩=>?_
 dsimp only at j1 j2 j3 j4 ⊢;cases k with
 | zero=>cases j4
 |
  succ k =>
  simp only [goF] at j4;obtain ⟨ws,w1,j4⟩:=Qg.1 j4;obtain ⟨o,o1,j4⟩:=Qg.1 j4;have cn:=Qqz (T:=T) (r0:=r0) (r1:=r) j1 w1 o1;have ca:=Zka (Fb t.num) (Fb (t.den:Int)) (Qc ht.1 (by decide)) (Qc ht.2 (by decide)) (by rw [Qam]; exact ht.mono (by decide));rw [Qam] at ca;cases o with
  |
   none =>
   injection j4 with j4; injection j4 with e1 j4; injection j4 with e2 e3;subst e1; subst e2; subst e3;exact ed tt [] [0] [.c [0] cn,.g 25 true rfl,.t rfl,.c [] ca] rfl trivial
  |
   some a =>
   have ha:=Zm3 j1 w1 o1;dsimp only at j4;have cc:=Qkr ha.tb qt;by_cases h0:0<Fv a t
   ·rw [if_pos h0] at j4;injection j4 with j4; injection j4 with e1 j4; injection j4 with e2 e3;subst e1; subst e2; subst e3;exact ed tt [] [0] [.c [0] cn,.g 25 false rfl,.c [] cc,.t (by simpa using h0),.c [] ca] rfl trivial
   ·rw [if_neg h0] at j4;obtain ⟨w2,l1,j4⟩:=Qg.1 j4;have j1':=Qcu j1 w1;have cl:=Ir (b:=a) (l:=[]) ha.tb (λt ht=>by cases ht) (by decide) rfl;have cb:=hb a { x with l:=ws } r ha j1';have cy:=Zfz (T:=T) (r0:=r0) (r1:=Br a) j1' ha (hB.p a ha) (hB.n a ha) l1;have hf:decide (0<Fv a t)=false:=by simpa using h0
    refine go tt [.c [0] cn,.g 25 false rfl,.c [] cc,.f hf,.c [] cl,.c [0] cb,.c [0] cy] rfl (by simp [U9]; omega) ?_;exact rd (k,⟨a,w2,x.ev+1⟩,Br a,m+1) (by dsimp only; omega) ⟨lay_ok _ j1' ha (hB.p a ha) (hB.n a ha) l1,by dsimp only; omega,by dsimp only; omega,j4⟩ rfl
def Q5e (l:List Pt) (a:Tm):Cr:=⟨a,(H8 (bcH l a)).map fresh,0⟩
theorem Q1z {zs:List (List LV)} {qs l:List Pt} {x y x' y':LV} {n d:Int} (hz:IsPts 4294967294 1073741824 zs qs) (hq:qs.length≤6) (hnl:Pi [] qs=(l,0)) (hl:∀ p∈l,Sc p.c) (hn:l.length≤10) (h1:To x y n) (h2:To x' y' d) (bn:Fq n≤4294967295) (bd:Fq d≤4294967295) (ht:Qs 400000 (He n d)) :
 Rh Tryz.prog 66 [.agg [x,y,x',y'],.one (.row zs)] [] [.one (.ow 0 0),.one (.int .i64 0)] [.blk 124 (C7 (Q5e l (tq (He n d))) (Fh l) (brH l (tq (He n d))))]:=by
 have cn:=Zou hz hq;rw [hnl] at cn;have co:=Zka h1 h2 bn bd (ht.mono (by decide));have hv:=Zev ht;have hB:=Qx3 hl hn;have cb:=Q5i hl hn hv;have cg:=Q5l (T:=124) (r0:=Fh l) (r1:=brH l (tq (He n d))) hv (hB.p _ hv) (hB.n _ hv);obtain ⟨b,l1,rfl,rfl,_⟩:=h1;obtain ⟨b',l2,rfl,rfl,_⟩:=h2;refine Hl Tryz.func66 rfl ?_;exact ed tt [] [2] [.c [] cn,.f rfl,.c [] co,.c [2] cb,.c [2] cg] rfl trivial
theorem Q8j {t:Rat} {l:List Pt} {K:Nat} {c c':Cr} {r1 r1':List (List LV)} {n:Int} (ht:Qs 400000 t) (hl:∀ p∈l,Sc p.c) (hn:l.length≤10) (hc:CrOk c) (hev:0≤c.ev/\c.ev+K≤1000000000000000000) (h:Fv c.now t≤0) (hg:goF (bcH l) (brH l) t K c r1 0=some (c',r1',n)) :
 Rh Tryz.prog 50 [.one (.ow 0 0),.agg (rl t)] [.blk 124 (C7 c (Fh l) r1)] [.one (.int .i64 n),.one (.int .i64 0)] [.blk 124 (C7 c' (Fh l) r1')]:=by
 have cg:=Zos (T:=124) (r0:=Fh l) ht (Qx3 hl hn) (λa c r1 ha _=>Q5j (c:=c) (r1:=r1) hl hn ha) hc hev h hg;refine Hl Tryz.func50 rfl ?_;exact ed tt [] [0] [.c [] (Ow (ht.mono (by decide))),.c [0] cg] rfl trivial
theorem Qyd {c:Cr} {l s:List Pt} (hs:s.length<=1000000):Rh Tryz.prog 11 [.one (.ow 0 0)] [.blk 124 (C7 c (Fh l) (Fh s))] [.one (ids (s.map (·.id)))] [.blk 124 (C7 c (Fh l) (Fh s))]:=by
 have hcl:=Tn s;refine Hl Tryz.func11 rfl ?_;refine go tt [.o 3 3 1] rfl trivial ?_;refine lp (S:=Nat) 2 (λL1 i=>(11,.v (.one (.int .i64 (i:Int))))::(3,.v (.one (.orow 1 1 none)))::L1) (λi=>[.blk 124 (C7 c (Fh l) (Fh s)),.row false 3 1 (((s.take i).map (·.id)).map λ(z:Int)=>[LV.int .i64 z])]) (λi=>s.length-i) (λi=>i<=s.length) 0 (Qi _) rfl (λ_ _=>rfl) rfl λi hi=>?_
 by_cases hlt:i<s.length
 ·obtain ⟨p,hp⟩:=gxE (l:=s) (i:=i) hlt;have hg:(((s.take (i+1)).map (·.id)).map λ(z:Int)=>[LV.int .i64 z])=(((s.take i).map (·.id)).map λ(z:Int)=>[LV.int .i64 z])++[[.int .i64 p.id]]:=by
   rw [Zq,hp]; simp
  refine go tt [.t (by simp [hcl]; omega),.x (Rp hp),.s (sz:=1) (l:=[[.int .i64 p.id]]) (λc hc=>by rw [Qk.1 hc]; rfl)] rfl (by simp [U9]; omega) ?_;exact rd (i+1) (by omega) hlt (by rw [hg]; rfl)
 ·obtain rfl:i=s.length:=by omega
  rw [Qy];exact ed tt [1] [0] [.f (by simp [hcl])] rfl trivial
theorem Zj5 {c:Cr} {l s:List Pt} {id:Int} (hs:s.length<=1000000):Rh Tryz.prog 14 [.one (.ow 0 0),.one (.int .i64 id)] [.blk 124 (C7 c (Fh l) (Fh s))] [.one (.bool (s.any λp=>decide (p.id=id)))] [.blk 124 (C7 c (Fh l) (Fh s))]:=by
 have hcl:=Tn s;refine Hl Tryz.func14 rfl ?_;refine go tt [] rfl trivial ?_;refine lp (S:=Nat) 1 (λL1 i=>(12,.v (.one (.int .i64 (i:Int))))::L1) (λ_=>[.blk 124 (C7 c (Fh l) (Fh s))]) (λi=>s.length-i) (λi=>i<=s.length/\(s.any λp=>decide (p.id=id))=(s.drop i).any λp=>decide (p.id=id)) 0 ⟨Qi _,by rw [Xu]⟩ rfl (λ_ _=>rfl) rfl λi ⟨hi,he⟩=>?_
 by_cases hlt:i<s.length
 ·obtain ⟨p,hp⟩:=gxE (l:=s) (i:=i) hlt;have hdr:s.drop i=p::s.drop (i+1):=by
   rw [Zl hlt]; congr 1;have:=Qd hlt; rw [hp] at this; injection this with this; exact this.symm
  rw [hdr,List.any_cons] at he;by_cases h:p.id=id
  ·rw [decide_eq_true h,Uq] at he;rw [he];exact ed tt [] [0] [.t (by simp [hcl]; omega),.x (Rp hp),.t (decide_eq_true h)] rfl trivial
  ·rw [decide_eq_false h,Ks] at he;refine go tt [.t (by simp [hcl]; omega),.x (Rp hp),.f (decide_eq_false h)] rfl (by simp [U9]; omega) ?_;exact rd (i+1) (by omega) ⟨hlt,he⟩ rfl
 ·obtain rfl:i=s.length:=by omega
  rw [Y0,List.any_nil] at he;rw [he];exact ed tt [] [0] [.f (by simp [hcl])] rfl trivial

end Orr
namespace Orr
open Go Go.Proofs Orq
theorem Qnb {x y:Int} (hx:-9223372036854775808<=x/\x<=9223372036854775807) (hy:-9223372036854775808<=y/\y<=9223372036854775807):Sc (A7 x y):=⟨Crv.nml _,((Quu hx hy).norm (by decide)).mono (by decide) (by decide)⟩
theorem Sc.pt {p:Pt} (h:Sc p.c):Qxy 4294967294 1073741824 p:=⟨h.n,h.c.mono (by decide) (by decide)⟩
end Orr
namespace Orr
open Go Go.Proofs
set_option maxRecDepth 10000
theorem Cs.up {s n s' n':Nat} {k:Crv} (h:Cs s n k) (hs:s<=s') (hn:n<=n'):Cs s' n' k:=⟨U8 h.x hs,U8 h.y hs,Qc h.d hs,Qc h.lx hn,Qc h.ly hn⟩
end Orr
namespace Orr
open Go Go.Proofs Orq
set_option maxRecDepth 10000
theorem Q52 {l m:List Pt} (h:l.Perm m) (hd:A9 l):A9 m:=(h.pairwise_iff (λh=>λe=>h e.symm)).1 hd
theorem Zeo {t q:Rat}:Fv (tq t) q=1↔q<t:=by
 rw [Qqk]; rcases Sy t q with ⟨e,h⟩ | ⟨e,h⟩ | ⟨e,h⟩ <;> grind
theorem Zen {t q:Rat}:Fv (tq t) q=-1↔t<q:=by
 rw [Qqk]; rcases Sy t q with ⟨e,h⟩ | ⟨e,h⟩ | ⟨e,h⟩ <;> grind
theorem Zjl {s t:Rat}:Nc (tq s) (tq t)↔s<t:=by
 constructor
 ·rintro ⟨q,h1,h2⟩
  have:=Zen.1 h1; have:=Zeo.1 h2; grind
 ·intro h;exact ⟨(s+t) / 2,Zen.2 (by grind),Zeo.2 (by grind)⟩
theorem Q5k {c:Cr} {r0:List (List LV)} {r1:List (List LV)}:Rh Tryz.prog 48 [.one (.ow 0 0)] [.blk 124 (C7 c r0 r1)] [.one (.ow 1 0)] [.blk 124 (C7 c r0 r1),.blk 124 (C7 c r0 r1)]:=by
 refine Hl Tryz.func48 rfl ?_;exact ed tt [] [0,1] [] rfl trivial
theorem Qyo {M:List Pt} {q:Rat} {c:List (List Int)} (hM:∀ p∈M,Rs p.c) (hl:M.length≤10) (hq:Qs 1000000 q) (hC:Q1l q c):Rh Tryz.prog 65 [.one (.ow 0 0)] [.blk 45 (plZ M q)] [] [.blk 45 (plB M q c (Qb9 q M))]:=by
 refine Hl Tryz.func65 rfl ?_;exact ed tt [] [0] [.c [] (Qug hq hC),.c [] (Qx8 (cs:=c) hM hl hq),.c [] (Q9r (Q63 q hl))] rfl trivial
theorem Q5o {zs:List RawPt} {n d:Int} {O M:List Pt} {e:Nat} {c:List (List Int)} (hz:∀ z∈zs,z.Ok) (hO:Qht 4 20 zs=O) (he:e≤O.length) (hd:A9 (Pz O e)) (hm:e<O.length->¬A9 (Pz O (e+1))) (hn:-9223372036854775808≤n/\n≤9223372036854775807) (hdd:-9223372036854775808≤d/\d≤9223372036854775807) (hC:Q1l (Qan n d) c) (hM:M=Gy Al (Qdb O e)) :
 Rh Tryz.prog 9 [.one (.row (Qf1 zs)),.one (.int .i64 n),.one (.int .i64 d)] [] [.one (.ow 0 0),.one (.ow 1 0),.one (.bool true)] [.blk 124 (C7 (Q5e M (tq (Qan n d))) (Fh M) (brH M (tq (Qan n d)))),.blk 45 (plB M (Qan n d) c (Qb9 (Qan n d) M))]:=by
 have hO4:O.length<=4:=by rw [<-hO]; exact Qbo _ _ (Qi _)
 have hid:∀ p∈O,-9223372036854775808≤p.id/\p.id≤9223372036854775807:=λp hp=>by
  rw [<-hO] at hp; have:=Zil p hp; omega
 have hlit:∀ p∈O,Q49 p:=λp hp=>by rw [<-hO] at hp; exact Qph (by decide) p hp
 have hcl:(Pz O e).length=e:=Qew he;have hcn:(Qdb O e).length=e:=by rw [Qit,hcl]
 have hMl:M.length=e:=by rw [hM,Te,hcn]
 have hok:∀ p∈M,Nml p.c/\Cs 10 3 p.c:=λp hp=>by rw [hM,Ma] at hp; exact Q2x hlit e p hp
 have hq:=Qqg n d;obtain ⟨q,hqq⟩:=nmE (Qan n d);have cb:=Q2j (l:=Qdb O e) (by omega);rw [<-hM] at cb;rw [<-hqq] at hq hC ⊢;have csm:=Zf6 hn hdd;have c2:=Qyo (M:=M) (q:=q) (c:=c) (λp hp=>⟨(hok p hp).1,(hok p hp).2.mono (by decide) (by decide)⟩) (by omega) (hq.mono (by decide)) hC;have ctr:=Q85 (q:=q) (hq.mono (by decide));have hnl:=Q6s (qs:=Qdb O e) (by omega) (Qop hd);have hnl2:Pi [] (Qdb O e)=(M,0):=by rw [hM,<-hnl.2,<-hnl.1]
 have cs:=Q1z (zs:=Fh (Pz O e)) (qs:=Qdb O e) (l:=M) (n:=q.num) (d:=(q.den:Int)) (Qpe λp hp=>(Quv hlit e p hp).mono (by decide) (by decide)) (by omega) hnl2 (λp hp=>⟨(hok p hp).1,(hok p hp).2.mono (by decide) (by decide)⟩) (by omega) (Fb q.num) (Fb (q.den:Int)) (Qc hq.1 (by decide)) (Qc hq.2 (by decide)) (by rw [Qam]; exact hq.mono (by decide));rw [Qam] at cs;rw [show He (Qa4 n 61-30) (1+Qa4 d 6)=q from hqq.symm] at csm;have cp:=Q5m hz;rw [hO] at cp;refine Hl Tryz.func9 rfl ?_;refine go tt [.c [0,1] cp] rfl trivial ?_;have h0l:=Tn O;refine ct 2 (S:=Unit) (λ_=>[(1,.v (.one (.int .i64 n))),(2,.v (.one (.int .i64 d))),(9,.v (.one (.row (Fh (Pz O e))))),(10,.v (.one (.row (Fy (Qdb O e)))))]) (λ_=>[.gone,.gone]) (λ_=>True) rfl ?_ (λ_ _=>?_)
 ·refine lp (S:=Nat) 2 (λL1 i=>(23,.v (.one (.int .i64 (i:Int))))::(9,.v (.one (.orow 0 5 none)))::(10,.v (.one (.orow 1 7 none)))::L1) (λi=>[.row false 135 5 (Fh (mix O i)),.row false 57 7 (Fy ((mix O i).map Pt.nrm))]) (λi=>O.length-i) (λi=>i<=O.length/\i<=e/\A9 (Pz O i)) 0 ⟨Qi _,Qi _,List.Pairwise.nil⟩ rfl (λ_ _=>rfl) (by rw [Zb1]; rfl) λi ⟨hi,hie,hdi⟩=>?_
  have hl1:(Fh (mix O (i+1))).length=O.length:=by rw [Tn,Qj0]
  have hl0:(Fh (mix O i)).length=O.length:=by rw [Tn,Qj0]
  have hr0:(Fy ((mix O i).map Pt.nrm)).length=O.length:=by rw [Rf,Q8,Qj0]
  have hr1:(Fy ((mix O (i+1)).map Pt.nrm)).length=O.length:=by rw [Rf,Q8,Qj0]
  by_cases h:i<O.length
  ·obtain ⟨p,hp⟩:=gxE (l:=O) (i:=i) h;have hx:=Zhx hp;have hxn:((mix O i).map Pt.nrm)[i]? = some p.nrm:=by rw [Zb,hx]; rfl
   have cw:=Qeq (v:=p.id) (n:=5) (hid p (Qa hp)) (by decide);rw [show Qa4 p.id 5=p.m5.id from rfl] at cw;refine go tt [.t (decide_eq_true (by omega)),.i i,.x (Rp hx),.c [] cw,.i i,.x (Rp hx),.c [] cw,.i i,.x (Rp hx),.i i,.x (Ga hxn)] rfl (by simp [U9,hl0,hr0]; omega) ?_;rw [Qsx hp,Qn4 hp];refine lp (S:=Nat) 2 (λL1 j=>(12,.v (.one (.int .i64 (j:Int))))::(9,.v (.one (.orow 0 5 none)))::(10,.v (.one (.orow 1 7 none)))::L1) (λ_=>[.row false 135 5 (Fh (mix O (i+1))),.row false 57 7 (Fy ((mix O (i+1)).map Pt.nrm))]) (λj=>i-j) (λj=>j<=i/\∀ k x,k<j->O[k]? = some x->x.m5.id≠p.m5.id) 0 ⟨Qi _,λk x h=>absurd h (U3 _)⟩ rfl (λ_ _=>rfl) rfl λj ⟨hj,hjn⟩=>?_
   by_cases hji:j<i
   ·obtain ⟨x,hxj⟩:=gxE (l:=O) (i:=j) (by omega);have g1:=Q3y (i:=i+1) (show j<i+1 by omega) hxj;have g2:=Q3y (i:=i+1) (show i<i+1 by omega) hp;by_cases hq:x.m5.id=p.m5.id
    ·have hnd:¬A9 (Pz O (i+1)):=λhD=>by
      have:=Vj.1 hD j i (by rw [Qew (by omega)]; omega) (by rw [Qew (by omega)]; omega) hji;refine this ?_;have e1:(Pz O (i+1))[j]? = some x.m5:=by unfold Pz; rw [List.getElem?_map,List.getElem?_take,if_pos (by omega),hxj]; rfl
      have e2:(Pz O (i+1))[i]? = some p.m5:=by unfold Pz; rw [List.getElem?_map,List.getElem?_take,if_pos (by omega),hp]; rfl
      rw [(Qf.1 e1).2,(Qf.1 e2).2]; exact hq
     have hie2:i=e:=by
      rcases Q9 i e with h3 | h3
      ·exact absurd (Zg5 hd h3) hnd
      ·omega
     have c1:(Fh (mix O (i+1))).take i=Fh (Pz O e):=by rw [Q60 (by omega) (by omega),hie2]
     have c2:(Fy ((mix O (i+1)).map Pt.nrm)).take i=Fy (Qdb O e):=by rw [Q0w (by omega) (by omega),hie2]
     refine go tt [.t (decide_eq_true (by omega)),.i j,.x (Rp g1),.i i,.x (Rp g2),.t (decide_eq_true hq),.i i,.i i] rfl (by simp [U9,hl1,hr1]; omega) ?_;refine pz 0 rfl rfl ?_;refine pz 1 rfl rfl ?_;exact go tt [.t (decide_eq_true (by omega))] rfl trivial (rc () trivial (by rw [c1,c2]; rfl))
    ·refine go tt [.t (decide_eq_true (by omega)),.i j,.x (Rp g1),.i i,.x (Rp g2),.f (decide_eq_false hq)] rfl (by simp [U9,hl1]; omega) ?_;exact rd (j+1) (by omega) ⟨hji,λk y hk hy=>by
      rcases Q9 k j with h3 | h3
      ·exact hjn k y h3 hy
      ·have:k=j:=by omega
       subst this; rw [hxj] at hy; injection hy with hy; rw [<-hy]; exact hq⟩ rfl
   ·have hji2:j=i:=by omega
    rw [hji2] at hjn;have hD:=Q53 hp hdi hjn;have hle:i+1<=e:=by
     rcases Q9 i e with h3 | h3
     ·exact h3
     ·have:i=e:=by omega
      rw [this] at hD h;exact absurd hD (hm h)
    refine go tt [.f (decide_eq_false (by omega)),.f (decide_eq_false (by omega))] rfl (by simp [U9]; omega) ?_;exact rd (i+1) (by omega) ⟨h,hle,hD⟩ rfl
  ·have hiO:i=O.length:=by omega
   have hie2:i=e:=by omega
   have c1:Fh (mix O i)=Fh (Pz O e):=by rw [<-hie2,hiO,Qv1]
   have c2:Fy ((mix O i).map Pt.nrm)=Fy (Qdb O e):=by rw [<-hie2,hiO,Qv1]; rfl
   refine go tt [] rfl trivial ?_;rw [c1,c2];refine pz 0 rfl rfl ?_;refine pz 1 rfl rfl ?_;exact go tt [.f (decide_eq_false (by omega))] rfl trivial (rc () trivial rfl)
 ·exact ed tt [] [3,2] [.c [] cb,.c [] csm,.c [2] c2,.c [] ctr,.c [3] cs,.g 96 true rfl] rfl trivial
end Orr
namespace Orr
open Go
end Orr
namespace Orq
open Orr Go
end Orq
namespace Orr
open Orq Go
end Orr
namespace Orr
open Orq
end Orr
namespace Orq
open Orr Go
def Lt (s:List Int) (i:Nat):Pt:=⟨⟨trim [(i:Int)],trim [s.getD i 0,(i:Int)],1⟩,10-(i:Int)⟩
end Orq
namespace Orr
end Orr
namespace Orq
open Orr Go
section
variable {α:Type} {s:α->α->α->Bool} {S:α->Prop}
end
def hfn (s:List Int) (same:Bool) (i:Nat):List Int:=if same=true then [3,2] else trim [s.getD i 0,(i:Int)]
def hpt (s:List Int) (same:Bool) (i:Nat):Pt:=⟨⟨hfn s same i,Ii (hfn s same i) (hfn s same i),1⟩,(i:Int)⟩
def Nl (s:List Int) (t:Int) (i:Nat):Int:=s.getD i 0+(i:Int)*t
end Orq
namespace Orr
open Go Go.Proofs Orq
set_option maxRecDepth 10000
theorem Q8a {c c':Cr} {l l' m:List Pt} {a:Tm} {r:List (List LV)} (hm:m.length<=10) (hr:r=brH m a):Rh Tryz.prog 51 [.one (.ow 0 0),.one (.ow 1 0)] [.blk 124 (C7 c (Fh l) r),.blk 124 (C7 c' (Fh l') r)] [.one (.bool true)] [.blk 124 (C7 c (Fh l) r),.blk 124 (C7 c' (Fh l') r)]:=by
 have hl:=Ix m a;have hr:r=Fh (Rt m a):=hr;rw [hr];have c1:=Qyd (c:=c) (l:=l) (s:=Rt m a) (by omega);have c2:=Qyd (c:=c') (l:=l') (s:=Rt m a) (by omega);have cs:=Q81 (a:=(Rt m a).map (·.id)) (b:=(Rt m a).map (·.id)) (by rw [Q8]; omega) (by rw [Q8]; omega);rw [decide_eq_true rfl] at cs;refine Hl Tryz.func51 rfl ?_;exact ed tt [] [0,1] [.c [0] c1,.c [1] c2,.c [] cs] rfl trivial
abbrev wkH:List Pt:=[⟨A7 1 0,1⟩,⟨A7 0 1,2⟩,⟨A7 0 0,3⟩]
theorem Zjr:(Rt wkH (tq 0)).map (·.id)=[3,1,2]:=by decide +kernel
theorem Zn7:(Rt wkH (tq 0)).any (λp=>decide (p.id=2))=true:=by decide +kernel
theorem Zn8:(Rt wkH (tq 0)).any (λp=>decide (p.id=9))=false:=by decide +kernel
theorem Zey:∀ p∈wkH,Sc p.c:=λp hp=>by
 rcases Qm.1 hp with rfl | hp
 ·exact Qnb (by decide) (by decide)
 rcases Qm.1 hp with rfl | hp
 ·exact Qnb (by decide) (by decide)
 ·rw [Qk.1 hp]; exact Qnb (by decide) (by decide)
theorem Qoo:Fa Tryz.prog 18 [] [.one (.bool true)]:=by
 have hq:Qs 400000 (He 0 0):=⟨by decide,by decide⟩;have ez:He 0 0=0:=by decide
 have zp:IsPts 4294967294 1073741824 (Fh [⟨A7 0 0,3⟩,⟨A7 0 1,2⟩,⟨A7 1 0,1⟩]) [⟨A7 0 0,3⟩,⟨A7 0 1,2⟩,⟨A7 1 0,1⟩]:=Q3k λp hp=>(Zey p (by simp at hp ⊢; rcases hp with h | h | h <;> simp [h])).pt
 have hnl:Pi [] [⟨A7 0 0,3⟩,⟨A7 0 1,2⟩,⟨A7 1 0,1⟩]=(wkH,0):=rfl;have cn:=Q1z zp (by decide) hnl Zey (by decide) Dl Dl (by decide) (by decide) hq;rw [ez] at cn;have hl:(Rt wkH (tq 0)).length<=1000000:=Qc (Ix _ _) (by decide);have ci:=Qyd (c:=Q5e wkH (tq 0)) (l:=wkH) hl;have o2:=Zj5 (c:=Q5e wkH (tq 0)) (l:=wkH) (id:=2) hl;have o9:=Zj5 (c:=Q5e wkH (tq 0)) (l:=wkH) (id:=9) hl;rw [Zjr] at ci;rw [Zn7] at o2;rw [Zn8] at o9;have cs:=Q81 (a:=[3,1,2]) (b:=[3,1,2]) (by decide) (by decide);refine Hl Tryz.func18 rfl ?_;exact en tt [.c [] (Qq3 (x:=0) (y:=0) (by decide) (by decide)),.c [] (Qq3 (x:=0) (y:=1) (by decide) (by decide)),.c [] (Qq3 (x:=1) (y:=0) (by decide) (by decide)),.c [0] cn,.g 17 true rfl,.g 21 true rfl,.c [0] ci,.c [] cs,.g 27 true rfl,.c [0] o2,.g 31 true rfl,.c [0] o9] rfl rfl trivial
theorem Q70 (l:List Pt):(Qki l).length=l.length*(l.length*l.length):=by
 have h:∀ {α:Type} (f:Pt->List α) (k:Nat) (m:List Pt),(∀ x,(f x).length=k)->(m.flatMap f).length=m.length*k:=λf k m hf=>by
  induction m with
  | nil=>simp
  | cons y m ih=>rw [Yg,Q4,ih,hf,Q7,Jg,Ky,Jm]
 unfold Qki;exact h _ _ _ λa=>h _ _ _ λb=>Q8 _
theorem Q7z {l:List Pt} (h:l.length<=10):(Qem l++Qki l).length<=1000000:=by
 rw [Q4,Q71,Q70];have h1:l.length*(l.length*2)<=10*(10*2):=Zh h (Zh h (Ql 2));have h2:l.length*(l.length*l.length)<=10*(10*10):=Zh h (Zh h h);omega
end Orr
namespace Orq
open Orr Go
theorem Qv4 {c x y:Rat} (hc:0<c) (h:c*x=c*y):x=y:=by
 have h1:1 / c*c=1:=Gx hc;have e:∀ z:Rat,z=1 / c*(c*z):=λz=>by grind
 rw [e x,h,<-e y]
theorem Qom (p:List Int):∀ i,i<=p.length->Av p i=Hz (p.take i)
 | 0,_=>rfl
 |
  i+1,h=>by
  have hx:p[i]? = some (p.getD i 0):=by rw [Qe,Qd (by omega)]; rfl
  rw [Qg8 hx,<-Qom p i (by omega)];rfl
theorem Zgw (p:List Int):((Orr.cont p:Nat):Int)=Se p:=by
 unfold Orr.cont Se; rw [Qom p _ (Nat.le_refl _),List.take_length]
theorem Zcp (p:List Int):Fx p=Fu p:=rfl
theorem Zaz (p:List Int):Nf p=Ha p:=by unfold Nf Ha; rw [Zgw,Zcp]
theorem Qeb (p:List Int) (k:Nat):(Hu p).getD k 0=p.getD k 0 / Ha p:=by
 unfold Hu;rw [Rz,Zaz]
 split
 ·rfl
 ·rename_i h; rw [Ra (by omega),Int.zero_ediv]
theorem Pq (p:List Int):Hu p=Fi p:=by
 unfold Fi
 split
 ·rename_i h; rw [List.eq_nil_of_length_eq_zero h]; rfl
 ·exact Qf9 (Qnk p) (Rl _) λk=>by rw [Qeb,Bj]
theorem Qwz (p:List Int) (k:Nat):(Td p).getD k 0=p.getD k 0 / Se p:=by
 unfold Td
 split
 ·rename_i h;rw [Qpt,Qeb];have:Ha p=-Se p:=if_pos h;rw [this,Int.ediv_neg,Int.neg_neg]
 ·rename_i h;rw [Qeb];have:Ha p=Se p:=if_neg h;rw [this]
theorem Qi7 (p:List Int):Fg (Td p):=by
 unfold Td; split
 ·exact Fw _ _
 ·exact Qnk p
theorem Qiz (p:List Int):Td p=Ad p:=by
 unfold Ad
 split
 ·rename_i h; rw [List.eq_nil_of_length_eq_zero h]; rfl
 ·exact Qf9 (Qi7 p) (Rl _) λk=>by rw [Qwz,Bj]
theorem Qpu {p:List Int} (tp:Fg p) (h:p.length≠0):Prm (Ad p):=λd hd=>by
 refine (S5 tp h).2.2.1 d λk=>?_
 have h1:=hd k;unfold Ad at h1;rw [if_neg h,Bj] at h1;unfold Fi;rw [if_neg h,Bj];unfold Ha
 split
 ·rw [Int.ediv_neg]; exact Int.dvd_neg.2 h1
 ·exact h1
theorem Qur {a b c:Int} (h:Nat.Coprime a.natAbs b.natAbs) (h2:a∣b*c):a∣c:=Xm.1 (h.dvd_of_dvd_mul_left (by rw [<-Jx]; exact Xm.2 h2))
theorem Qpz {p q:List Int} (tp:Fg p) (tq:Fg q) (hp:Prm p) (hq:Prm q) {c:Rat} (hc:0<c) (h:∀ t,Fe p t=c*Fe q t):p=q:=by
 have hd:=c.den_nz;have hd0:((c.den:Int):Rat)≠0:=Qad (by omega);have e:c*((c.den:Int):Rat)=(c.num:Rat):=by
  have h1:(c.num:Rat) / ((c.den:Int):Rat)=c:=by rw [Hx,Zv]
  have h2:(c.num:Rat) / ((c.den:Int):Rat)*((c.den:Int):Rat)=(c.num:Rat):=Zj hd0;rw [h1] at h2; exact h2
 have hk:∀ k,(c.den:Int)*p.getD k 0=c.num*q.getD k 0:=λk=>by
  have:=Ck (p:=Gb p (c.den:Int)) (q:=Gb q c.num) (λt=>by
   rw [Ro,Ro,h,<-e]; grind) k
  rw [Sf,Sf] at this;rw [Kb,this,Kb]
 have d1:(c.den:Int)∣1:=hq _ λk=>Qur (a:=(c.den:Int)) (b:=c.num) (by simpa using c.reduced.symm) (by rw [<-hk k]; exact V6 _ _)
 have d2:c.num∣1:=hp _ λk=>Qur (a:=c.num) (b:=(c.den:Int)) (by simpa using c.reduced) (by rw [hk k]; exact V6 _ _)
 have p1:0<c.num:=by
  have h0:=Rat.num_nonneg.2 (Qp hc);rcases Int.lt_or_eq_of_le h0 with h1 | h1
  ·exact h1
  ·exfalso;rw [<-h1] at e;have e0:((0:Int):Rat)=0:=rfl;rw [e0] at e;rcases J0.1 e with h2 | h2
   ·grind
   ·exact hd0 h2
 have e1:=Int.le_of_dvd (by decide) d1;have e2:=Int.le_of_dvd (by decide) d2;have n1:c.num=1:=by omega
 have n2:(c.den:Int)=1:=by omega
 refine Qf9 tp tq λk=>?_
 have:=hk k;rw [n1,n2] at this; omega
theorem Q69 {a b:List Int} (hb:b.length<=a.length):A5 a b=str b ((Fu b).natAbs:Int) (a.length-b.length) (Ld a b) a:=by
 refine Qf9 (Fw _ _) (Fw _ _) λk=>?_
 unfold A5 str;rw [Rz,Do,Sf,Qsf]
 split
 ·rfl
 ·rename_i h;rw [Ra (p:=a) (by omega),Yk,if_pos (by omega),Ra (p:=b) (by omega),Kc]; rfl
theorem Zdp {a b:List Int} (hb:b.length<=a.length) (t:Rat):(((Fu b).natAbs:Int):Rat)*Fe a t=((Ld a b:Int):Rat)*t^(a.length-b.length)*Fe b t+Fe (A5 a b) t:=by
 rw [Q69 hb]; exact Zed _ _ _ _ _ _
theorem Q68 {a b:List Int} (hb0:b.length≠0) (hb:b.length<=a.length):(A5 a b).length<a.length:=by
 have h:=Qr5 (p:=A5 a b) (n:=a.length-1) (Fw _ _) (Qc (Ez _ _) (by omega)) (by
  unfold A5 Ln;rw [Rz,if_pos (by omega),if_pos (by omega),show a.length-1-(a.length-b.length)=b.length-1 by omega];show Fx a*((Fx b).natAbs:Int)-Ld a b*Fx b=0;unfold Ld
  split
  ·rw [show ((Fx b).natAbs:Int)=-Fx b by omega,Kx,V1]; omega
  ·rw [show ((Fx b).natAbs:Int)=Fx b by omega]; omega)
 omega
theorem Zdo {a b:List Int} {s t:Nat} (ha:Bd s a) (hb:Bd t b):Bd (s+t+1) (A5 a b):=Om λi _=>by
 have h1:=Ft ha i;have h2:Fq ((Fx b).natAbs:Int)<=t:=by
  have h:Fq (Fx b)<=t:=Ft hb (b.length-1);rw [Sl] at h ⊢;rw [Xc]; exact h
 have h3:Fq (Ld a b)<=s:=by
  have:=Ft ha (a.length-1);unfold Ld
  split
  ·rw [Hh]; exact this
  ·exact this
 have h4:=Gd (a.getD i 0) ((Fx b).natAbs:Int);unfold Ln
 split
 ·have h5:=Gd (Ld a b) (b.getD (i-(a.length-b.length)) 0);have h6:=Ft hb (i-(a.length-b.length));have:=Qjx (a.getD i 0*((Fx b).natAbs:Int)) (Ld a b*b.getD (i-(a.length-b.length)) 0);omega
 ·rw [Int.sub_zero]; omega
theorem Q4t {b:List Int} (tb:Fg b) (hb:b.length≠0) {t:Nat} (bb:Bd t b):∀ (k:Nat) (a:List Int) (s:Nat),a.length<b.length+k->Fg a->a.length<=60->Bd s a->s+k*(t+1)<=9000000->t<=9000000 ->
 ∃ n r,RRun b n a r/\Fg r/\r.length<b.length/\Bd (s+k*(t+1)) r/\∃ (u:Rat) (X:List Rat),0<u/\∀ x,u*Fe a x=ev X x*Fe b x+Fe r x
 | 0,a,s,hl,ta,_,ba,_,_=>⟨0,a,.stop (by omega),ta,by omega,by rw [J6]; exact ba,1,[],by decide,λx=>by simp only [ev]; grind⟩
 |
  k+1,a,s,hl,ta,h6,ba,hs,ht=>by
  rcases Q9 a.length b.length with h | h
  ·exact ⟨0,a,.stop h,ta,h,U8 ba (by omega),1,[],by decide,λx=>by simp only [ev]; grind⟩
  ·have h1:=Q68 hb h;have e:s+t+1+k*(t+1)=s+(k+1)*(t+1):=by rw [Xd]; omega
   obtain ⟨n,r,r1,r2,r3,r4,u,X,hu,hX⟩:=Q4t tb hb bb k (A5 a b) (s+t+1) (by omega) (Fw _ _) (by omega) (Zdo ba bb) (by omega) ht;have hlp:((0:Int):Rat)<(((Fu b).natAbs:Int):Rat):=X8.2 (by have:=Dz tb hb; omega);have hlp:(0:Rat)<(((Fu b).natAbs:Int):Rat):=by simpa using hlp
   refine ⟨n+1,r,.step h (by omega) (U8 ba (by omega)) (U8 bb ht) r1,r2,r3,by rw [<-e]; exact r4,u*(((Fu b).natAbs:Int):Rat),Ty (Nj (u*((Ld a b:Int):Rat)) (cz (mono (a.length-b.length) 1))) X,Jj hu hlp,λx=>?_⟩;have g1:=Zdp h x;have g2:=hX x;rw [Gt,Ge,Ff,I9];have e1:((1:Int):Rat)=1:=rfl;rw [e1];have:u*(((Fu b).natAbs:Int):Rat)*Fe a x=u*((((Fu b).natAbs:Int):Rat)*Fe a x):=by grind
   rw [this,g1]; grind
theorem Ziz {a b r:List Int} (ta:Fg a) (tb:Fg b) (hb:b.length≠0) (hl:a.length<=60) (tr:Fg r) (hr:r.length<b.length) {u:Rat} {X:List Rat} (hu:0<u) (hX:∀ x,u*Fe a x=ev X x*Fe b x+Fe r x):Td r=Hi a b:=by
 obtain ⟨h1,h2,_,u',v',up,vp,X',hX'⟩:=Qfx ta tb hb hl;have key:∀ x,ev (Ty (Nj (u*v') (cz (Hi a b))) (Nj (-u') (cz r))) x=ev (G8 (Ty (Nj u' X) (Nj (-u) X')) (cz b)) x:=λx=>by
  have g1:=hX x;have g2:=hX' x;rw [Gt,Ge,Ge,Fj,Gt,Ge,Ge,Ff,Ff,Ff];have k1:u'*(u*Fe a x)=u'*(ev X x*Fe b x+Fe r x):=by rw [g1]
  have k2:u*(u'*Fe a x)=u*(ev X' x*Fe b x+v'*Fe (Hi a b) x):=by rw [g2]
  grind
 have hz:∀ x,ev (Ty (Nj u' X) (Nj (-u) X')) x=0:=by
  rcases Qio (Ty (Nj u' X) (Nj (-u) X')) with h | ⟨m,_,h⟩
  ·exact h
  ·exfalso;have hm:=Qhc h (Qdi tb (by omega));have h3:=(Zbk (λt=>(key t).symm) hm).1;rw [Rr,Tw,Tw,Px,Px,Ra (p:=Hi a b) (by omega),Ra (p:=r) (by omega)] at h3;have e0:((0:Int):Rat)=0:=rfl;rw [e0] at h3;exact h3 (by grind)
 have hpr:∀ x,Fe r x=u*v' / u'*Fe (Hi a b) x:=λx=>by
  have g:=key x;rw [Fj,hz x,Gt,Ge,Ge,Ff,Ff] at g;have hd:u*v' / u'*u'=u*v':=Gx up;have hne:u'≠0:=by grind
  have:u'*Fe r x=u'*(u*v' / u'*Fe (Hi a b) x):=by
   have e:u'*(u*v' / u'*Fe (Hi a b) x)=(u*v' / u'*u')*Fe (Hi a b) x:=by grind
   rw [e,hd]; grind
  exact Qv4 up this
 have hcp:0<u*v' / u':=Di (Jj hu vp) up;rw [Qiz];have hlen:=Ea tr h1 (by grind:u*v' / u'≠0) hpr;by_cases h0:r.length=0
 ·rw [Qh h0,Qh (l:=Hi a b) (by omega)]; rfl
 ·obtain ⟨c,cp,hc⟩:=Qwo tr;have hcn:c≠0:=by grind
  have hp2:Prm (Hi a b):=by
   unfold Hi at hlen ⊢;have ht:Fg (Ng a b (Mf a b)):=by
    unfold Ng; split
    ·exact Fw _ _
    ·exact (Qsw hb _ _ _ ta (by omega)).1
   refine Qpu ht λe=>?_
   rw [Qh e] at hlen;exact h0 hlen
  have tn:Fg (Ad r):=by rw [<-Qiz]; exact Qi7 r
  refine Qpz tn h1 (Qpu tr h0) hp2 (c:=u*v' / u' / c) (Di hcp cp) λt=>?_
  have g1:=hc t;have g2:=hpr t;have hd:u*v' / u' / c*c=u*v' / u':=Gx cp;refine Qv4 cp ?_;have e:c*(u*v' / u' / c*Fe (Hi a b) t)=(u*v' / u' / c*c)*Fe (Hi a b) t:=by grind
  rw [e,hd,<-g1,g2]
theorem Qwv {p:List Int} (h:Pr1 p):Fi p=p:=by
 obtain ⟨h1,h2,h3,h4,_,h6,h7⟩:=S5 h.t h.n;have hl:=h.l;have hc:0<Ha p:=by
  have:=I7 h.t h.n;unfold Ha;rw [if_neg (by omega)];unfold Se at this ⊢; omega
 have hq:((0:Int):Rat)<(Ha p:Rat):=X8.2 hc;exact (Qpz h.t h1 h.m h3 (c:=(Ha p:Rat)) (by simpa using hq) h7).symm
theorem Qww {r:List Int} (tr:Fg r):(Fi r).length=r.length/\((Fi r).length=0\/Pr1 (Fi r)):=by
 by_cases h:r.length=0
 ·rw [Qh h]; exact ⟨rfl,.inl rfl⟩
 ·exact ⟨(S5 tr h).2.1,.inr (Q6x tr h)⟩
theorem Qh0 {s m lb la:Nat} (e:la-1=m+(lb-1)) (hm:1<=m) (hs:(s+8)*3^(la-1)<=9000000):(s+(m+1)*(s+8)+8)*3^(lb-1)<=9000000/\s+(m+1)*(s+8)<=9000000:=by
 have e2:s+(m+1)*(s+8)+8=(m+2)*(s+8):=by
  rw [show m+2=(m+1)+1 by omega,Xd (m+1)]; omega
 have e3:(m+2)*(s+8)*3^(lb-1)<=(s+8)*3^(la-1):=by
  rw [e,Xj,<-Xp,Zg (s+8)];exact Qx _ (Qx _ (Zig m hm))
 have:(m+2)*(s+8)<=(m+2)*(s+8)*3^(lb-1):=Jr _ (Z9 (by decide));exact ⟨by rw [e2]; omega,by omega⟩
theorem Qxa {a b:List Int} {s:Nat} (ta:Fg a) (tb:Fg b) (hb:b.length≠0) (hab:b.length<a.length) (hl:a.length<=60) (ba:Bd s a) (bb:Bd s b) (hs:(s+8)*3^(a.length-1)<=9000000) :
 ∃ n r,RRun b n a r/\Fg r/\r.length<b.length/\Bd (s+(a.length-b.length+1)*(s+8)) r/\Td r=Hi a b/\∃ (u:Rat) (X:List Rat),0<u/\∀ x,u*Fe a x=ev X x*Fe b x+Fe r x:=by
 obtain ⟨k1,k2⟩:=Qh0 (s:=s) (m:=a.length-b.length) (lb:=b.length) (la:=a.length) (by omega) (by omega) hs;have h1:(a.length-b.length+1)*(s+1)<=(a.length-b.length+1)*(s+8):=Zk _ (by omega);obtain ⟨n,r,r1,r2,r3,r4,u,X,hu,hX⟩:=Q4t tb hb bb (a.length-b.length+1) a s (by omega) ta hl ba (by omega) (by omega);exact ⟨n,r,r1,r2,r3,U8 r4 (by omega),Ziz ta tb hb hl r2 r3 hu hX,u,X,hu,hX⟩
theorem Q3e:∀ (k:Nat) (a b:List Int) (s:Nat),b.length<k->Pr1 a->(b.length=0\/Pr1 b)->Fg b->b.length<a.length->a.length<=60->Bd s a->Bd s b->(s+8)*3^(a.length-1)<=9000000 ->
 ∃ n g,GRun n a b g/\Pr1 g/\Dvd (cz g) (cz a)/\Dvd (cz g) (cz b)
 | 0,_,_,_,h,_,_,_,_,_,_,_,_=>by omega
 |
  k+1,a,b,s,hk,pa,pb,tb,hab,hl,ba,bb,hs=>by
  rcases pb with h0 | pb
  ·rw [Qh h0];exact ⟨0,a,.stop a,pa,dvd_refl _,⟨[],λt=>by simp only [cz,Jl,ev]; grind⟩⟩
  ·have hb:=pb.n;obtain ⟨n,r,r1,r2,r3,r4,_,u,X,hu,hX⟩:=Qxa pa.t tb hb hab hl ba bb hs;obtain ⟨k1,k2⟩:=Qh0 (s:=s) (m:=a.length-b.length) (lb:=b.length) (la:=a.length) (by omega) (by omega) hs;obtain ⟨p1,p2⟩:=Qww r2;obtain ⟨_,p3,p4,c,c1,c2⟩:=Od r2;have tp:Fg (Fi r):=by
    rcases p2 with h | h
    ·rw [Qh h]; rfl
    ·exact h.t
   obtain ⟨j,g,g1,g2,g3,g4⟩:=Q3e k b (Fi r) (s+(a.length-b.length+1)*(s+8)) (by omega) pb p2 tp (by omega) (by omega) (U8 bb (by omega)) (p4 _ r4) k1;refine ⟨j+1,g,.step (by omega) (by omega) (U8 bb (by omega)) r1 (by omega) (U8 r4 k2) r2 (by rw [Pq]; exact g1),g2,?_,g3⟩;obtain ⟨y,hy⟩:=g3;obtain ⟨z,hz⟩:=g4;have hu1:1 / u*u=1:=Gx hu;refine ⟨Nj (1 / u) (Ty (G8 X y) (Nj c z)),λt=>?_⟩;have a1:=hX t;have a2:=hy t;have a3:=hz t;have a4:=c2 t;rw [Ff] at a2 a3 ⊢;rw [Ge,Gt,Fj,Ge];have:Fe a t=1 / u*(u*Fe a t):=by grind
   rw [this,a1,a2,a4,a3]; grind
theorem Q0f {c:Int} (h:c≠0):Gb [1] c=[c]:=by
 show M7 1 _=_;rw [E3,Qdn];show (if 1*c=0 then _ else [1*c])=_;rw [Y4,if_neg h]
theorem Q03 (k:Nat) (c:Int) (i:Nat):(Pd k [c]).getD i 0=if i=k then c else 0:=by
 unfold Pd;rw [Qe];rcases Vg i k with h | h | h
 ·rw [Zi (by simpa using h),if_neg (by omega)];simp [h]
 ·subst h;rw [Xa (by simp)]; simp
 ·rw [Qt (by simp; omega),if_neg (by omega)]; rfl
theorem Qll:∀ (k:Nat) (a q p:List Int),a.length<=k->Fg a->a.length<=60->Bd 9000000 a->a.length<=q.length->q.length=p.length->(∀ i,i<a.length->a.getD i 0=p.getD i 0)->(∀ i,i<a.length->q.getD i 0=0)->(∀ i,a.length<=i->q.getD i 0=p.getD i 0)->∃ n,DRun [1] n a q p []
 |
  0,a,q,p,h,_,_,_,_,hq,_,_,h3=>by
  have e:=Qh (l:=a) (by omega);subst e;have e2:q=p:=by
   refine List.ext_getElem hq λi h1 h2=>?_
   have:=h3 i (by simp);rw [Qe,Qe,Qd h1,Qd h2] at this;exact this
  rw [e2]; exact ⟨0,.stop (by decide)⟩
 |
  k+1,a,q,p,h,ta,h6,ba,haq,hq,h1,h2,h3=>by
  by_cases h0:a.length=0
  ·exact Qll k a q p (by omega) ta h6 ba haq hq h1 h2 h3
  ·have hlead:Fx a≠0:=Hr ta (by omega);have hp1:Fx [1]=1:=rfl;have e1:Pa a (Pd (a.length-1) (Gb [1] (Fx a / Fx [1])))=Pa a (Pd (a.length-1) [Fx a]):=by
    rw [hp1,Ka,Q0f hlead]
   have g:∀ i,(Pa a (Pd (a.length-1) [Fx a])).getD i 0=if i=a.length-1 then 0 else a.getD i 0:=λi=>by
    rw [Do,Q03]
    split
    ·rename_i e; subst e; exact Int.sub_self _
    ·rw [Int.sub_zero]
   have ll:(Pa a (Pd (a.length-1) [Fx a])).length<=a.length-1:=by
    refine Qr5 (Fw _ _) (Qc (No _ _) ?_) (by rw [g,if_pos rfl]);rw [Qnc]; simp; omega
   have gz:∀ i,(Pa a (Pd (a.length-1) [Fx a])).length<=i->i<a.length-1->a.getD i 0=0:=λi k1 k2=>by
    have:=g i;rw [Ra k1,if_neg (by omega)] at this;exact this.symm
   have gs:∀ i,(q.set (a.length-1) (Fx a)).getD i 0=if i=a.length-1 then Fx a else q.getD i 0:=λi=>by
    rw [Qe,Yt];by_cases e:a.length-1=i
    ·rw [if_pos e,if_pos (by omega),if_pos e.symm]; rfl
    ·rw [if_neg e,if_neg (λh=>e h.symm),Qe]
   have hpa:Fx a=p.getD (a.length-1) 0:=h1 _ (by omega);obtain ⟨n,hn⟩:=Qll k (Pa a (Pd (a.length-1) [Fx a])) (q.set (a.length-1) (Fx a)) p (by omega) (Fw _ _) (by omega) (λz hz=>by
    obtain ⟨i,hi⟩:=Js hz;have e:z=(Pa a (Pd (a.length-1) [Fx a])).getD i 0:=by rw [Qe,hi]; rfl
    rw [e,g]
    split
    ·exact Qi _
    ·exact Ft ba i) (by rw [Jb]; omega) (by rw [Jb]; exact hq) (λi hi=>by rw [g,if_neg (by omega)]; exact h1 i (by omega)) (λi hi=>by rw [gs,if_neg (by omega)]; exact h2 i (by omega)) (λi hi=>by
    rw [gs]
    split
    ·rename_i e; rw [e]; exact hpa
    ·rename_i e;by_cases k1:a.length<=i
     ·exact h3 i k1
     ·rw [h2 i (by omega),<-h1 i (by omega),gz i hi (by omega)])
   refine ⟨n+1,.step (by show 1<=a.length; omega) (by omega) ba (by decide) (by rw [hp1]; exact U6 _) (by show a.length-1<q.length; omega) ?_⟩;show DRun [1] n (Pa a (Pd (a.length-1) (Gb [1] (Fx a / Fx [1])))) (q.set (a.length-1) (Fx a / Fx [1])) p [];rw [e1,hp1,Ka]; exact hn
theorem Zg8 {p:List Int} (tp:Fg p) (hl:p.length<=60) (bp:Bd 9000000 p):DOk p [1] p:=by
 obtain ⟨n,hn⟩:=Qll p.length p (List.replicate (p.length+1-1) 0) p (Ql _) tp hl bp (by simp) (by simp) (λ_ _=>rfl) (λi _=>Tk _ i) (λi hi=>by rw [Tk,Ra hi]);exact ⟨by decide,by decide,by omega,b1 (by decide),p,[],n,bp,by omega,hn,tp.symm⟩
theorem Q2w:∀ (k:Nat) (pre:List (List Int)) (a b:List Int) (s:Nat) (L:List (List Int)),chF k a b=some L->Fg a->Fg b->b.length<a.length->a.length<=60->Bd s a->Bd s b->(s+8)*3^(a.length-1)<=9000000->pre.length+a.length<=500 ->
 ∃ n,CRun n (pre++[a]) b (pre++[a]++L)/\L.length<=b.length
 | 0,_,_,_,_,_,h,_,_,_,_,_,_,_,_=>by cases h
 |
  k+1,pre,a,b,s,L,h,ta,tb,hab,hl,ba,bb,hs,hp=>by
  simp only [chF] at h
  split at h
  ·rename_i h0;injection h with h; subst h;rw [Zo];exact ⟨0,.stop h0,by simp⟩
  ·rename_i h0;obtain ⟨r0,hr0,h⟩:=Qg.1 h;obtain ⟨l,hl1,h⟩:=Qg.1 h;injection h with h; subst h;have er:r0=Hi a b:=by
    unfold chk at hr0
    split at hr0
    ·injection hr0 with hr0; exact hr0.symm
    ·cases hr0
   rw [er] at hl1;obtain ⟨n,r,r1,r2,r3,r4,r5,_⟩:=Qxa ta tb h0 hab hl ba bb hs;obtain ⟨k1,k2⟩:=Qh0 (s:=s) (m:=a.length-b.length) (lb:=b.length) (la:=a.length) (by omega) (by omega) hs;have hlp:=Qai r;have hln:=Cf (Td r);rw [<-r5] at hl1;obtain ⟨j,c1,c2⟩:=Q2w k (pre++[a]) b (P0 (Td r)) (s+(a.length-b.length+1)*(s+8)) l hl1 tb (Fw _ _) (by omega) (by omega) (U8 bb (by omega)) (On (Qn9 r4)) k1 (by simp; omega);have hlast:Mh (pre++[a])=a:=by unfold Mh; simp
   refine ⟨j+1,.step (by omega) (by omega) (U8 bb (by omega)) (by rw [hlast]; exact r1) r2 (U8 r4 k2) (by omega) (by simp) (by simp; omega) ?_,by simp; omega⟩;have e:pre++[a]++b::l=pre++[a]++[b]++l:=by simp
   rw [e]; exact c1
theorem Q97 {P g q:List Int} {s:Nat} (sq:Sqp P g q) (l2:2<=q.length) (lq:q.length<=9) (bq:Bd s q) (hs:(s+4+8)*3^8<=9000000) {L:List (List Int)} (hL:chF 66 q (Fi (Gj q))=some L):ChRun q q (q::L):=by
 have pq:=sq.pq;have hpow:(s+4+8)*3^(q.length-1)<=9000000:=Qc (Zk _ (Zt (by decide) (by omega))) hs;have hs9:s+4<=8000000:=by
  have:(s+4+8)*3^8=(s+4+8)*6561:=rfl;omega
 have ld:=Ph q;have bd:Bd (s+4) (Gj q):=Qqw bq (by omega);obtain ⟨p1,p2⟩:=Qww (r:=Gj q) (Fw _ _);obtain ⟨_,p3,p4,c,c1,c2⟩:=Od (a:=Gj q) (Fw _ _);have tp:Fg (Fi (Gj q)):=by
  rcases p2 with h | h
  ·rw [Qh h]; rfl
  ·exact h.t
 obtain ⟨m,h,g1,g2,g3,g4⟩:=Q3e 66 q (Fi (Gj q)) (s+4) (by omega) pq p2 tp (by omega) (by omega) (U8 bq (by omega)) (p4 _ bd) hpow;have hone:h=[1]:=by
  obtain ⟨c',_,hc'⟩:=sq.num g3 (by
   obtain ⟨z,hz⟩:=g4;exact ⟨Nj c z,λt=>by
    have:=hz t;rw [Ff] at this;rw [Tp,<-Ac,c2,this,Ge]; grind⟩)
  refine g2.one (Nat.lt_of_not_le λh2=>?_);have hd:=Qdi g2.t (by omega);have:=Ce (p:=cz h) (q:=[c']) (λt=>by rw [hc' t]; simp only [ev]; grind) (h.length-1);rw [Qe (l:=[c']),Qt (by simp; omega)] at this;exact hd.1 this
 subst hone;have hpq:=Qwv pq;have t1:Fg [1]:=rfl;have dq:=Zg8 pq.t (by omega) (U8 bq (by omega:s<=9000000));have fr:FRun q 1 (λ_=>q):=by
  refine ⟨⟨1,[q,[1]],?_,rfl,?_⟩,by decide⟩
  ·rw [Pq,hpq];refine .step (m:=m) (g:=[1]) (by show 1<q.length; omega) (by show q.length<=1000; omega) (by show Fg q; exact pq.t) (by show Bd 9000000 q; exact U8 bq (by omega)) (by show Bd 9000000 (Gj q); exact U8 bd (by omega)) ?_ (by show 1<=1000; decide) ?_
   ·show GRun m (Hu q) (Hu (Gj q)) [1];rw [Pq,Pq,hpq]; exact g1
   ·exact .stop (by show 1<=1; decide)
  ·intro k hk;have:k=0:=by omega
   subst this;exact ⟨q,[1],q,dq,div_one,by rw [Pq,hpq,Qwt]; exact dq,by rw [Pq,hpq]⟩
 obtain ⟨n,c3,c4⟩:=Q2w 66 [] q (Fi (Gj q)) (s+4) L hL pq.t tp (by omega) (by omega) (U8 bq (by omega)) (p4 _ bd) hpow (by simp; omega);have hsz:Td (Gj q)=Fi (Gj q):=by
  have hlp:¬Fx (Gj q)<0:=by
   have h1:Fx (Gj q)=Fu q*((q.length-1:Nat):Int):=by
    have hld:(Gj q).length=q.length-1:=by
     refine Vw ld (Y3 λh=>?_);have h1:=P7 q (q.length-2);rw [Ra (by omega),show q.length-2+1=q.length-1 by omega] at h1;have h3:q.getD (q.length-1) 0≠0:=Hr pq.t (by omega);rcases Yq.1 h1.symm with h4 | h4
     ·exact h3 h4
     ·omega
    unfold Fx Fu;rw [hld,P7,show q.length-1-1+1=q.length-1 by omega]
   have:=U4 pq.l (show (0:Int)<((q.length-1:Nat):Int) by omega);omega
  unfold Td;rw [if_neg hlp,Pq]
 refine ⟨⟨1,λ_=>q,fr,λi hi=>?_,?_⟩,⟨n,?_⟩,U8 bq (by omega),by omega,by simp; omega⟩
 ·have:i=0:=by omega
  subst this;exact ⟨b1 (by decide),by show 1<=1000; decide,U8 bq (by omega),show q.length<=1000 by omega⟩
 ·show q=Gs [1] q;rw [Qpj pq.t (by omega)]
 ·rw [hsz]; exact c3
def crR (C:List (List Int)) (p:List Int) (lo hi t:Rat):Int :=
 if Gv lo hi=0 then Gv lo t else if Gv t lo<=0 then 1 else if 0<Gv t hi then -1 else if Rm C lo t=0 then 1 else if Gl p t=0 then 0 else -1
theorem Qy3 {p:List Int} {C:List (List Int)} {lo hi:Rat} (V:Vt (cz p) (C.map cz) lo hi) (q:Rat):crR C p lo hi q=cq (cz p) lo hi q:=by
 have hl:=V.l;unfold crR;rw [if_neg (λh=>by have:=L8.1 h; grind)];rcases Classical.em (q<=lo) with h1 | h1
 ·rw [if_pos (O1.2 h1),C6 h1]
 rw [if_neg (λh=>h1 (O1.1 h))];rcases Classical.em (hi<q) with h2 | h2
 ·rw [if_pos (M5.2 h2),Qaw hl h2]
 rw [if_neg (λh=>h2 (M5.1 h))];have h1':lo<q:=Jk.1 h1;have h2':q<=hi:=Up.1 h2;rw [Eu (Qp h1'),P3];rcases V.two h1' h2' with ⟨a,b,_⟩ | ⟨a,b,_⟩
 ·rw [if_pos (by rw [a]; omega),b]
 ·rw [if_neg (by have:=V.v; omega)];rw [Ca h1' h2',Ff] at *
  split
  ·rfl
  ·rename_i h0;rw [if_neg h0] at b
   split at b
   ·exact absurd rfl b
   ·rename_i hne; rw [if_neg hne]
theorem Qrh {p:List Int} {C:List (List Int)} (x q:Rat):crR C p x x q=Gv x q:=by
 unfold crR;rw [if_pos (L8.2 rfl)]
theorem Zhv {t:Tm} {L:List (List Rat)} {D M k:Nat} {lo hi:Rat} (hu:Hv t D M k ⟨t.p,lo,hi⟩) (V:Vt (cz t.p) L lo hi) :
 (cq (cz t.p) lo hi (mid lo hi)<=0->Hv t D M (k+1) ⟨t.p,lo,mid lo hi⟩/\Vt (cz t.p) L lo (mid lo hi))/\(¬cq (cz t.p) lo hi (mid lo hi)<=0->Hv t D M (k+1) ⟨t.p,mid lo hi,hi⟩/\Vt (cz t.p) L (mid lo hi) hi):=by
 have hl:=V.l;have h2:(lo+hi) / 2*2=lo+hi:=Gx (by decide);have gm:Gr D M (k+1) (mid lo hi):=by rw [Qd7]; exact Qzk hu.l hu.h
 rw [Qd7] at *;generalize (lo+hi) / 2=m at *;have m1:lo<m:=by grind
 have m2:m<hi:=by grind
 have cut:∀ q,Fv ⟨t.p,lo,hi⟩ q=cq (cz t.p) lo hi q:=λq=>Pf (t:=⟨t.p,lo,hi⟩) hl q
 refine ⟨λh=>?_,λh=>?_⟩
 ·have hm:cq (cz t.p) lo hi m≠1:=λe=>by omega
  have V':Vt (cz t.p) L lo m:=⟨V.s,m1,by rw [V.eq_hi m1 (Qp m2) hm]; exact V.v⟩;refine ⟨⟨rfl,.inr ⟨L,V'⟩,λq=>?_,Qin hu.l,gm⟩,V'⟩;rw [<-hu.c q,cut q];show Fv ⟨t.p,lo,m⟩ q=_;rw [Pf (t:=⟨t.p,lo,m⟩) m1 q];exact (V'.uniq V.cut (C6 Qq) hm V.van q).symm
 ·have hm:cq (cz t.p) lo hi m=1:=by
   rcases V.cut.val m with e | e | e <;> omega
  have V':Vt (cz t.p) L m hi:=⟨V.s,m2,by rw [V.eq_lo m1 (Qp m2) hm]; exact V.v⟩;refine ⟨⟨rfl,.inr ⟨L,V'⟩,λq=>?_,gm,Qin hu.h⟩,V'⟩;rw [<-hu.c q,cut q];show Fv ⟨t.p,m,hi⟩ q=_;rw [Pf (t:=⟨t.p,m,hi⟩) m2 q];exact (V'.uniq V.cut hm V.hi1 V.van q).symm
def p2 (k:Nat):Rat:=((2^k:Nat):Rat)
theorem Qmp (a b:Nat):p2 (a+b)=p2 a*p2 b:=by unfold p2; rw [Nat.pow_add,Rat.natCast_mul]
theorem Qfo {a b:Nat} (h:a<=b):p2 a<=p2 b:=Zc.2 (Zt (by decide) h)
theorem Qpp (k:Nat):0<=p2 k:=Xo
theorem Qfp (k:Nat):p2 (k+1)=p2 k+p2 k:=by have:=Qpw k; unfold p2; rw [this]; grind
theorem Zch (k:Nat):1<=p2 k:=Qfo (Qi k)
theorem Q28 {S m:Nat} {R:Rat} (h0:0≤R) (hR:R≤p2 m):∀ {p:List Rat},(∀ a∈p,Fp a≤p2 S)->evB R p≤p2 (S+(m+1)*p.length)
 | [],_=>Qpp _
 |
  a::p,h=>by
  have ih:=Q28 h0 hR (p:=p) (λx hx=>h x (Qj _ hx));have h1:=h a (Qw ..);have h2:=Mw h0 hR (O7 h0 p) ih;rw [<-Qmp] at h2;have e:S+(m+1)*(a::p).length=(m+(S+(m+1)*p.length))+1:=by rw [Q7,Wg]; omega
  rw [e,Qfp];have h3:=Qfo (show S<=m+(S+(m+1)*p.length) by omega);simp only [evB]; grind
theorem Q22 {S m:Nat} {R:Rat} (h0:0≤R) (hR:R≤p2 m):∀ {p:List Rat},(∀ a∈p,Fp a≤p2 S)->dqB R p≤p2 (S+(m+1)*p.length)
 | [],_=>Qpp _
 |
  a::p,h=>by
  have hp:=λx hx=>h x (Qj a hx)
  have ih:=Q22 h0 hR (p:=p) hp;have h1:=Q28 h0 hR (p:=p) hp;have h2:=Mw h0 hR (Mr h0 p) ih;rw [<-Qmp] at h2;have e:S+(m+1)*(a::p).length=(m+(S+(m+1)*p.length))+1:=by rw [Q7,Wg]; omega
  rw [e,Qfp];have h3:=Qfo (show S+(m+1)*p.length<=m+(S+(m+1)*p.length) by omega);simp only [dqB]; grind
theorem Zma {S:Nat} {p:List Int} (h:Bd S p):∀ a∈cz p,Fp a≤p2 S:=λa ha=>by
 obtain ⟨z,hz,rfl⟩:=Zp.1 ha;have h1:=Qd3 (q:=(z:Rat));rw [Rat.num_intCast] at h1;exact Za h1 (Qfo (h z hz))
theorem Q4e {D:Rat} {b:Nat} (h0:0<=D) (h:D<=p2 b):∀ n:Nat,D^n<=p2 (b*n)/\0<=D^n
 | 0=>by rw [Xi]; exact ⟨Zch _,by decide⟩
 |
  n+1=>by
  obtain ⟨h1,h2⟩:=Q4e h0 h n;rw [Xe,Wg,Qmp];exact ⟨Mw h2 h1 h0 h,Nh h2 h0⟩
theorem Zid {p:List Int} {n b:Nat} (hl:p.length=n+1) {q:Rat} (hb:Fq (q.den:Int)<=b) (h:Fe p q≠0):1<=Fp (Fe p q)*p2 (b*n):=by
 have hd0:(0:Rat)<((q.den:Int):Rat):=by
  have := @Rat.intCast_lt_intCast 0 (q.den:Int);rw [show ((0:Int):Rat)=0 from rfl] at this;exact this.2 (den_pos q)
 have hd:((q.den:Int):Rat)≠0:=by intro h; rw [h] at hd0; exact absurd hd0 (by decide)
 obtain ⟨_,hv⟩:=Qtr p q.num q.den hd p.length (Ql _);rw [Jw,Xu,Hx,Zv] at hv;have hD:((q.den:Int):Rat)<=p2 b:=by
  have h1:=Sl.1 hb;rw [Xc] at h1;exact Zc.2 (J5 h1)
 generalize (Mz p q.num (q.den:Int) p.length).1=Z at hv;generalize ((q.den:Int):Rat)=D at *;rw [hl,Xe] at hv;have hZ:(Z:Rat)=D^n*Fe p q:=by
  have:((Z:Rat)-D^n*Fe p q)*D=0:=by grind
  rcases J0.1 this with h' | h'
  ·grind
  ·exact absurd h' hd
 obtain ⟨k1,k2⟩:=Q4e (Qp hd0) hD n;have hp0:=Qsv hd0 n;have hz0:Z≠0:=λe=>by
  rw [e] at hZ;rcases J0.1 hZ.symm with h' | h'
  ·rw [h'] at hp0; exact absurd hp0 (by decide)
  ·exact h h'
 have h1:=Qak hz0;rw [hZ,Ed] at h1;have h2:Fp (D^n)=D^n:=by unfold Fp; rw [if_neg (by grind)]
 rw [h2] at h1;have:=Q5 k1 (H7 (Fe p q));grind
theorem Zhe {p:List Int} {L:List (List Rat)} {lo hi r:Rat} (V:Vt (cz p) L lo hi) {n b m S:Nat} (hl:p.length=n+1) (hS:Bd S p) (h1:Fp r<=p2 m) (h2:Fp hi<=p2 m) (hr:lo<r) (hc:cq (cz p) lo hi r=1) (hb:Fq (r.den:Int)<=b):1<=(hi-r)*p2 (S+(m+1)*(n+1)+b*n):=by
 have hrh:r<hi:=by
  rcases K0.1 (show r<=hi from by
   rcases Gg r hi with e | e
   ·exact e
   ·rw [Qaw V.l e] at hc; exact absurd hc (by decide)) with e | e
  ·exact e
  ·rw [e] at hc; exact absurd hc V.hi1
 have s1:Fo (ev (cz p) r)=Po (cz p) lo:=by
  rcases V.two hr (Qp hrh) with ⟨_,_,c⟩ | ⟨_,c,_⟩
  ·exact c
  ·exact absurd hc c
 have s0:=V.lowlo;have s2:Fo (ev (cz p) hi)≠Po (cz p) lo:=λe=>by
  refine V.hi1 ?_;rw [Ca V.l Qq,if_neg (by rw [e]; exact s0),if_pos e]
 have hne:ev (cz p) r≠0:=λe=>s0 (by rw [<-s1]; exact Gk.2 e)
 have hd:Fp (ev (cz p) r)<=Fp (ev (cz p) hi-ev (cz p) r):=by
  rw [<-s1] at s2;unfold Fo at s2;unfold Fp;generalize ev (cz p) r=x at *;generalize ev (cz p) hi=y at *
  repeat' split
  all_goals (repeat' split at s2)
  all_goals grind
 have h3:=Zav (R:=p2 m) h2 h1 (cz p);have h4:=Q22 (S:=S) (Qpp m) (Qq (a:=p2 m)) (Zma hS);have hcl:(cz p).length=n+1:=by unfold cz; rw [List.length_map,hl]
 rw [hcl] at h4;have h5:=Zid hl hb (by rw [<-Ff]; exact hne);rw [<-Ff] at h5;have hq:Fp (hi-r)=hi-r:=by unfold Fp; rw [if_neg (by grind)]
 rw [hq] at h3;have h6:Fp (ev (cz p) r)<=(hi-r)*p2 (S+(m+1)*(n+1)):=Za (Za hd h3) (by
  have:=Zs h4 (show 0<=hi-r by grind);exact this)
 have h7:=Q5 h6 (Qpp (b*n));rw [Qmp];grind
theorem Zmy {β:Type} {Bc:Tm->List Ct} {Br:Tm->β} {c:Cr} {r:β} (hS:KSt Bc Br c r):∃ ws o,Da c.now c.l=some ws/\Qmm ws=some o/\KSt Bc Br { c with l:=ws } r/\match o with
 | none=>∀ x∈Bc c.now,Pg x.p c.now none
 | some a=>Va a/\Nc c.now a/\(∃ x∈Bc c.now,Pg x.p c.now (some a)/\a∈tms x.p)/\∀ x∈Bc c.now,∃ o',Pg x.p c.now o'/\∀ u,o'=some u->¬Nc u a:=by
 obtain ⟨⟨ok,kk⟩,hcs,hr⟩:=hS;obtain ⟨ws,w1,w2,w3⟩:=Qsa ok.n ok.l kk;have ok':=Qcu ok w1;rw [hcs] at w2;have hc_w:∀ x∈Bc c.now,∃ w∈ws,w.c=x:=λx hx=>by
  have:x∈ws.map (·.c):=by rw [w2]; exact Eo.2 hx
  exact Zp.1 this
 have hw_c:∀ w∈ws,w.c∈Bc c.now:=λw hw=>Eo.1 (by rw [<-w2]; exact Kz hw)
 obtain ⟨o,o1,o2⟩:=Qz0 ok'.l;refine ⟨ws,o,w1,o1,⟨⟨ok',λw hw _=>(w3 w hw).2⟩,w2,hr⟩,?_⟩;cases o with
 | none =>
  intro x hx;obtain ⟨w,hw,rfl⟩:=hc_w x hx;have:=(w3 w hw).2.1;rw [o2 w hw] at this;exact this
 |
  some a =>
  obtain ⟨va,⟨w,hw,hwa⟩,hmin⟩:=o2;have k:=(w3 w hw).2.1;rw [hwa] at k;exact ⟨va,k.2.2.1,⟨w.c,hw_c w hw,k,(w3 w hw).2.2 a hwa⟩,λx hx=>by
   obtain ⟨v,hv,rfl⟩:=hc_w x hx;exact ⟨v.fails,(w3 v hv).2.1,λu hu=>hmin v hv u hu⟩⟩
theorem Qzd {Bc:Tm->List Ct} {now a:Tm} (hn:Va now) (ha:Va a) (hmin:∀ x∈Bc now,∃ o',Pg x.p now o'/\∀ u,o'=some u->¬Nc u a) {t:Rat} (ht:Va (tq t)) (hta:Fv a t=1) {E:List Tm} (h:Evs Bc t now E):E=[]:=by
 cases h with
 | nil=>rfl
 |
  cons he h1 h2 h3 h4 h5 =>
  exfalso;obtain ⟨x,hx,hxe⟩:=h4;obtain ⟨o',ho,hu⟩:=hmin x hx;cases o' with
  | none=>exact Qwa hn hxe ho
  |
   some u =>
   have e:=Zcd hn hxe ho;exact hu u rfl ((Zem e).1 (Zpo he.cut ht.cut h2 ((Qbd ha.cut).1 (by omega))))
theorem Zax {Bc:Tm->List Ct} {now a:Tm} (hn:Va now) (ha:Va a) (hx:∃ x∈Bc now,Pg x.p now (some a)) {t:Rat} (hta:Fv a t≠1) {E:List Tm} (h:Evs Bc t now E):E≠[]:=by
 rintro rfl
 cases h with
 |
  nil h =>
  obtain ⟨x,hx,hxa⟩:=hx;obtain ⟨o',ho,hu⟩:=h x hx;cases o' with
  | none=>exact Qwa hn hxa ho
  |
   some u =>
   have e:=Zcd hn hxa ho;have h1:=(Qbd ha.cut).2 ((Zjk e).2 (hu u rfl));rcases ha.cut.val t with h2 | h2 | h2 <;> omega
theorem Qrt {β:Type} {Bc:Tm->List Ct} {Br:Tm->β} (S:Stab Bc Br) {now:Tm} (hn:Va now) {t:Rat} (ht:Va (tq t)) (hnow:¬Nc (tq t) now) (h:Evs Bc t now []):Bc (tq t)=Bc now/\Br (tq t)=Br now:=by
 cases h with
 |
  nil h =>
  refine S.st _ _ hn ht λx hx=>?_
  obtain ⟨o,ho,hu⟩:=h x hx;exact Qg9 (S.ok.p _ hn _ hx).dp hn ht hnow ho hu
structure LwS (t:Tm) (L:List (List Rat)) (D M k0 w0 j:Nat) (lo hi:Rat):Prop where
 hv:Hv t D M (k0+j) ⟨t.p,lo,hi⟩
 v:Vt (cz t.p) L lo hi
 w:(hi-lo)*p2 j<=p2 w0
theorem LwS.next {t:Tm} {L:List (List Rat)} {D M k0 w0 j:Nat} {lo hi:Rat} (h:LwS t L D M k0 w0 j lo hi) :
 (cq (cz t.p) lo hi (mid lo hi)<=0->LwS t L D M k0 w0 (j+1) lo (mid lo hi))/\(¬cq (cz t.p) lo hi (mid lo hi)<=0->LwS t L D M k0 w0 (j+1) (mid lo hi) hi):=by
 obtain ⟨s1,s2⟩:=Zhv h.hv h.v;have h2:(lo+hi) / 2*2=lo+hi:=Gx (by decide);have e:=Qd7 lo hi;have hw:=h.w;have hj:=Qfp j;refine ⟨λhc=>?_,λhc=>?_⟩
 ·obtain ⟨a,b⟩:=s1 hc;refine ⟨a,b,?_⟩;rw [e,hj];generalize (lo+hi) / 2=m at *;have:(m-lo)*(p2 j+p2 j)=(hi-lo)*p2 j:=by
   have:m+m=lo+hi:=by grind
   have:(m-lo)*(p2 j+p2 j)=(m+m-lo-lo)*p2 j:=by grind
   rw [this,‹m+m=lo+hi›]; grind
  rw [this]; exact hw
 ·obtain ⟨a,b⟩:=s2 hc;refine ⟨a,b,?_⟩;rw [e,hj];generalize (lo+hi) / 2=m at *;have:(hi-m)*(p2 j+p2 j)=(hi-lo)*p2 j:=by
   have:m+m=lo+hi:=by grind
   have:(hi-m)*(p2 j+p2 j)=(hi+hi-(m+m))*p2 j:=by grind
   rw [this,‹m+m=lo+hi›]; grind
  rw [this]; exact hw
theorem Qry {D M k s:Nat} {x:Rat} (h:Gr D M k x) (hs:Fq (M:Int)<=s):Fp x<=p2 s:=by
 refine Za h.b ?_;have h1:=Sl.1 hs;rw [Xc] at h1;exact Zc.2 (J5 h1)
theorem LwS.few {t:Tm} {L:List (List Rat)} {D M k0 w0 j:Nat} {lo hi:Rat} (h:LwS t L D M k0 w0 j lo hi) {n S m b:Nat} (hl:t.p.length=n+1) (hS:Bd S t.p) (hM:Fq (M:Int)<=m) {r:Rat} (hb:Fq (r.den:Int)<=b) (hr:lo<r) (hc:Fv t r=1):j<=w0+(S+(m+1)*(n+1)+b*n):=by
 have hcq:cq (cz t.p) lo hi r=1:=by
  rw [<-Pf (t:=⟨t.p,lo,hi⟩) h.v.l r,h.hv.c]; exact hc
 have q1:=Qry h.hv.l hM;have q2:=Qry h.hv.h hM;have hrh:r<=hi:=by
  rcases Gg r hi with e | e
  ·exact e
  ·rw [Qaw h.v.l e] at hcq; exact absurd hcq (by decide)
 have q3:Fp r<=p2 m:=by
  have a1:=Sw.1 q1;have a2:=Sw.1 q2;rw [Sw];constructor
  ·exact Za a1.1 (Qp hr)
  ·exact Za hrh a2.2
 have hg:=Zhe h.v hl hS q3 q2 hr hcq hb;obtain ⟨G,hG⟩:=nmE (S+(m+1)*(n+1)+b*n);rw [<-hG] at hg ⊢;rcases Q9 (w0+G) j with hj | hj
 ·exfalso;have h1:=Qfo (show w0+G+1<=j from hj);rw [Qfp,Qmp] at h1;have hw:=h.w;have hlo:0<hi-lo:=by have:=h.v.l; grind
  have h2:(hi-r)*p2 G<=(hi-lo)*p2 G:=Q5 (by grind) (Qpp G);have h3:=Zs h1 (Qp hlo);have h4:1<=(hi-lo)*p2 G:=Za hg h2;have h5:=Q5 h4 (Qpp w0);have h6:=Zch w0;have e1:(hi-lo)*(p2 w0*p2 G+p2 w0*p2 G)=(hi-lo)*p2 G*p2 w0+(hi-lo)*p2 G*p2 w0:=by grind
  rw [e1] at h3;grind
 ·exact hj
theorem Q6o {a b:Crv} (ha:Cs 10 3 a) (hb:Cs 10 3 b):Bd 21 (Hp a b)/\(Hp a b).length<=3:=by
 have l1:=Gh b.x a.d;have l2:=Gh a.x b.d;have:=ha.lx;have:=hb.lx;exact ⟨U8 (Lv (Gw hb.x ha.d) (Gw ha.x hb.d)) (by omega),Qc (No _ _) (by omega)⟩
theorem Q6m {a b:Crv} (ha:Cs 10 3 a) (hb:Cs 10 3 b):Bd 21 (Re a b)/\(Re a b).length<=3:=by
 have l1:=Gh b.y a.d;have l2:=Gh a.y b.d;have:=ha.ly;have:=hb.ly;exact ⟨U8 (Lv (Gw hb.y ha.d) (Gw ha.y hb.d)) (by omega),Qc (No _ _) (by omega)⟩
theorem Qzs {a b c:Crv} (ha:Nml a/\Cs 10 3 a) (hb:Nml b/\Cs 10 3 b) (hc:Nml c/\Cs 10 3 c):Bd 86 (Hm a b c)/\(Hm a b c).length<=5:=by
 have key:∀ k:Crv,Nml k/\Cs 10 3 k->(∀ p∈[k.x,k.y,[k.d]],Fg p/\Bd 10 p)/\∀ (j:Nat) (p:List Int),[k.x,k.y,[k.d]][j]? = some p->p.length≤[2,2,0].getD j 0+1:=λk hk=>by
  have hd:=hk.1.2.2.1;refine ⟨λp hp=>?_,λj p hp=>?_⟩
  ·simp only [Qm,Kn,or_false] at hp;rcases hp with rfl | rfl | rfl
   ·exact ⟨hk.1.1,hk.2.x⟩
   ·exact ⟨hk.1.2.1,hk.2.y⟩
   ·exact ⟨by unfold Fg; simp [trim]; omega,λz hz=>by simp at hz; subst hz; exact hk.2.d⟩
  ·match j,hp with
   | 0,hp=>injection hp with hp; subst hp; exact hk.2.lx
   | 1,hp=>injection hp with hp; subst hp; exact hk.2.ly
   | 2,hp=>injection hp with hp; subst hp; exact Ql _
   | j+3,hp=>simp at hp
 have h3:∀ r∈Bv a b c,r=[a.x,a.y,[a.d]]\/r=[b.x,b.y,[b.d]]\/r=[c.x,c.y,[c.d]]:=λr hr=>by simpa [Bv] using hr
 have all:∀ r∈Bv a b c,r.length=3/\(∀ p∈r,Fg p/\Bd 10 p)/\∀ (j:Nat) (p:List Int),r[j]? = some p->p.length≤[2,2,0].getD j 0+1:=λr hr=>by
  rcases h3 r hr with rfl | rfl | rfl
  ·exact ⟨rfl,key a ha⟩
  ·exact ⟨rfl,key b hb⟩
  ·exact ⟨rfl,key c hc⟩
 have sq:Sq 10 [2,2,0] 3 3 (Bv a b c):=⟨rfl,λr hr=>(all r hr).1,λr hr p hp=>((all r hr).2.1 p hp).1,λr hr p hp=>((all r hr).2.1 p hp).2,λr hr=>(all r hr).2.2⟩;obtain ⟨_,h1,h2⟩:=Qj4 3 [2,2,0] (Bv a b c) (by decide) rfl (by decide) sq;exact ⟨U8 h1 (by decide),h2⟩
theorem Q6n {a b:Pt} (ha:Cs 10 3 a.c) (hb:Cs 10 3 b.c):Bd 86 (Bh a b)/\(Bh a b).length<=3:=by
 obtain ⟨b1,l1⟩:=Q6o ha hb;obtain ⟨b2,l2⟩:=Q6m ha hb;unfold Bh O6
 split
 ·exact ⟨U8 b1 (by decide),by omega⟩
 ·exact ⟨U8 b2 (by decide),by omega⟩
theorem Znh (q:Rat) (p:List Int):Hk (tq q) p=Gl p q:=by
 unfold Hk Qnd
 split
 ·rename_i h; rw [List.eq_nil_of_length_eq_zero h]; rfl
 ·rw [if_pos (P8.2 (Qq (a:=q)))]; rfl
theorem Zbg (q:Rat) (p:List Int):Tg (Hk (tq q)) p=Ms p q:=by
 have:Hk (tq q)=λp=>Gl p q:=funext (Znh q)
 rw [this]; rfl
theorem Q0x {b a r:List Int} {k:Nat} (h:RRun b k a r):r.length<b.length:=by
 induction h with
 | stop h=>exact h
 | step _ _ _ _ _ ih=>exact ih
theorem Qy4 {k:Nat} {l f:List (List Int)} {g:List Int} (h:CRun k l g f):(∀ p∈l,Bd 9000000 p/\p.length≤64)->g.length≤64->∀ p∈f,Bd 9000000 p/\p.length≤64:=by
 induction h with
 | stop _=>exact λh _=>h
 |
  step h1 h2 h3 h4 h5 h6 h7 h8 h9 _ ih =>
  intro hl hg;refine ih (λp hp=>?_) ?_
  ·rcases Qu.1 hp with hp | hp
   ·exact hl p hp
   ·rw [Qk.1 hp]; exact ⟨h3,hg⟩
  ·have:=Q0x h4;exact Qc (Cf _) (Qc (Qai _) (by omega))
theorem Qul {p:List Int} {C:List (List Int)} (h:ChRun p p C) (hl:p.length≤60):∀ x∈C,Bd 9000000 x/\x.length≤64:=by
 obtain ⟨n,hn⟩:=h.chain;refine Qy4 hn (λx hx=>?_) ?_
 ·rw [Qk.1 hx]; exact ⟨U8 h.bd (by decide),by omega⟩
 ·refine Qc (Qai _) ?_;have:=Ph p; omega
def bq (n:Nat):Nat->Nat
 | 0=>100
 | i+1=>17000+n*bq n i
structure HI (a:Tm) (L:List (List Rat)) (j:Nat) (lo hi:Rat):Prop where
 w:∃ D M k0,LwS a L D M k0 226 j lo hi/\0<M/\Fq (D:Int)<=224/\Fq (M:Int)<=225/\k0<=14925
structure HX (a:Tm) (C:List (List Int)) (q:Rat) (b j:Nat) (lo hi:Rat):Prop where
 ql:Qs b lo
 qh:Qs b hi
 c:lo=hi/\q<lo/\Fv a hi=0\/HI a (C.map cz) j lo hi
theorem HI.qs {a:Tm} {L:List (List Rat)} {j:Nat} {lo hi:Rat} (h:HI a L j lo hi) {b:Nat} (hb:15374+j<=b):Qs b lo/\Qs b hi:=by
 obtain ⟨D,M,k0,hw,hM,h1,h2,h3⟩:=h.w;exact ⟨Qpb hw.hv.l hM (by omega),Qpb hw.hv.h hM (by omega)⟩
theorem HI.cq {a:Tm} {L:List (List Rat)} {j:Nat} {lo hi:Rat} (h:HI a L j lo hi) (q:Rat):Orq.cq (cz a.p) lo hi q=Fv a q:=by
 obtain ⟨D,M,k0,hw,_⟩:=h.w;rw [<-Pf (t:=⟨a.p,lo,hi⟩) hw.v.l q]; exact hw.hv.c q
theorem HI.lt {a:Tm} {L:List (List Rat)} {j:Nat} {lo hi:Rat} (h:HI a L j lo hi):lo<hi:=by
 obtain ⟨D,M,k0,hw,_⟩:=h.w;exact hw.v.l
theorem HI.few {a:Tm} {L:List (List Rat)} {j:Nat} {lo hi:Rat} (h:HI a L j lo hi) {n b:Nat} (hn:a.p.length<=n+1) (h2:2<=a.p.length) (n4:n<=4) (hS:Bd 224 a.p) {r:Rat} (hb:Qs b r) (hr:lo<r) (hc:Fv a r=1):j<=1580+n*b:=by
 obtain ⟨D,M,k0,hw,hM,h1,hM2,h3⟩:=h.w;have h5:=hw.few (n:=a.p.length-1) (by omega) hS hM2 (b:=b) hb.2 hr hc;have h6:b*(a.p.length-1)<=n*b:=by rw [Zg]; exact Qx _ (by omega)
 have h7:(225+1)*(a.p.length-1+1)<=(225+1)*5:=Zk _ (by omega);omega
structure HA (a:Tm) (n:Nat) (C:List (List Int)):Prop where
 va:Va a
 pt:a.point=false
 n:a.p.length<=n+1
 b:Bd 224 a.p
 ch:ChRun a.p a.p C
 pr:Hu a.p=a.p
 i:HI a (C.map cz) 0 a.lo a.hi
theorem Zpe {a:Tm} (va:Va a) (hp:a.point=false) {n:Nat} (hz:Sz 86 (n+1) a) (n4:n<=4):∃ C,HA a n C:=by
 obtain ⟨l,P,g,h1,sq,V⟩:=va.sc hp;have hb:Bd 224 a.p:=hz.b;have hch:=Q97 sq va.n2 va.n hb (by decide) h1;obtain ⟨D,M,k,g1,g2,g3,g4,g5,g6⟩:=hz.g;refine ⟨a.p::l,va,hp,hz.n,hb,hch,by rw [Pq]; exact Qwv sq.pq,⟨D,M,k,⟨⟨rfl,.inr ⟨_,V⟩,λ_=>rfl,g1,g2⟩,V,?_⟩,g3,g4,g5,by omega⟩⟩;have q1:=Sw.1 (Qry g1 g5);have q2:=Sw.1 (Qry g2 g5);have e:p2 226=p2 225+p2 225:=Qfp 225;have e0:p2 0=1:=rfl;rw [e,e0];grind
def xlo (a:Tm):Rat:=if Gl a.p a.hi=0 then a.hi else a.lo
theorem HA.start {a:Tm} {n:Nat} {C:List (List Int)} (h:HA a n C) {q:Rat} {b:Nat} (hq:Fv a q=1) (hb:15374<=b):HX a C q b 0 (xlo a) a.hi:=by
 obtain ⟨q1,q2⟩:=h.i.qs (b:=b) (by omega);unfold xlo
 split
 ·rename_i h0;refine ⟨q2,q2,.inl ⟨rfl,?_,?_⟩⟩
  ·refine Jk.1 λhle=>?_
   have hc:=h.va.cut;have h1:Fv a a.hi=0:=?_
   ·rcases K0.1 hle with h2 | h2
    ·have:=hc.mono' h2 (by omega); omega
    ·rw [h2] at h1; omega
   rw [<-h.i.cq,Ca h.i.lt Qq,if_pos (by rw [Ff,<-P3]; exact h0)]
  ·rw [<-h.i.cq,Ca h.i.lt Qq,if_pos (by rw [Ff,<-P3]; exact h0)]
 ·exact ⟨q1,q2,.inr h.i⟩
theorem HX.cmp {a:Tm} {C:List (List Int)} {q:Rat} {b j:Nat} {lo hi:Rat} (h:HX a C q b j lo hi) (hp:HI a (C.map cz) 0 a.lo a.hi) (hq:Fv a q=1):crR C a.p lo hi q=1:=by
 rcases h.c with ⟨rfl,h1,_⟩ | h1
 ·rw [Qrh];rcases Sy lo q with ⟨e,e'⟩ | ⟨e,e'⟩ | ⟨e,e'⟩ <;> grind
 ·obtain ⟨D,M,k0,hw,_⟩:=h1.w;rw [Qy3 hw.v,h1.cq,hq]
theorem HX.next {a:Tm} {n:Nat} {C:List (List Int)} (ha:HA a n C) (n4:n<=4) {q:Rat} {b0 j:Nat} {lo hi:Rat} (h:HX a C q (17000+n*b0) j lo hi) (hb:Qs b0 q) (hq:Fv a q=1) (hlo:lo<q) :
 lo<hi/\j<=1580+n*b0/\(crR C a.p lo hi (mid lo hi)<=0->HX a C q (17000+n*b0) (j+1) lo (mid lo hi))/\(¬crR C a.p lo hi (mid lo hi)<=0->HX a C q (17000+n*b0) (j+1) (mid lo hi) hi):=by
 rcases h.c with ⟨_,h1,_⟩ | h1
 ·grind
 ·have hj:=h1.few ha.n ha.va.n2 n4 ha.b hb hlo hq;obtain ⟨D,M,k0,hw,g1,g2,g3,g4⟩:=h1.w;obtain ⟨s1,s2⟩:=hw.next;refine ⟨h1.lt,hj,λhc=>?_,λhc=>?_⟩
  ·rw [Qy3 hw.v] at hc;have hi':HI a (C.map cz) (j+1) lo (mid lo hi):=⟨D,M,k0,s1 hc,g1,g2,g3,g4⟩;obtain ⟨q1,q2⟩:=hi'.qs (b:=17000+n*b0) (by omega);exact ⟨q1,q2,.inr hi'⟩
  ·rw [Qy3 hw.v] at hc;have hi':HI a (C.map cz) (j+1) (mid lo hi) hi:=⟨D,M,k0,s2 hc,g1,g2,g3,g4⟩;obtain ⟨q1,q2⟩:=hi'.qs (b:=17000+n*b0) (by omega);exact ⟨q1,q2,.inr hi'⟩
theorem HX.fin {a:Tm} {C:List (List Int)} {q:Rat} {b j:Nat} {lo hi:Rat} (ha:Va a) (h:HX a C q b j lo hi):(lo≠hi->Fv a lo=1)/\Fv a hi≠1/\lo<=hi:=by
 rcases h.c with ⟨h1,h2,h3⟩ | h1
 ·exact ⟨λh=>absurd h1 h,by omega,by rw [h1]; exact Qq⟩
 ·obtain ⟨D,M,k0,hw,_⟩:=h1.w;refine ⟨λ_=>by rw [<-h1.cq]; exact C6 Qq,by rw [<-h1.cq]; exact hw.v.hi1,Qp h1.lt⟩
theorem Zpf {p:List Int} (h:Cp p) {n:Nat} (n4:n<=4) (hb:Bd 86 p) (hn:p.length<=n+1) {a:Tm} (ha:Va a) (ht:a∈tms p):∃ C,HA a n C:=by
 unfold tms at ht;cases hl:Il p with
 | none=>rw [hl] at ht; cases ht
 |
  some l =>
  rw [hl] at ht;obtain ⟨h1,h2⟩:=Zer h (s:=86) (by decide) hb hl a ht;exact Zpe ha h1 (n:=n) ⟨Qc h2.n hn,h2.b,h2.g⟩ n4
theorem Zj3 {n:Nat} (h:n<=4):∀ i,i<=3->bq n i<=400000/\(i<3->bq n (i+1)<=400000):=by
 have key:∀ i,bq n i<=bq 4 i:=λi=>by
  induction i with
  | zero=>exact Ql _
  | succ i ih=>exact Nat.add_le_add_left (Zh h ih) _
 have k1:=key 1; have k2:=key 2; have k3:=key 3;have e1:bq 4 1=17400:=rfl;have e2:bq 4 2=86600:=rfl;have e3:bq 4 3=363400:=rfl;intro i hi
 match i,hi with
 | 0,_=>exact ⟨by show 100<=_; decide,λ_=>by show bq n 1<=_; omega⟩
 | 1,_=>exact ⟨by omega,λ_=>by show bq n 2<=_; omega⟩
 | 2,_=>exact ⟨by omega,λ_=>by show bq n 3<=_; omega⟩
 | 3,_=>exact ⟨by omega,λh=>by omega⟩
end Orq
namespace Orr
open Go Orq
theorem Qp6 {sg:List Int->Int}:∀ {l:List Pt},(∀ p∈l,Cs 10 3 p.c)->∀ x∈Pe sg l,Bd 86 x.p/\x.p.length≤3/\x.want=Tg sg x.p
 | [],_,x,hx=>by cases hx
 | [_],_,x,hx=>by cases hx
 |
  a::b::l,h,x,hx=>by
  rcases Qm.1 hx with rfl | hx
  ·have:=Q6n (h a (by simp)) (h b (by simp));exact ⟨this.1,this.2,rfl⟩
  ·exact Qp6 (λp hp=>h p (Qj _ hp)) x hx
theorem Zfq {l:List Pt} (hl:∀ p∈l,Nml p.c/\Cs 10 3 p.c) {a:Tm}:∀ x∈bcS l a,Bd 86 x.p/\x.p.length≤3/\x.want=Tg (Hk a) x.p :=
 Qp6 λp hp=>(hl p (Rj.1 hp)).2
theorem Zfo {l:List Pt} (hl:∀ p∈l,Nml p.c/\Cs 10 3 p.c) {a:Tm}:∀ x∈bcH l a,Bd 86 x.p/\x.p.length≤5/\x.want=Tg (Hk a) x.p:=λx hx=>by
 rcases Qu.1 hx with hx | hx
 ·obtain ⟨h1,h2,h3⟩:=Zfq hl x hx;exact ⟨h1,by omega,h3⟩
 ·obtain ⟨e,he,c,hc,_,rfl⟩:=Ql7 hx;obtain ⟨h1,h2⟩:=Qbm he;have:=Qzs (hl _ (Bs h1)) (hl _ (Bs h2)) (hl _ hc);exact ⟨this.1,this.2,rfl⟩
end Orr
namespace Orr
open Go Go.Proofs Orq
set_option maxRecDepth 10000
def evF (a:Tm) (w:Wt):Option (List LV):=match w.fails with
 | none=>none
 | some t=>if Qja t a=some 0 then some ([.int .i64 w.c.kind,.int .i64 w.c.i0,.int .i64 w.c.i1,.int .i64 w.c.i2,.int .i64 w.c.i3]++ta t) else none
theorem Zau {a:Tm} {ws:List Wt} {i:Nat} {w:Wt} (h:ws[i]? = some w):(ws.take (i+1)).filterMap (evF a)=(ws.take i).filterMap (evF a)++(evF a w).toList:=by
 rw [Zq,h,List.filterMap_append];show _++List.filterMap (evF a) [w]=_;cases hw:evF a w <;> simp [hw]
theorem Q8k {T:Nat} {c:Cr} {r0 r1:List (List LV)} {ws:List Wt} {a:Tm} (hc:CrOk c) (h:Da c.now c.l=some ws) (hr:Qmm ws=some (some a)) (va:Va a):Rh Tryz.prog 26 [.one (.ow 0 0)] [.blk T (C7 c r0 r1)] [.one (.row (ws.filterMap (evF a)))] [.blk T (C7 { c with l:=ws } r0 r1)]:=by
 have cn:=Qqz (T:=T) (r0:=r0) (r1:=r1) hc h hr;have hc':=Qcu hc h;have hk:=hc'.k;have hw:=Cz ws;refine Hl Tryz.func26 rfl ?_;refine go tt [.c [0] cn,.f rfl,.o 5 174 14] rfl trivial ?_;refine lp (S:=Nat) 3 (λL1 i=>(22,.v (.one (.int .i64 (i:Int))))::(5,.v (.one (.orow 2 14 none)))::L1) (λi=>[.blk T (C7 { c with l:=ws } r0 r1),.blk 74 (ta a),.row false 174 14 ((ws.take i).filterMap (evF a))]) (λi=>ws.length-i) (λi=>i<=ws.length) 0 (Qi _) rfl (λ_ _=>rfl) rfl λi hi=>?_
 by_cases hlt:i<ws.length
 ·obtain ⟨w,hx⟩:=gxE (l:=ws) (i:=i) hlt;have hl:decide ((i:Int)<((Qdf ws).length:Int))=true:=by simp [hw]; omega
  have hfl:((ws.take i).filterMap (evF a)).length<=i:=Qc (Wd _ _) (by rw [Qr]; omega);have hg:=Zau (a:=a) hx;have hvb:=(hc'.l w (Qa hx)).f;obtain ⟨wc,wk,wf⟩:=w;have hk:ws.length<=1000:=hk;cases wf with
  |
   none =>
   refine go tt [.t hl,.x (S8 hx),.g 28 false rfl,.f rfl] rfl (by simp [U9]; omega) ?_;exact rd (i+1) (by omega) hlt (by rw [hg]; simp [evF]; rfl)
  |
   some t =>
   have vt:=hvb t rfl;obtain ⟨r,r1',_⟩:=Qcm vt va;have cc:=Qkq vt.tb va.tb r1';by_cases D:r=0
   ·have he:evF a ⟨wc,wk,some t⟩=some ([.int .i64 wc.kind,.int .i64 wc.i0,.int .i64 wc.i1,.int .i64 wc.i2,.int .i64 wc.i3]++ta t):=if_pos (by rw [r1',D]);have cl:=Ir (b:=t) (l:=[]) vt.tb (λt ht=>by cases ht) (by decide) rfl;refine go tt [.t hl,.x (S8 hx),.g 28 true rfl,.c [] cc,.t (decide_eq_true D),.c [] cl,.s (l:=[[.int .i64 wc.kind,.int .i64 wc.i0,.int .i64 wc.i1,.int .i64 wc.i2,.int .i64 wc.i3]++ta t]) (sz:=14) (λc hc=>by rw [Qk.1 hc]; rfl)] rfl (by simp [U9]; omega) ?_;exact rd (i+1) (by omega) hlt (by rw [hg,he]; rfl)
   ·have he:evF a ⟨wc,wk,some t⟩=none:=if_neg (by rw [r1']; intro h; injection h with h; exact D h);refine go tt [.t hl,.x (S8 hx),.g 28 true rfl,.c [] cc,.f (decide_eq_false D)] rfl (by simp [U9]; omega) ?_;exact rd (i+1) (by omega) hlt (by rw [hg,he]; simp; rfl)
 ·obtain rfl:i=ws.length:=by omega
  rw [Qy];exact ed tt [2] [0] [.f (by simp [hw])] rfl trivial
theorem Zhd {ws:List Wt} {a:Tm} (va:Va a) {w:Wt} (hw:w∈ws) (hf:w.fails=some a):0<(ws.filterMap (evF a)).length:=by
 obtain ⟨r,h1,h2⟩:=Qcm va va;have h0:r=0:=by
  rcases h2 with ⟨_,h⟩ | ⟨e,_⟩ | ⟨_,h⟩
  ·exact absurd h λh=>Qby va.cut va.cut h h
  ·exact e
  ·exact absurd h λh=>Qby va.cut va.cut h h
 have he:evF a w=some ([.int .i64 w.c.kind,.int .i64 w.c.i0,.int .i64 w.c.i1,.int .i64 w.c.i2,.int .i64 w.c.i3]++ta a):=by
  unfold evF; rw [hf]; exact if_pos (by rw [h1,h0])
 obtain ⟨x,hx⟩:∃ x,x∈ws.filterMap (evF a):=⟨_,Jp.2 ⟨w,hw,he⟩⟩;exact List.length_pos_of_mem hx
theorem Qvt {now:Tm}:∀ {ws:List Wt},(∀ w∈ws,w.known=true)->Da now ws=some ws
 | [],_=>rfl
 |
  w::l,h=>by
  simp only [Da];rw [if_pos (h w (Qw ..)),Qvt λx hx=>h x (Qj _ hx)];rfl
theorem Qvu {now:Tm} {l ws:List Wt} (h:Da now l=some ws):∀ w∈ws,w.known=true:=λv hv=>by
 obtain ⟨h1,h2⟩:=Qct h;obtain ⟨i,hi⟩:=Js hv;have hil:i<l.length:=by rw [<-h1]; exact (Qf.1 hi).1
 obtain ⟨v',h3,h4⟩:=h2 i _ (Qd hil);rw [hi] at h3; injection h3 with h3; subst h3;rcases h4 with ⟨h5,rfl⟩ | ⟨_,r,_,rfl⟩
 ·exact h5
 ·rfl
end Orr
namespace Orq
open Orr Go
theorem Zdh {β:Type} {Bc:Tm->List Ct} {Br:Tm->β} {n:Nat} (n4:n≤4) (hsz:∀ a,∀ x∈Bc a,Bd 86 x.p/\x.p.length≤n+1/\x.want=Tg (Hk a) x.p) (S:Stab Bc Br) {c:Cr} {r:β} {q:Rat} (hS:KSt Bc Br c r) (hq:c.now=tq q) :
 ∃ ws o,Da c.now c.l=some ws/\Qmm ws=some o/\Da c.now ws=some ws/\KSt Bc Br { c with l:=ws } r/\∀ a,o=some a->Va a/\0<(ws.filterMap (evF a)).length/\Fv a q=1/\(∃ C,HA a n C)/\(∃ x∈Bc c.now,Pg x.p c.now (some a))/\∀ x∈Bc c.now,∃ o',Pg x.p c.now o'/\∀ u,o'=some u->¬Nc u a:=by
 obtain ⟨ws,o,h1,h2,h3,h4⟩:=Zmy hS;refine ⟨ws,o,h1,h2,Qvt (Qvu h1),h3,λa ha=>?_⟩;subst ha;obtain ⟨va,hlt,⟨x,hx,hxn,hxt⟩,hmin⟩:=h4;obtain ⟨o',o1,o2⟩:=Qz0 h3.inv.ok.l;rw [h2] at o1;injection o1 with o1; subst o1;obtain ⟨_,⟨w,hw,hwf⟩,_⟩:=o2;obtain ⟨k1,k2,_⟩:=hsz c.now x hx;have hcp:=S.ok.p _ hS.inv.ok.n _ hx;refine ⟨va,Zhd va hw hwf,?_,Zpf hcp n4 k1 k2 va hxt,⟨x,hx,hxn⟩,hmin⟩;rw [hq] at hlt;have h5:=(Qbd va.cut (t:=q)).2 hlt;rcases va.cut.val q with e | e | e <;> omega
theorem Zpg {β:Type} {Bc:Tm->List Ct} {Br:Tm->β} {n:Nat} (hsz:∀ a,∀ x∈Bc a,Bd 86 x.p/\x.p.length≤n+1/\x.want=Tg (Hk a) x.p) {c:Cr} {r:β} {q:Rat} (hS:KSt Bc Br c r) (hq:c.now=tq q):∀ x∈H8 (c.l.map (·.c)),Bd 86 x.p/\x.p.length≤n+1/\Fg x.p/\Ms x.p q=x.want:=λx hx=>by
 have h1:=Eo.1 hx;obtain ⟨w,hw,rfl⟩:=Zp.1 h1;have h2:w.c∈H8 (Bc c.now):=by rw [<-hS.cs]; exact h1
 obtain ⟨k1,k2,k3⟩:=hsz _ _ (Eo.1 h2);refine ⟨k1,k2,(hS.inv.ok.l w hw).p.t,?_⟩;rw [k3,hq,Zbg]
end Orq
namespace Orr
open Go Go.Proofs Orq
set_option maxRecDepth 10000
abbrev ax (p:List Int) (C:List (List Int)) (lo hi:Rat):List LV:=[rp (zp p),.row (zls C)]++fr lo++fr hi
theorem Qvj {sg:List Int->Int} {l:List (List Int)} {i:Nat} {p:List Int} (h:l[i]? = some p):(idl (l.map sg))[i]? = some [.int .i64 (sg p)]:=Qe7 (by rw [Zb,h]; rfl)
theorem Q9n {l:List (List Int)} {sg:List Int->Int} (hl:l.length<=1000) (hs:∀ p,-1<=sg p/\sg p<=1):Fa Tryz.prog 219 [.one (.row (idl (l.map sg)))] [.one (.int .i64 (Nt sg l:Nat))]:=by
 have Nl:(idl (l.map sg)).length=l.length:=by simp
 refine Hl Tryz.func219 rfl ?_;refine go tt [] rfl trivial ?_;refine lp (S:=Nat) 0 (λL1 i=>(8,.v (.one (.int .i64 (i:Int))))::(3,.v (.one (.int .i64 ((Et sg l i).1:Int))))::(4,.v (.one (.int .i64 (Et sg l i).2)))::L1) (λ_=>[]) (λi=>l.length-i) (λi=>i<=l.length) 0 (Qi _) rfl (λ_ _=>rfl) rfl λi hi=>?_
 by_cases hlt:i<l.length
 ·obtain ⟨p,hp⟩:=gxE (l:=l) (i:=i) hlt;have hst:Et sg l (i+1)=Ts sg (Et sg l i) p:=Ru _ _ _ hp;obtain ⟨b1,b2,b3⟩:=Qnl hs l i;have b4:=hs p;have hx:=Qvj (sg:=sg) hp;have ht:decide ((i:Int)<((idl (l.map sg)).length:Int))=true:=decide_eq_true (by omega);by_cases h0:sg p=0
  ·refine go tt [.t ht,.x hx,.f (by simpa using h0)] rfl (by simp [U9]; omega) ?_;exact rd (i+1) (by omega) hlt (by rw [hst,show Ts sg (Et sg l i) p=Et sg l i from by unfold Ts; rw [if_pos h0]]; rfl)
  ·by_cases h2:(Et sg l i).2=0
   ·refine go tt [.t ht,.x hx,.t (by simpa using h0),.g 18 false (by simp [h2]),.f rfl,.x hx] rfl (by simp [U9]; omega) ?_;exact rd (i+1) (by omega) hlt (by rw [hst,show Ts sg (Et sg l i) p=((Et sg l i).1,sg p) from by unfold Ts; rw [if_neg h0,if_neg (by omega)]]; rfl)
   ·by_cases h1:(Et sg l i).2=-(sg p)
    ·refine go tt [.t ht,.x hx,.t (by simpa using h0),.g 18 true (by simpa using h2),.x hx,.t (by simp; omega),.x hx] rfl (by simp [U9]; omega) ?_;exact rd (i+1) (by omega) hlt (by rw [hst,show Ts sg (Et sg l i) p=((Et sg l i).1+1,sg p) from by unfold Ts; rw [if_neg h0,if_pos h1]]; rfl)
    ·refine go tt [.t ht,.x hx,.t (by simpa using h0),.g 18 true (by simpa using h2),.x hx,.f (by simp; omega),.x hx] rfl (by simp [U9]; omega) ?_;exact rd (i+1) (by omega) hlt (by rw [hst,show Ts sg (Et sg l i) p=((Et sg l i).1,sg p) from by unfold Ts; rw [if_neg h0,if_neg h1]]; rfl)
 ·obtain rfl:i=l.length:=by omega
  refine en tt [.f (decide_eq_false (by omega))] rfl ?_ trivial;unfold Et Nt; rw [List.take_length]
def Cok (C:List (List Int)):Prop:=C.length≤1000/\∀ p∈C,Bd 9000000 p/\p.length≤64
theorem Qk0 {C:List (List Int)} {q:Rat} (hC:Cok C) (hq:Qs 1000000 q):Fa Tryz.prog 164 [.one (.row (zls C)),.agg (fr q)] [.one (.int .i64 (Mk C q:Nat))]:=by
 obtain ⟨hl,hp⟩:=hC;have hzl:=Qat C;refine Hl Tryz.func164 rfl ?_;refine go tt [.o 5 3 1] rfl trivial ?_;refine lp (S:=Nat) 2 (λL1 i=>(9,.v (.one (.int .i64 (i:Int))))::(5,.v (.one (.orow 1 1 none)))::L1) (λi=>[.blk 35 (fr q),.row false 3 1 (idl ((C.take i).map λp=>Gl p q))]) (λi=>C.length-i) (λi=>i<=C.length) 0 (Qi _) rfl (λ_ _=>rfl) rfl λi hi=>?_
 have hol:(idl ((C.take i).map λp=>Gl p q)).length=i:=by simp; omega
 by_cases h:i<C.length
 ·have hx:=Qas h;have hm:=Xv h;have he:C.getD i []=C[i]:=by rw [Qe,Qd h]; rfl
  rw [he] at hx;have cs:=Qeu (U8 (hp _ hm).1 (by decide)) (hp _ hm).2 hq;have hg:idl ((C.take (i+1)).map λp=>Gl p q)=idl ((C.take i).map λp=>Gl p q)++[[.int .i64 (Gl C[i] q)]]:=by
   have e:(C.take (i+1)).map (λp=>Gl p q)=(C.take i).map (λp=>Gl p q)++[Gl C[i] q]:=by rw [Zq,Qd h,Jo]; rfl
   rw [e]; exact Jo
  refine go tt [.t (decide_eq_true (by omega)),.x hx,.c [] cs,.s (sz:=1) (Qz3 _)] rfl (by simp [U9,hol,-List.map_take]; omega) ?_;exact rd (i+1) (by omega) h (by rw [hg]; rfl)
 ·have e:i=C.length:=by omega
  rw [e,Qy];exact en tt [.f (decide_eq_false (by omega)),.p 1,.c [] (Q9n (sg:=λp=>Gl p q) hl λp=>Co p q)] rfl rfl trivial
theorem Qyr {C:List (List Int)} {lo hi:Rat} (hC:Cok C) (ql:Qs 1000000 lo) (qh:Qs 1000000 hi):Fa Tryz.prog 93 [.one (.row (zls C)),.agg (fr lo),.agg (fr hi)] [.one (.int .i64 (Rm C lo hi))]:=by
 have b1:Mk C lo<=C.length:=Nu (λp=>Co p lo) C;have b2:Mk C hi<=C.length:=Nu (λp=>Co p hi) C;have hl:=hC.1;have c1:=L6 (qh.mono (by decide)) (ql.mono (by decide));unfold Rm;by_cases h:Gv hi lo<0
 ·rw [if_pos h];exact w tt Tryz.func93 rfl [.c [] c1,.t (by simpa using h)] rfl rfl trivial
 ·rw [if_neg h];exact w tt Tryz.func93 rfl [.c [] c1,.f (by simpa using h),.c [] (Qk0 hC ql),.c [] (Qk0 hC qh)] rfl rfl (by simp [U9]; omega)
theorem Qud {p:List Int} {C:List (List Int)} {lo hi:Rat} (ql:Qs 1000000 lo) (qh:Qs 1000000 hi):Fa Tryz.prog 89 [.agg (ax p C lo hi)] [.one (.bool (decide (Gv lo hi=0)))] :=
 w tt Tryz.func89 rfl [.c [] (L6 (ql.mono (by decide)) (qh.mono (by decide)))] rfl rfl trivial
theorem Qcj {p:List Int} {C:List (List Int)} {lo hi t:Rat} (hp:Bd 30000000 p) (Nl:p.length<=64) (hC:Cok C) (ql:Qs 1000000 lo) (qh:Qs 1000000 hi) (qt:Qs 1000000 t):Fa Tryz.prog 28 [.agg (ax p C lo hi),.agg (fr t)] [.one (.int .i64 (crR C p lo hi t))]:=by
 have c0:=Qud (p:=p) (C:=C) ql qh;have c1:=L6 (ql.mono (t:=40000000) (by decide)) (qt.mono (by decide));have c2:=L6 (qt.mono (t:=40000000) (by decide)) (ql.mono (by decide));have c3:=L6 (qt.mono (t:=40000000) (by decide)) (qh.mono (by decide));have c4:=Qyr hC ql qt;have c5:=Qeu hp Nl qt;unfold crR;by_cases h0:Gv lo hi=0
 ·rw [if_pos h0];exact w tt Tryz.func28 rfl [.c [] c0,.t (decide_eq_true h0),.c [] c1] rfl rfl trivial
 rw [if_neg h0];by_cases h1:Gv t lo<=0
 ·rw [if_pos h1];exact w tt Tryz.func28 rfl [.c [] c0,.f (decide_eq_false h0),.c [] c2,.t (decide_eq_true h1)] rfl rfl trivial
 rw [if_neg h1];by_cases h2:0<Gv t hi
 ·rw [if_pos h2];exact w tt Tryz.func28 rfl [.c [] c0,.f (decide_eq_false h0),.c [] c2,.f (decide_eq_false h1),.c [] c3,.t (decide_eq_true h2)] rfl rfl trivial
 rw [if_neg h2];by_cases h3:Rm C lo t=0
 ·rw [if_pos h3];exact w tt Tryz.func28 rfl [.c [] c0,.f (decide_eq_false h0),.c [] c2,.f (decide_eq_false h1),.c [] c3,.f (decide_eq_false h2),.c [] c4,.t (decide_eq_true h3)] rfl rfl trivial
 rw [if_neg h3];by_cases h4:Gl p t=0
 ·rw [if_pos h4];exact w tt Tryz.func28 rfl [.c [] c0,.f (decide_eq_false h0),.c [] c2,.f (decide_eq_false h1),.c [] c3,.f (decide_eq_false h2),.c [] c4,.f (decide_eq_false h3),.c [] c5,.t (decide_eq_true h4)] rfl rfl trivial
 rw [if_neg h4];exact w tt Tryz.func28 rfl [.c [] c0,.f (decide_eq_false h0),.c [] c2,.f (decide_eq_false h1),.c [] c3,.f (decide_eq_false h2),.c [] c4,.f (decide_eq_false h3),.c [] c5,.f (decide_eq_false h4)] rfl rfl trivial
theorem Zf7 {p:List Int} {C c:List (List Int)} {lo hi t:Rat} (hp:Bd 30000000 p) (Nl:p.length<=64) (hC:Cok C) (ql:Qs 1000000 lo) (qh:Qs 1000000 hi) (qt:Qs 1000000 t) (hc:Cok c):Fa Tryz.prog 25 [.agg (ax p C lo hi),.agg (aq t c)] [.one (.int .i64 (crR C p lo hi t))]:=by
 have c0:=Qud (p:=p) (C:=C) ql qh;have ct:Fa Tryz.prog 89 [.agg (aq t c)] [.one (.bool true)]:=Qk1 qt;have c1:=Qcj hp Nl hC ql qh qt;by_cases h0:Gv lo hi=0
 ·have e:crR C p lo hi t=-(crR c [-t.num,(t.den:Int)] t t lo):=by
   rw [Qrh]; unfold crR; rw [if_pos h0];rcases Sy lo t with ⟨e,h⟩ | ⟨e,h⟩ | ⟨e,h⟩ <;> rcases Sy t lo with ⟨e',h'⟩ | ⟨e',h'⟩ | ⟨e',h'⟩ <;> grind
  have hbt:Bd 30000000 [-t.num,(t.den:Int)]:=U8 (Q79 qt.1 qt.2) (by decide);have c2:=Qcj (p:=[-t.num,(t.den:Int)]) (C:=c) (lo:=t) (hi:=t) hbt (by show 2<=64; decide) hc qt qt ql;have hb:-1<=crR c [-t.num,(t.den:Int)] t t lo/\crR c [-t.num,(t.den:Int)] t t lo<=1:=by
   rw [Qrh]; rcases Sy t lo with ⟨e',h'⟩ | ⟨e',h'⟩ | ⟨e',h'⟩ <;> omega
  rw [e];exact w tt Tryz.func25 rfl [.c [] c0,.t (decide_eq_true h0),.c [] c2] rfl rfl (by simp [U9]; omega)
 ·exact w tt Tryz.func25 rfl [.c [] c0,.f (decide_eq_false h0),.c [] ct,.t rfl,.c [] c1] rfl rfl trivial
theorem Q1y {q:Rat} (hq:Qs 1000000 q):Fa Tryz.prog 82 [.agg (rl q)] [.agg (fr q)]:=by
 have h1:Fq q.num<=1000000:=hq.1;have h2:Fq (q.den:Int)<=1000000:=hq.2;have cm:=Qck (a:=q.num) (b:=(q.den:Int)) (by omega) (by omega);have e:He q.num (q.den:Int)=q:=by rw [Qc2 (by have:=den_pos q; omega),Zv]
 rw [e] at cm;exact w tt Tryz.func82 rfl [.c [] (Qgr (z:=q.num) (by omega)),.c [] (Qgr (z:=(q.den:Int)) (by omega)),.c [] cm] rfl rfl trivial
def Q59 (p:List Int) (lo hi:Rat):Rat:=if Gv lo hi≠0/\Gl p hi=0 then hi else lo
theorem Zgb {p:List Int} {C:List (List Int)} {lo hi:Rat} (hp:Bd 30000000 p) (Nl:p.length<=64) (ql:Qs 1000000 lo) (qh:Qs 1000000 hi):Fa Tryz.prog 81 [.agg (ax p C lo hi)] [.agg (ax p C (Q59 p lo hi) hi)]:=by
 have c1:=L6 (ql.mono (t:=40000000) (by decide)) (qh.mono (by decide));have c2:=Qeu hp Nl qh;unfold Q59;by_cases h0:Gv lo hi=0
 ·rw [if_neg (λh=>h.1 h0)];exact w tt Tryz.func81 rfl [.c [] c1,.g 9 false (by simp [h0]),.f rfl] rfl rfl trivial
 by_cases h1:Gl p hi=0
 ·rw [if_pos ⟨h0,h1⟩];exact w tt Tryz.func81 rfl [.c [] c1,.g 9 true (by simp [h0]),.c [] c2,.t (decide_eq_true h1)] rfl rfl trivial
 ·rw [if_neg (λh=>h1 h.2)];exact w tt Tryz.func81 rfl [.c [] c1,.g 9 true (by simp [h0]),.c [] c2,.f (decide_eq_false h1)] rfl rfl trivial
theorem Q1x {p:List Int} {C:List (List Int)} {lo hi:Rat} (tp:Fg p) (hp:Bd 8000000 p) (h2:2<=p.length) (Nl:p.length<=64) (hpr:Hu p=p) (hC:ChRun p p C) (ql:Qs 1000000 lo) (qh:Qs 1000000 hi):Fa Tryz.prog 20 [.agg (ta ⟨p,lo,hi⟩)] [.agg (ax p C (Q59 p lo hi) hi)]:=by
 have cf:=Ap (p:=p) (U8 hp (by decide)) (by omega);rw [tp] at cf;have cp:=Aq tp (U8 hp (by decide)) (by omega);rw [hpr] at cp;have cc:=Quf tp (U8 hp (by decide)) (by omega) h2 hC;have ce:=Zgb (p:=p) (C:=C) (lo:=lo) (hi:=hi) (U8 hp (by decide)) Nl ql qh;exact w tt Tryz.func20 rfl [.c [] cf,.c [] cp,.c [] cc,.c [] (Q1y ql),.c [] (Q1y qh),.c [] ce] rfl rfl trivial
theorem Q0o {q:Rat} (h:Qs 1000000 q):ChRun [-q.num,(q.den:Int)] [-q.num,(q.den:Int)] [[-q.num,(q.den:Int)],[1]]/\Hu [-q.num,(q.den:Int)]=[-q.num,(q.den:Int)]:=by
 have hg:Int.gcd (-q.num) (q.den:Int)=1:=by
  rw [Int.neg_gcd];have:=q.reduced;unfold Nat.Coprime at this;simpa [Int.gcd] using this
 exact ⟨Qok (den_pos q) hg (by rw [Hh]; exact h.1) h.2,Qb5 (den_pos q) hg⟩
theorem Q8f {q:Rat} (h:Qs 1000000 q):Fa Tryz.prog 20 [.agg (ta (tq q))] [.agg (aq q [[-q.num,(q.den:Int)],[1]])]:=by
 obtain ⟨h1,h2⟩:=Q0o h;have c:=Q1x (p:=[-q.num,(q.den:Int)]) (lo:=q) (hi:=q) (Qti q) (U8 (bd2 (s:=1000000) (by rw [Hh]; exact h.1) h.2) (by decide)) (by show 2<=2; decide) (by show 2<=64; decide) h2 h1 h h;have e:Q59 [-q.num,(q.den:Int)] q q=q:=if_neg λh=>h.1 (L8.2 rfl)
 rw [e] at c;exact c
theorem Zo6 {q:Rat} (h:Qs 1000000 q):Cok [[-q.num,(q.den:Int)],[1]]:=⟨by show 2<=1000; decide,λp hp=>by
 simp only [Qm,Kn,or_false] at hp;rcases hp with rfl | rfl
 ·exact ⟨U8 (bd2 (s:=1000000) (by rw [Hh]; exact h.1) h.2) (by decide),by show 2<=64; decide⟩
 ·exact ⟨b1 (by decide),by show 1<=64; decide⟩⟩
theorem Zf8 {lo hi:Rat} (ql:Qs 1000000 lo) (qh:Qs 1000000 hi):Fa Tryz.prog 95 [.agg (fr lo),.agg (fr hi)] [.agg (fr (mid lo hi))]:=by
 have c1:=Qx9 (ql.mono (t:=20000000) (by decide)) (qh.mono (by decide));have c2:=Zj7 (n:=1) (d:=2) (by decide) (by decide);have e:He 1 2=(1:Rat) / 2:=by rw [Qc2 (by decide)]; decide +kernel
 rw [e] at c2;have q1:Qs 40000000 (lo+hi):=(Zm9 ql qh).mono (by decide);have q2:Qs 40000000 ((1:Rat) / 2):=by rw [<-e]; exact ⟨by decide,by decide⟩
 have c3:=Qyf q1 q2;have em:(lo+hi)*((1:Rat) / 2)=mid lo hi:=by rw [Qd7]; grind
 rw [em] at c3;exact w tt Tryz.func95 rfl [.c [] c1,.c [] c2,.c [] c3] rfl rfl trivial
theorem Qoc {p:List Int} {C:List (List Int)} {lo hi:Rat} (hp:Bd 30000000 p) (Nl:p.length<=64) (hC:Cok C) (ql:Qs 1000000 lo) (qh:Qs 1000000 hi) (qm:Qs 1000000 (mid lo hi)) (hne:lo≠hi):Fa Tryz.prog 49 [.agg (ax p C lo hi)] [.agg (if crR C p lo hi (mid lo hi)<=0 then ax p C lo (mid lo hi) else ax p C (mid lo hi) hi)]:=by
 have c1:=L6 (ql.mono (t:=40000000) (by decide)) (qh.mono (by decide));have c2:=Zf8 ql qh;have c3:=Qcj hp Nl hC ql qh qm;have h0:¬Gv lo hi=0:=λh=>hne (L8.1 h)
 by_cases h:crR C p lo hi (mid lo hi)<=0
 ·rw [if_pos h];exact w tt Tryz.func49 rfl [.c [] c1,.f (decide_eq_false h0),.c [] c2,.c [] c3,.t (decide_eq_true h)] rfl rfl trivial
 ·rw [if_neg h];exact w tt Tryz.func49 rfl [.c [] c1,.f (decide_eq_false h0),.c [] c2,.c [] c3,.f (decide_eq_false h)] rfl rfl trivial
set_option maxHeartbeats 8000000 in
theorem Qnx {zs:List RawPt} {n d:Int} (hz:∀ z∈zs,z.Ok) (hn:-9223372036854775808≤n/\n≤9223372036854775807) (hdd:-9223372036854775808≤d/\d≤9223372036854775807):Fa Tryz.prog 7 [.one (.row (Qf1 zs)),.one (.int .i64 n),.one (.int .i64 d)] [.one (.bool true)]:=by
 obtain ⟨e,he,hd,hm⟩:=Zl8 (Qht 4 20 zs);have hq0:=Qqg n d;have cb:=Q5o hz rfl he hd hm hn hdd (Zpz (hq0.mono (by decide))) rfl;obtain ⟨O,hO⟩:=nmE (Qht 4 20 zs);have hO4:O.length<=4:=by rw [hO]; exact Qbo _ _ (Qi _)
 have hlit:∀ p∈O,Q49 p:=λp hp=>by rw [hO] at hp; exact Qph (by decide) p hp
 rw [<-hO] at cb he hd;obtain ⟨M,hM⟩:=nmE (Gy Al (Qdb O e));rw [<-hM] at cb;obtain ⟨q,hq⟩:=nmE (Qan n d);rw [<-hq] at cb hq0;have hcn:(Qdb O e).length=e:=by rw [Qit,Qew he]
 have hMl:M.length=e:=by rw [hM,Te,hcn]
 have hMd:A9 M:=by rw [hM]; exact Q52 (Qnf _).symm (Qop hd)
 have hok:∀ p∈M,Nml p.c/\Cs 10 3 p.c:=λp hp=>by
  rw [hM,Ma] at hp;exact Q2x hlit e p hp
 have hsc:∀ p∈M,Sc p.c:=λp hp=>⟨(hok p hp).1,(hok p hp).2.mono (by decide) (by decide)⟩
 have hln:M.length<=10:=by omega
 have hv:Va (tq q):=Zev (hq0.mono (by decide));have S:Stab (bcH M) (brH M):=Zp8 hsc hln hMd;obtain ⟨c0,hc0⟩:=nmE (Q5e M (tq q));have hst:KSt (bcH M) (brH M) c0 (brH M (tq q)):=by rw [hc0]; exact Zlj S hv
 have hn0:c0.now=tq q:=by rw [hc0]; rfl
 have hev0:c0.ev=0:=by rw [hc0]; rfl
 rw [<-hc0] at cb;have hal:(Qem M++Qki M).length≤1000000:=Q7z hln;have hsz:∀ a,∀ x∈bcH M a,Bd 86 x.p/\x.p.length≤4+1/\x.want=Tg (Hk a) x.p:=λa=>Zfo hok
 have adv:=λ{t:Rat} (ht:Qs 400000 t) {c:Cr} {r:List (List LV)} (hS:KSt (bcH M) (brH M) c r) (h:Fv c.now t<=0)=>Zlb S (Qjk hsc) (λa _=>Qqv) hal ht hS h
 refine Hl Tryz.func7 rfl ?_;refine go tt [.c [0,1] cb,.f rfl] rfl trivial ?_;refine lp (S:=Nat×Cr×(List (List LV))×Rat) 2 (λL1 s=>(10,.v (.one (.int .i64 (s.1:Int))))::L1) (λs=>[.blk 124 (C7 s.2.1 (Fh M) s.2.2.1),.blk 45 (plB M q [[-q.num,(q.den:Int)],[1]] (Qb9 q M))]) (λs=>3-s.1) (λs=>s.1<=3/\KSt (bcH M) (brH M) s.2.1 s.2.2.1/\s.2.1.now=tq s.2.2.2/\Qs (bq 4 s.1) s.2.2.2/\0<=s.2.1.ev/\s.2.1.ev<=((s.1*67000000:Nat):Int)) (0,c0,brH M (tq q),q) ⟨Qi _,hst,hn0,hq0.mono (by show 100<=100; decide),by show 0<=c0.ev; omega,by show c0.ev<=_; omega⟩ rfl (λ_ _=>rfl) rfl λ⟨i,c,r,cur⟩ ⟨hi,hS,hcur,hcq,hev1,hev2⟩=>?_
 dsimp only at hi hS hcur hcq hev1 hev2 ⊢;by_cases hr:i<3
 ·have hb1:bq 4 i<=400000:=(Zj3 (by decide) i (by omega)).1;have hb2:bq 4 (i+1)<=400000:=(Zj3 (by decide) i (by omega)).2 hr;have h4:=hcq.mono hb1;have h6:Qs 1000000 cur:=h4.mono (by decide);obtain ⟨ws,o,w1,w2,w3,hS2,hnx⟩:=Zdh (n:=4) (by decide) hsz S hS hcur;have hld:=Zpg hsz hS hcur;have cNow:=Qye (T:=124) (c:=c) (r0:=Fh M) (r1:=r) hS.inv.ok.n;rw [hcur] at cNow;have cFA:=Q8f h6;have cC:=Q8l (T:=124) (c:=c) (r0:=Fh M) (r1:=r) hS.inv.ok;have cNx:=Qqz (T:=124) (r0:=Fh M) (r1:=r) hS.inv.ok w1 w2;obtain ⟨L,hL⟩:=nmE (H8 (c.l.map (·.c)));rw [<-hL] at cC hld;have hLl:L.length<=1000:=by rw [hL,Ep,Q8]; exact hS.inv.ok.k
  have hcl:=Dh L;obtain ⟨cc,hcc⟩:=nmE ([[-cur.num,(cur.den:Int)],[1]]);have hck:Cok cc:=by rw [hcc]; exact Zo6 h6
  rw [<-hcc] at cFA;refine go tt [.t (decide_eq_true (by omega)),.c [0] cNow,.c [] cFA,.c [0] cC] rfl (by simp [U9]) ?_;refine lp (S:=Nat) 3 (λL1 k=>(47,.v (.one (.int .i64 (k:Int))))::L1) (λ_=>[.blk 124 (C7 c (Fh M) r),.blk 45 (plB M q [[-q.num,(q.den:Int)],[1]] (Qb9 q M)),.blk 37 (aq cur cc)]) (λk=>L.length-k) (λk=>k<=L.length) 0 (Qi _) rfl (λ_ _=>rfl) rfl λk hk=>?_
  by_cases hkl:k<L.length
  ·obtain ⟨x,hx⟩:=gxE (l:=L) (i:=k) hkl;obtain ⟨x1,x2,x3,x4⟩:=hld x (Qa hx);have cf:=Ap (p:=x.p) (U8 x1 (by decide)) (by omega);rw [x3] at cf;have ca:=Ev (c:=cc) (U8 x1 (by decide)) (by omega) h6;rw [x4] at ca;refine go tt [.t (decide_eq_true (by omega)),.x (Qdx hx),.c [] cf,.c [] ca,.x (Qdx hx),.f (by simp)] rfl (by simp [U9] <;> omega) ?_;exact rd (k+1) (by omega) hkl rfl
  ·cases o with
   | none=>exact en tt [.f (decide_eq_false (by omega)),.c [0] cNx,.t rfl,.c [] Qoo] rfl rfl (by simp [U9])
   |
    some a =>
    obtain ⟨va,hpos,hlt,⟨C,hA⟩,hex,hmin⟩:=hnx a rfl;have hokC:Cok C:=⟨hA.ch.small,Qul hA.ch (by have:=hA.n; omega)⟩;have hX0:=hA.start hlt (b:=bq 4 (i+1)) (by show 15374<=17000+_; omega);have hAb:Bd 8000000 a.p:=U8 hA.b (by decide);have hAl:a.p.length<=64:=by have:=hA.n; omega
    have hAq:=hA.i.qs (b:=1000000) (by decide);have cFa:=Q1x (p:=a.p) (C:=C) (lo:=a.lo) (hi:=a.hi) va.tr hAb va.n2 hAl hA.pr hA.ch hAq.1 hAq.2;have hxl:Q59 a.p a.lo a.hi=xlo a:=by
     have:Gv a.lo a.hi≠0:=λh=>by
      have h1:=L8.1 h;have h2:=hA.i.lt;rw [h1] at h2; exact Rat.lt_irrefl h2
     unfold Q59 xlo;by_cases h:Gl a.p a.hi=0
     ·rw [if_pos ⟨this,h⟩,if_pos h]
     ·rw [if_neg (λh'=>h h'.2),if_neg h]
    rw [hxl] at cFa;have hx4:Qs 1000000 (xlo a):=hX0.ql.mono (by omega);have hh4:Qs 1000000 a.hi:=hX0.qh.mono (by omega);have cCm:=Zf7 (p:=a.p) (C:=C) (c:=cc) (lo:=xlo a) (hi:=a.hi) (t:=cur) (U8 hAb (by decide)) hAl hokC hx4 hh4 h6 hck;rw [hX0.cmp hA.i hlt] at cCm;have cBt:=Q8k (T:=124) (c:={ c with l:=ws }) (r0:=Fh M) (r1:=r) hS2.inv.ok w3 w2 va;have hbl:¬((ws.filterMap (evF a)).length:Int)=0:=by omega
    refine go tt [.f (decide_eq_false (by omega)),.c [0] cNx,.f rfl,.c [] cFa,.c [] cCm,.g 80 false (decide_eq_false (by decide)),.c [0] cBt,.f (decide_eq_false hbl),.c [0,5] Q5k] rfl (by simp [U9] <;> omega) ?_;refine lp (S:=Nat×Rat×Rat) 6 (λL1 _=>L1) (λs=>[.blk 124 (C7 { c with l:=ws } (Fh M) r),.blk 45 (plB M q [[-q.num,(q.den:Int)],[1]] (Qb9 q M)),.blk 37 (aq cur cc),.blk 74 (ta a),.blk 37 (ax a.p C s.2.1 s.2.2),.blk 124 (C7 { c with l:=ws } (Fh M) r)]) (λs=>1581+4*bq 4 i-s.1) (λs=>HX a C cur (bq 4 (i+1)) s.1 s.2.1 s.2.2) (0,xlo a,a.hi) hX0 rfl (λ_ _=>rfl) rfl λ⟨j,lo,hi⟩ hX=>?_
    dsimp only at hX ⊢;have ql6:Qs 1000000 lo:=hX.ql.mono (by omega);have qh6:Qs 1000000 hi:=hX.qh.mono (by omega);have cW:=Qcj (p:=[-cur.num,(cur.den:Int)]) (C:=cc) (lo:=cur) (hi:=cur) (t:=lo) (U8 (Q79 h6.1 h6.2) (by decide)) (by show 2<=64; decide) hck h6 h6 ql6;rw [Qrh] at cW;by_cases hlo:lo<cur
    ·obtain ⟨n1,n2,n3,n4⟩:=HX.next hA (by decide) hX hcq hlt hlo;have hne:lo≠hi:=λh=>by rw [h] at n1; exact Rat.lt_irrefl n1
     have hW:0<Gv cur lo:=M5.2 hlo;by_cases hc:crR C a.p lo hi (mid lo hi)<=0
     ·have h5:=n3 hc;have cH:=Qoc (p:=a.p) (C:=C) (U8 hAb (by decide)) hAl hokC ql6 qh6 (h5.qh.mono (by show 17000+_<=_; exact Qc hb2 (by decide))) hne;rw [if_pos hc] at cH;refine go tt [.c [] cW,.t (decide_eq_true hW),.c [] cH] rfl (by simp [U9]) ?_;exact rd (j+1,lo,mid lo hi) (by dsimp only; omega) h5 rfl
     ·have h5:=n4 hc;have cH:=Qoc (p:=a.p) (C:=C) (U8 hAb (by decide)) hAl hokC ql6 qh6 (h5.ql.mono (by show 17000+_<=_; exact Qc hb2 (by decide))) hne;rw [if_neg hc] at cH;refine go tt [.c [] cW,.t (decide_eq_true hW),.c [] cH] rfl (by simp [U9]) ?_;exact rd (j+1,mid lo hi,hi) (by dsimp only; omega) h5 rfl
    ·have hcl':cur<=lo:=Up.1 hlo;have hW:¬0<Gv cur lo:=λh=>hlo (M5.1 h)
     obtain ⟨f1,f2,f3⟩:=HX.fin va hX;have qh4:Qs 400000 hi:=hX.qh.mono hb2;have ql4:Qs 400000 lo:=hX.ql.mono hb2;have hci:cur<=hi:=Za hcl' f3;have cE:=L6 (ql6.mono (t:=40000000) (by decide)) (qh6.mono (by decide));have cTh:=Q85 (q:=hi) (qh6.mono (by decide));have hcm:Fv c.now hi<=0:=by rw [hcur,Qqk]; exact O1.2 hci
     obtain ⟨K1,c1,E1,k1,k2,k3,k4,k5,k6,k7⟩:=adv qh4 hS2 hcm;have hE1:E1≠[]:=Zax (t:=hi) hS.inv.ok.n va hex f2 k7;have hE1l:0<E1.length:=Jy.2 hE1;have cA1:=Q8j (l:=M) (K:=K1) qh4 hsc hln hS2.inv.ok ⟨hev1,by show c.ev+_<=_; omega⟩ hcm k2;have hnl:¬(0:Int)+((E1.length:Nat):Int)<1:=by omega
     have hinv:i+1<=3/\KSt (bcH M) (brH M) c1 (brH M (tq hi))/\c1.now=tq hi/\Qs (bq 4 (i+1)) hi/\0<=c1.ev/\c1.ev<=(((i+1)*67000000:Nat):Int):=⟨hr,k4,k3,hX.qh,by rw [k5]; show 0<=c.ev+_; omega,by rw [k5]; show c.ev+_<=_; omega⟩;by_cases hne:lo=hi
     ·have h0:Gv lo hi=0:=L8.2 hne;rw [h0] at cE;refine go tt [.c [] cW,.f (decide_eq_false hW),.c [] cE,.f rfl,.c [] cTh,.c [0] cA1,.g 144 false rfl,.f (decide_eq_false (by omega))] rfl (by simp [U9] <;> omega) ?_;exact rd (i+1,c1,brH M (tq hi),hi) (by dsimp only; omega) hinv rfl
     ·have h0:¬Gv lo hi=0:=λh=>hne (L8.1 h)
      have cTl:=Q85 (q:=lo) (ql6.mono (by decide));have hcm2:Fv c.now lo<=0:=by rw [hcur,Qqk]; exact O1.2 hcl'
      obtain ⟨K2,c2,E2,m1,m2,m3,m4,m5,m6,m7⟩:=adv ql4 hS2 hcm2;have hE2:E2=[]:=Qzd hS.inv.ok.n va hmin (Zev ql4) (f1 hne) m7;subst hE2;have hsame:=(Qrt S hS.inv.ok.n (Zev ql4) (by rw [hcur]; exact λh=>absurd (Zjl.1 h) (Up.2 hcl')) m7).2;have cA2:=Q8j (l:=M) (K:=K2) ql4 hsc hln hS2.inv.ok ⟨hev1,by show c.ev+_<=_; omega⟩ hcm2 m2;have hrr:r=brH M (tq lo):=by rw [hsame]; exact hS.r
      rw [<-hrr] at cA2;have cAl:=Q8a (c:={ c with l:=ws }) (c':=c2) (l:=M) (l':=M) (m:=M) (a:=tq lo) (r:=r) (by omega) hrr;have hev3:¬¬c2.ev=c.ev:=λh=>h (by rw [m5]; show c.ev+((0:Nat):Int)=_; omega)
      refine go tt [.c [] cW,.f (decide_eq_false hW),.c [] cE,.t (by simpa using h0),.c [] cTl,.c [5] cA2,.g 113 true rfl,.g 116 false (decide_eq_false (by simp)),.lo,.c [0,5] cAl,.g 122 false rfl,.lo,.c [5] Qob,.lo,.c [0] Qob,.f (by simpa using hev3),.c [] cTh,.c [0] cA1,.g 144 false rfl,.f (decide_eq_false (by omega))] rfl (by simp [U9] <;> omega) ?_;exact rd (i+1,c1,brH M (tq hi),hi) (by dsimp only; omega) hinv rfl
 ·exact en tt [.f (decide_eq_false (by omega)),.c [] Qoo] rfl rfl (by simp [U9])
end Orr
namespace Orr
open Go Go.Proofs
variable {H:Type} {enc:TypeId×Value->H} {w:World} {base:Nat} {spare:Nat->Bool} {Zpg:Bool}
theorem E7 {α:Type} {l:List α} {n i:Nat} (h:l.length=n) (hi:i<n):∃ x,l[i]? = some x:=⟨l[i]'(by omega),Qd (by omega)⟩
end Orr
namespace Orr
open Go Go.Proofs Go.ChangeShapes Go.WideShapes Go.ChangeAt Go.RowKit Go.WideElems
theorem Zgt {w:World} {a:Addr} {v:Value} (h:w.cell? a=some v):a.spot=none/\a.block<w.heap.size:=by
 simp only [World.cell?] at h
 split at h
 ·rename_i c t fr hc
  split at h
  ·cases h
  ·rename_i hs;refine ⟨by cases e:a.spot with | none=>rfl | some _=>simp [e] at hs,?_⟩;exact (Array.getElem?_eq_some_iff.1 hc).1
 ·cases h
theorem Zfk {a:Addr} (h:a.spot=none) (n m:Nat):(a.add n).add m=⟨a.block,a.off+n+m,none⟩:=by
 obtain ⟨b,o,s⟩:=a;simp only at h;subst h;simp only [Addr.add]
 split
 ·rename_i h; subst h
  split
  ·rename_i h; subst h; simp
  ·simp
 ·split
  ·rename_i h; subst h; simp
  ·simp
def fr0 (w:World):Fr:=⟨λb=>b<w.heap.size,λ_=>False,w,λ_=>False,λ_=>none⟩
theorem hs0 (w:World):HS (fr0 w) (ob []) (nw []) (λ_=>none) (λ_=>False) w where
 size:=Ql _
 kept:=λb hb=>⟨hb,rfl,Iff.rfl⟩
 ids:=λi h=>h.elim
 nj:=λi h=>by rw [Qsl] at h; cases h
 io:=⟨rfl,rfl⟩
 blk:=λi=>by rw [Qsl]; trivial
 nk:=λi g c m h _=>by rw [Qsl] at h; cases h
 inj:=λi j g c m c' m' h _ _ _=>by rw [Qsl] at h; cases h
 mlt:=λb h=>h.elim
 m0:=λb _ h=>h.elim
 un:=λi _=>⟨rfl,rfl⟩
 uj:=λi _ h=>h.elim
theorem Zi3 {w w':World} {bl:Nat->OB} {U:Nat->Prop} {E:B8} {M:Nat->Prop} (h:HS (fr0 w) bl U E M w') {p:MemPlace} (hp:p.block<w.heap.size):w.sameAt w' p:=by
 cases p with
 | cell b off=>simp only [World.sameAt,World.cell?]; rw [(h.kept b hp).2.1]; rfl
 | map b=>exact (h.kept b hp).2.1
theorem Zhm {w w':World} {bl:Nat->OB} {U:Nat->Prop} {E:B8} {M:Nat->Prop} (h:HS (fr0 w) bl U E M w') (may:MemPlace->Prop):w.keptBut w' may:=by
 refine ⟨h.io.1,h.io.2,λi hi=>?_⟩;have e:w'.heap[i]? = w.heap[i]? := (h.kept i hi).2.1;rw [e];cases w.heap[i]? with
 | none=>rfl
 | some o=>cases o <;> simp
theorem Qch {H:Type} {P:Program} {e:TypeId}:∀ {l:List (DataW H)} {i:Nat} {d:DataW H},l[i]? = some d->∀ n∈d.weights P e,n∈DataW.weightsAll P e l
 | [],i,d,h,_,_=>by simp at h
 |
  x::l,0,d,h,n,hn=>by
  simp at h; subst h;simp only [DataW.weightsAll,Qu]; exact .inl hn
 |
  x::l,i+1,d,h,n,hn=>by
  simp only [DataW.weightsAll,Qu];exact .inr (Qch (i:=i) (by simpa using h) n hn)
theorem Iq {H:Type} {P:Program} {t:TypeId} {fs:Array Field} {parts:List (DataW H)} (hu:P.underlying t=some (.struct fs)) (hz:((DataW.agg parts).weights P t).all (· <= reachBytes)=true) {i:Nat} {f:Field} {d:DataW H} (hf:fs[i]? = some f) (hd:parts[i]? = some d) :
 (d.weights P f.type).all (· <= reachBytes)=true:=by
 rw [Yz] at hz ⊢;intro n hn;refine hz n ?_;simp only [DataW.weights,hu];exact DataW.weights_mem_each (j:=i) (by rw [Zb]; simp [hf]) hd n hn
variable {H:Type} {enc:TypeId×Value->H} {w:World}
abbrev O0:Nat->Prop:=λ_=>False
def Els (w:World) (cs:List Value) (ls:List LV):Prop:=cs.length=ls.length/\∀ (j:Nat) (u:LV),ls[j]? = some u->∃ v,cs[j]? = some v/\LRep w O0 v u
theorem Qfy {α:Type} {rw_:α->List LV} {Ok:α->Prop} {t e sz:Nat} (hu:Tryz.prog.underlying t=some (.slice e)) (hc:Tryz.prog.cellsOf e=sz) (hsz:0<sz) (hb:1<=Tryz.prog.bytesOf e) (hw:∀ z,(rw_ z).length=sz)
 (elem:∀ fuel cs x,DataW.trod enc Tryz.prog w 0 (λ_=>true) true fuel e cs=some x->(x.1.weights Tryz.prog e).all (· <= reachBytes)=true->∃ z,Ok z/\Els w cs (rw_ z))
 {fuel:Nat} {cs:List Value} {x:DataW H×List MemPlace} (h:DataW.trod enc Tryz.prog w 0 (λ_=>true) true fuel t cs=some x) (hz:(x.1.weights Tryz.prog t).all (· <= reachBytes)=true) :
 ∃ (v:Value) (l:List α),cs=[v]/\(∀ z∈l,Ok z)/\l.length<2^47/\LRep w O0 v (.row (l.map rw_)):=by
 rcases Go.Deep.open_slice hu h with ⟨rfl,_⟩ | ⟨a',len,cap,m,n,D,Pl,rfl,_,hlc,hcap,hm,rfl,hr⟩
 ·refine ⟨_,[],rfl,by simp,Nat.two_pow_pos 47,?_⟩;exact LRep.row none 0 0 0 0 [] (λ_ _=>.bool true) (Ql _) (by decide) (by simp) (by simp) (by simp) (by simp)
 ·simp only [if_true] at hm;subst hm;rw [Yz] at hz;have hlen:len<2^47:=by
   have h0:=hz ((len+(m-len))*Tryz.prog.bytesOf e) (by simp [DataW.weights,hu]);have h1:len<=(len+(m-len))*Tryz.prog.bytesOf e:=by
    have:=Zh (Vl len (m-len)) hb;omega
   have h2:(len+(m-len))*Tryz.prog.bytesOf e<=reachBytes:=by simpa using h0
   exact Zz (Qc h1 h2) reachBytes_lt
  have hel:∀ i,i<len->((D i).weights Tryz.prog e).all (· <= reachBytes)=true:=λi hi=>by
   rw [Yz];intro k hk;refine hz k ?_;simp only [DataW.weights,hu];refine Qj _ (Qu.2 (.inl (Qch (i:=i) ?_ k hk)));rw [Zb,X2 hi]; rfl
  have hone:∀ i,i<len->∃ z cs',Ok z/\Els w cs' (rw_ z)/\∀ j,j<sz->w.cell? ((a'.add (i*sz)).add j)=cs'[j]? := λi hi=>by
   obtain ⟨cs',hcs,htr⟩:=hr i (by omega);rw [hc] at hcs;obtain ⟨_,hl,hcell⟩:=World.cells?_some hcs;obtain ⟨z,hz1,hz2⟩:=elem _ _ _ htr (hel i hi);refine ⟨z,cs',hz1,hz2,λj hj=>?_⟩;rw [hcell j (by omega)]
  have hspot:0<len->a'.spot=none/\a'.block<w.heap.size:=λh0=>by
   obtain ⟨z,cs',_,⟨hl,_⟩,h3⟩:=hone 0 h0;have h4:=h3 0 hsz;have:(a'.add (0*sz)).add 0=a':=by simp [Addr.add]
   rw [this,Qd (by rw [hl,hw]; exact hsz)] at h4;exact Zgt h4
  obtain ⟨l,hll,hl⟩:∃ l:List α,l.length=len/\∀ i z,l[i]? = some z->Ok z/\∃ cs',Els w cs' (rw_ z)/\∀ j,j<sz->w.cell? ((a'.add (i*sz)).add j)=cs'[j]? := by
   have:∀ k,k<=len->∃ l:List α,l.length=k/\∀ i z,l[i]? = some z->Ok z/\∃ cs',Els w cs' (rw_ z)/\∀ j,j<sz->w.cell? ((a'.add (i*sz)).add j)=cs'[j]? := by
    intro k
    induction k with
    | zero=>intro _; exact ⟨[],rfl,λi z h=>by simp at h⟩
    |
     succ k ih =>
     intro hk;obtain ⟨l,h1,h2⟩:=ih (by omega);obtain ⟨z,cs',h3,h4,h5⟩:=hone k (by omega);refine ⟨l++[z],by simp [h1],λi y hy=>?_⟩;rcases Q9 i l.length with hi | hi
     ·rw [Zi hi] at hy; exact h2 i y hy
     ·rw [Xa hi] at hy;have:i-l.length=0:=by
       rcases Q0 (i-l.length) with h | h
       ·exact h
       ·rw [Qt (by rw [Y8]; exact h)] at hy; cases hy
      rw [this] at hy;simp at hy;subst hy;have:i=k:=by omega
      subst this;exact ⟨h3,cs',h4,h5⟩
   exact this len (Ql _)
  refine ⟨_,l,rfl,λz hz=>?_,by rw [hll]; exact hlen,?_⟩
  ·obtain ⟨i,hi⟩:=Zf.1 hz;exact (hl i z hi).1
  ·have key:LRep w O0 (.slice (some a') (l.map rw_).length m) (.row (l.map rw_)):=by
    have hgl:∀ i c,(l.map rw_)[i]? = some c->∃ z,l[i]? = some z/\c=rw_ z/\i<len:=λi c h=>by
     rw [Zb] at h;cases e:l[i]? with
     | none=>rw [e] at h; cases h
     | some z=>rw [e] at h; simp at h; exact ⟨z,rfl,h.symm,by have:=(Qf.1 e).1; omega⟩
    have hcl:∀ i c,(l.map rw_)[i]? = some c->∃ cs':List Value,Els w cs' c/\∀ j,j<sz->w.cell? ⟨a'.block,a'.off+i*sz+j,none⟩=cs'[j]? := λi c h=>by
     obtain ⟨z,hz,rfl,hi⟩:=hgl i c h;obtain ⟨_,cs',h1,h2⟩:=hl i z hz;refine ⟨cs',h1,λj hj=>?_⟩;rw [<-h2 j hj,Zfk (hspot (by omega)).1]
    refine LRep.row (some a') m sz a'.block a'.off (l.map rw_) (λi j=>(w.cell? ⟨a'.block,a'.off+i*sz+j,none⟩).getD (.bool true)) (by rw [Q8]; omega) ?_ ?_ ?_ ?_ ?_
    ·have:maxLen=2^63-1:=by rfl
     omega
    ·intro c hc2;obtain ⟨z,_,rfl⟩:=Zp.1 hc2;exact hw z
    ·intro h0;rw [Q8,hll] at h0;obtain ⟨hs,hb⟩:=hspot h0;refine ⟨?_,hb,by simp [O0]⟩;obtain ⟨b,o,s⟩:=a';simp only at hs;rw [hs]
    ·intro i c hi j hj;obtain ⟨z,_,rfl,_⟩:=hgl i c hi;obtain ⟨cs',⟨h1,_⟩,h2⟩:=hcl i _ hi;have hjs:j<sz:=by rw [<-hw z]; exact hj
     rw [h2 j hjs,Qd (by rw [h1]; exact hj)]; rfl
    ·intro i c hi j u hu2;obtain ⟨z,_,rfl,_⟩:=hgl i c hi;obtain ⟨cs',⟨h1,h3⟩,h2⟩:=hcl i _ hi;obtain ⟨v,hv,hr2⟩:=h3 j u hu2;have hjs:j<sz:=by rw [<-hw z]; exact (Qf.1 hu2).1
     show LRep w O0 ((w.cell? ⟨a'.block,a'.off+i*sz+j,none⟩).getD (.bool true)) u;rw [h2 j hjs,hv]; exact hr2
   rw [Q8,hll] at key;exact key
abbrev Zq7 (x:Nat):List LV:=[.int .u32 (x:Int)]
theorem Zet:∀ fuel cs x,DataW.trod enc Tryz.prog w 0 (λ_=>true) true fuel 199 cs=some x->(x.1.weights Tryz.prog 199).all (· <= reachBytes)=true->∃ z:Nat,z<4294967296/\Els w cs (Zq7 z):=by
 intro fuel cs x h _;obtain ⟨n,rfl,_,hwf⟩:=DataW.trod_int Tryz.underlying199 h;have hn:0<=n/\n<4294967296:=by
  have:0<=n/\n<=4294967295:=by simpa [Lit.wf,IntKind.min,IntKind.max,IntKind.signed,IntKind.bits] using hwf
  omega
 refine ⟨n.toNat,by omega,rfl,λj u hu=>?_⟩
 match j,hu with
 |
  0,hu =>
  simp at hu; subst hu;refine ⟨_,rfl,?_⟩;rw [show max n 0=n by omega];exact .int _ _
 | j+1,hu=>simp at hu
set_option maxRecDepth 20000 in
theorem Ql8:∀ fuel cs x,DataW.trod enc Tryz.prog w 0 (λ_=>true) true fuel 51 cs=some x->(x.1.weights Tryz.prog 51).all (· <= reachBytes)=true->∃ z:RawInt,z.Ok/\Els w cs (Qhw z):=by
 intro fuel cs x h hz;obtain ⟨xs,n,_,rfl,hl,hxs,hf⟩:=DataW.trod_struct Tryz.underlying51 h;have hl:cs.length=2:=hl
 match cs,hl with
 |
  [v0,v1],_ =>
  obtain ⟨z0,hz0⟩:=E7 (i:=0) hxs (by decide);obtain ⟨z1,hz1⟩:=E7 (i:=1) hxs (by decide);have h0:=hf 0 _ rfl;have h1:=hf 1 _ rfl;rw [hz0] at h0; rw [hz1] at h1;obtain ⟨b,e0,_⟩:=DataW.trod_bool Tryz.underlying4 h0;have f0:v0=.bool b:=(List.cons.inj (show [v0]=[Value.bool b] from e0)).1;have hw1:=Iq Tryz.underlying51 hz (i:=1) rfl (d:=z1.1) (by rw [Zb,hz1]; rfl);obtain ⟨v,l,e1,hlo,_,hrep⟩:=Qfy (sz:=1) (Ok:=λu:Nat=>u<4294967296) (rw_:=Zq7) Tryz.underlying49 (by kernel_rfl) (by decide) (of_decide_eq_true (by kernel_rfl)) (λ_=>rfl) Zet h1 hw1;have f1:v1=v:=(List.cons.inj (show [v1]=[v] from e1)).1;subst f0 f1;refine ⟨⟨b,l⟩,⟨hlo⟩,rfl,λj u hu=>?_⟩
  match j,hu with
  | 0,hu=>simp at hu; subst hu; exact ⟨_,rfl,.bool _⟩
  | 1,hu=>simp at hu; subst hu; exact ⟨_,rfl,hrep⟩
  | j+2,hu=>simp at hu
set_option maxRecDepth 20000 in
theorem Q0b:∀ fuel cs x,DataW.trod enc Tryz.prog w 0 (λ_=>true) true fuel 135 cs=some x->(x.1.weights Tryz.prog 135).all (· <= reachBytes)=true->∃ z:RawPt,z.Ok/\Els w cs (rwq z):=by
 intro fuel cs x h hz;obtain ⟨xs,n,_,rfl,hl,hxs,hf⟩:=DataW.trod_struct Tryz.underlying135 h;have hl:cs.length=5:=hl
 match cs,hl with
 |
  [v0,v1,v2,v3,v4],_ =>
  obtain ⟨z0,hz0⟩:=E7 (i:=0) hxs (by decide);obtain ⟨z1,hz1⟩:=E7 (i:=1) hxs (by decide);have h0:=hf 0 _ rfl;have h1:=hf 1 _ rfl;rw [hz0] at h0; rw [hz1] at h1;obtain ⟨id,e4,_,hwf⟩:=DataW.trod_int Tryz.underlying3 h1;have f4:v4=.int .i64 id:=(List.cons.inj (show [v4]=[Value.int .i64 id] from e4)).1;have hw0:=Iq Tryz.underlying135 hz (i:=0) rfl (d:=z0.1) (by rw [Zb,hz0]; rfl);obtain ⟨ys,n2,_,e5,_,hys,hg⟩:=DataW.trod_struct Tryz.underlying53 h0;rw [e5] at hw0;obtain ⟨y0,hy0⟩:=E7 (i:=0) hys (by decide);obtain ⟨y1,hy1⟩:=E7 (i:=1) hys (by decide);obtain ⟨y2,hy2⟩:=E7 (i:=2) hys (by decide);have g0:=hg 0 _ rfl;have g1:=hg 1 _ rfl;have g2:=hg 2 _ rfl;rw [hy0] at g0; rw [hy1] at g1; rw [hy2] at g2;have w0:=Iq Tryz.underlying53 hw0 (i:=0) rfl (d:=y0.1) (by rw [Zb,hy0]; rfl);have w1:=Iq Tryz.underlying53 hw0 (i:=1) rfl (d:=y1.1) (by rw [Zb,hy1]; rfl);have w2:=Iq Tryz.underlying53 hw0 (i:=2) rfl (d:=y2.1) (by rw [Zb,hy2]; rfl);obtain ⟨u0,lx,e0,hx,_,rx⟩:=Qfy (sz:=2) (Ok:=RawInt.Ok) (rw_:=Qhw) Tryz.underlying48 (by kernel_rfl) (by decide) (of_decide_eq_true (by kernel_rfl)) (λ_=>rfl) Ql8 g0 w0;obtain ⟨u1,ly,e1,hy,_,ry⟩:=Qfy (sz:=2) (Ok:=RawInt.Ok) (rw_:=Qhw) Tryz.underlying48 (by kernel_rfl) (by decide) (of_decide_eq_true (by kernel_rfl)) (λ_=>rfl) Ql8 g1 w1;obtain ⟨d,hd,hde⟩:=Ql8 _ _ _ g2 w2;have f0:v0=u0:=(List.cons.inj (show [v0]=[u0] from e0)).1;have f1:v1=u1:=(List.cons.inj (show [v1]=[u1] from e1)).1;have hde2:Els w [v2,v3] (Qhw d):=hde;subst f0 f1 f4;obtain ⟨q2,hq2,r2⟩:=hde2.2 0 _ rfl;obtain ⟨q3,hq3,r3⟩:=hde2.2 1 _ rfl;simp at hq2 hq3;subst hq2 hq3;refine ⟨⟨lx,ly,d,id⟩,⟨hx,hy,hd,by simpa [Lit.wf,IntKind.min,IntKind.max,IntKind.signed,IntKind.bits] using hwf⟩,rfl,λj u hu=>?_⟩
  match j,hu with
  | 0,hu=>simp [rwq] at hu; subst hu; exact ⟨_,rfl,rx⟩
  | 1,hu=>simp [rwq] at hu; subst hu; exact ⟨_,rfl,ry⟩
  | 2,hu=>simp [rwq] at hu; subst hu; exact ⟨_,rfl,r2⟩
  | 3,hu=>simp [rwq] at hu; subst hu; exact ⟨_,rfl,r3⟩
  | 4,hu=>simp [rwq] at hu; subst hu; exact ⟨_,rfl,.int _ _⟩
  | j+5,hu=>simp [rwq] at hu
set_option maxRecDepth 20000 in
theorem Qzo {f:FuncId} {fn:Func} {s:ChangeSpec} (hp:fn.params = #[22,3,3]) (hr:fn.resultTypes = #[4]) (hv:s.vars=[])
 (hs:∀ (H:Type) (d1 d2 d3:DataW H),s.fn H [d1,d2,d3]={ results:=[.lit (.bool true)],args:=[d1,d2,d3] })
 (hlaid:laidOutB Tryz.prog=true) (hr22:Tryz.prog.readableRec 22=true) (hr3:Tryz.prog.readableRec 3=true) (hs22:22<Tryz.prog.types.size) (hs3:3<Tryz.prog.types.size)
 (law:∀ (zs:List RawPt) (n d:Int),(∀ z∈zs,z.Ok)->(-2^63≤n/\n≤2^63-1)->(-2^63≤d/\d≤2^63-1)->Fa Tryz.prog f [.one (.row (Qf1 zs)),.one (.int .i64 n),.one (.int .i64 d)] [.one (.bool true)])
 {H:Type} {enc:TypeId×Value->H} {W:World} {base:Nat} {args:Array Value} {ds gs:List (DataW H)} {Sj:List MemPlace} {fresh handsOn:Bool}
 (hval:∀ (j:Nat) t v,fn.params[j]? = some t->args[j]? = some v->Value.okWide Tryz.prog W .any base t v)
 (hW:DataW.Whole enc Tryz.prog fn.params.toList s.vars false W args.toList ds gs Sj)
 (hz:(DataW.weightsEach Tryz.prog (fn.params.toList++s.plain.varTypes Tryz.prog) (ds++gs)).all (· <= reachBytes)=true) :
 Calls Tryz.prog f args W λe W'=>∃ v,e=.returned v/\s.post enc Tryz.prog fn false fresh handsOn false W args v W':=by
 have hW':=hW;obtain ⟨p,q,hA0,hV,rfl,hfz,hnd⟩:=hW;have hA:DataW.TrodAll enc Tryz.prog W 0 (λ_=>true) true fn.params.toList args.toList ds p:=hA0;rw [hv] at hV;obtain ⟨rfl,rfl⟩:=trodVars_none hV;have hlt:=hW'.lt;rw [hp] at hA hval hz;obtain ⟨v0,vs0,d0,ds0,p0,q0,hargs0,rfl,rfl,h0,r0⟩:=trodAll_cons hA;obtain ⟨v1,vs1,d1,ds1,p1,q1,rfl,rfl,rfl,h1,r1⟩:=trodAll_cons r0;obtain ⟨v2,vs2,d2,ds2,p2,q2,rfl,rfl,rfl,h2,r2⟩:=trodAll_cons r1;obtain ⟨rfl,rfl,rfl⟩:=trodAll_nil r2;obtain rfl:args = #[v0,v1,v2]:=by cases args; simp_all
 obtain ⟨n,rfl,rfl,rfl,w1⟩:=open_int Tryz.underlying3 (hval 1 3 v1 rfl rfl) h1;obtain ⟨d,rfl,rfl,rfl,w2⟩:=open_int Tryz.underlying3 (hval 2 3 v2 rfl rfl) h2;have hv0:=hval 0 22 v0 rfl rfl;obtain ⟨a,len,cap,rfl⟩:=okWide_slice Tryz.underlying22 hv0;have hz0:(d0.weights Tryz.prog 22).all (· <= reachBytes)=true:=by
  rw [Yz] at hz ⊢;intro k hk;exact hz k (DataW.weights_mem_each (j:=0) rfl rfl k hk)
 have h0':=h0;obtain ⟨fu,h0'⟩:=h0';obtain ⟨v,zs,e0,hok,hlen,hrep⟩:=Qfy (sz:=5) (Ok:=RawPt.Ok) (rw_:=rwq) Tryz.underlying22 (by kernel_rfl) (by decide) (of_decide_eq_true (by kernel_rfl)) (λ_=>rfl) Q0b h0' hz0;have f0:Value.slice a len cap=v:=(List.cons.inj (show [Value.slice a len cap]=[v] from e0)).1;subst f0;have hd1:-2^63<=d/\d<=2^63-1:=by simpa [Lit.wf,IntKind.min,IntKind.max,IntKind.signed,IntKind.bits] using w2
 have hrep:LRep W (λ_=>False) (.slice a len cap) (.row (Qf1 zs)):=hrep;have hn1:-2^63<=n/\n<=2^63-1:=by simpa [Lit.wf,IntKind.min,IntKind.max,IntKind.signed,IntKind.bits] using w1
 have hcall:=(law zs n d hok hn1 hd1).2 (fr0 W) (λ_=>none) (λ_=>False) W [.slice a len cap,.int .i64 n,.int .i64 d] (hs0 W) (.cons (show XRep W (λ_=>False) (λ_=>none) (.slice a len cap) (.row (Qf1 zs)) from hrep.x) (.cons (show XRep W (λ_=>False) (λ_=>none) (.int .i64 n) (.int .i64 n) from (LRep.int .i64 n).x) (.cons (show XRep W (λ_=>False) (λ_=>none) (.int .i64 d) (.int .i64 d) from (LRep.int .i64 d).x) .nil)));refine hcall.mono λe W' ⟨v,u,Bo,E',M',he,⟨hu,hBo⟩,_,hm,har⟩=>?_
 subst hu;obtain rfl:v=.bool true:=by
  have h:LRep _ _ v (.bool true):=har;cases h;rfl
 refine ⟨_,he,?_⟩;refine ⟨[d0,.lit (.int .i64 n),.lit (.int .i64 d)],[],_,[],p0++([]++([]++[])),[],hW',?_,?_,?_,Zhm hm _,λh=>by cases h⟩
 ·rw [hr,Zo,hs];exact trodAll_cons_mk (shut_bool Tryz.underlying4 true) trodAll_mk0
 ·rw [hp,Zo,hs];have hb:∀ p∈p0,p.block<W.heap.size:=λp hp=>hlt p (by simp [hp])
  exact trodAll_cons_mk (Trod_stays hlaid hr22 hs22 h0 (λp hp=>Zi3 hm (hb p hp)) (λp hp=>by simpa using hb p hp)) (trodAll_cons_mk (shut_int Tryz.underlying3 w1) (trodAll_cons_mk (shut_int Tryz.underlying3 w2) trodAll_mk0))
 ·rw [hv,Zo,hs];rfl
end Orr
