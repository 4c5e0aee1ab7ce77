/- SortQ HullG RawL NewsL BegL TurnL PairN DetL H1 HullQ HullS HullT PairQ PW1 DigL R1 R2 S2 S3 NewsN PW2 TouL TouQ MeshN EnL -/
import Derived.Test.YthgaepodbpcjdaaGreatPart07
import Derived.Test.YthgaepodbpcjdaaGreatPart00
import Derived.Test.YthgaepodbpcjdaaGreatPart05
import Derived.Test.YthgaepodbpcjdaaGreatPart04
set_option linter.all false
namespace Orq
open Orr Go
theorem Iq {a:Tm} (ha:Va a):∀ (L:List (List Int)),(∀ p∈L,Dp p)->∃ y,Ue a y=-1/\∀ q,Ue a q=-1->q≤y->∀ p∈L,Fq (Uj a) p=W7 (W4 p q)
 |
  [],_=>by
  obtain ⟨y,hy⟩:=ha.cut.hi;exact ⟨y,hy,λq _ _ p hp=>by cases hp⟩
 |
  p::L,h=>by
  obtain ⟨y,y1,y2⟩:=Iq ha L (λq hq=>h q (Qe _ hq));by_cases h0:p.length=0
  ·obtain rfl:=Qh h0;refine ⟨y,y1,λq q1 q2 r hr=>?_⟩;rcases Ql.1 hr with rfl | hr
   ·rw [Ip]; exact (Ux.2 rfl).symm
   ·exact y2 q q1 q2 r hr
  ·obtain ⟨⟨z,z1,z2⟩,_⟩:=Co ha (h p (by simp)) h0;refine ⟨if y<=z then y else z,by split <;> assumption,λq q1 q2 r hr=>?_⟩;rcases Ql.1 hr with rfl | hr
   ·rw [<-W5]; exact (z2 q q1 (by grind)).symm
   ·exact y2 q q1 (by grind) r hr
section Srt
variable {α:Type} {lt:α->α->Bool} {R:α->α->Prop}
theorem Ql2 (irr:∀ x,¬R x x) (tr:∀ x y z,R x y->R y z->R x z):∀ {l m:List α},l.Pairwise R->m.Pairwise R->(∀ x,x∈l↔x∈m)->l=m
 | [],[],_,_,_=>rfl
 | [],y::m,_,_,h=>by have:=(h y).2 (by simp); cases this
 | x::l,[],_,_,h=>by have:=(h x).1 (by simp); cases this
 |
  x::l,y::m,hl,hm,h=>by
  rw [Za] at hl hm;have e:x=y:=by
   rcases Ql.1 ((h x).1 (by simp)) with e | h1
   ·exact e
   ·rcases Ql.1 ((h y).2 (by simp)) with e | h2
    ·exact e.symm
    ·exact absurd (tr _ _ _ (hl.1 y h2) (hm.1 x h1)) (irr x)
  subst e;rw [Ql2 irr tr hl.2 hm.2 λz=>?_];constructor
  ·intro hz;rcases Ql.1 ((h z).1 (Qe _ hz)) with e | h1
   ·subst e; exact absurd (hl.1 z hz) (irr z)
   ·exact h1
  ·intro hz;rcases Ql.1 ((h z).2 (Qe _ hz)) with e | h1
   ·subst e; exact absurd (hm.1 z hz) (irr z)
   ·exact h1
theorem Qlw {out:List α} {x:α}:∀ k,k<=out.length->(∀ j y,Ca lt out x k<=j->j<k->out[j]? = some y->lt x y=true)/\(0<Ca lt out x k->∃ y,out[Ca lt out x k-1]? = some y/\lt x y=false)
 | 0,_=>⟨λj y _ h=>by omega,λh=>by simp [Ca] at h⟩
 |
  k+1,hk=>by
  obtain ⟨y,hy⟩:=gxE (l:=out) (i:=k) (by omega);by_cases h:lt x y=true
  ·rw [Qy1 hy h];obtain ⟨h1,h2⟩:=Qlw (out:=out) (x:=x) k (by omega);refine ⟨λj z a1 a2 a3=>?_,h2⟩;by_cases e:j=k
   ·subst e; rw [hy] at a3; injection a3 with a3; subst a3; exact h
   ·exact h1 j z a1 (by omega) a3
  ·have h:lt x y=false:=by simpa using h
   rw [Qrv hy h];exact ⟨λj z a1 a2 _=>by omega,λ_=>⟨y,by simpa using hy,h⟩⟩
theorem Zbl (tr:∀ x y z,R x y->R y z->R x z) {out:List α} {x:α} (ho:out.Pairwise R) (h1:∀ y∈out,lt x y=true->R x y) (h2:∀ y∈out,lt x y=false->R y x):(B5 lt out x).Pairwise R:=by
 obtain ⟨s1,s2⟩:=Qlw (lt:=lt) (out:=out) (x:=x) out.length (Qm _);have hle:=Qn9 lt out x out.length;unfold B5;obtain ⟨k,hk⟩:=nmE (Ca lt out x out.length);rw [<-hk] at s1 s2 hle ⊢;have hd:(out.take k++out.drop k).Pairwise R:=by rw [Zg]; exact ho
 obtain ⟨d1,d2,d3⟩:=Je.1 hd;have hR:∀ y∈out.drop k,R x y:=λy hy=>by
  obtain ⟨i,hi⟩:=Xp hy;rw [Z7] at hi;have:k+i<out.length:=(Qg.1 hi).1;exact h1 y (Qz hy) (s1 (k+i) y (by omega) this hi)
 have hL:∀ y∈out.take k,R y x:=λy hy=>by
  obtain ⟨i,hi⟩:=Xp hy;have hik:i<k:=by have:=(Qg.1 hi).1; simp at this; omega
  rw [V2 hik] at hi;obtain ⟨z,z1,z2⟩:=s2 (by omega);have hz:=h2 z (Qa z1) z2;by_cases e:i=k-1
  ·subst e; rw [hi] at z1; injection z1 with z1; subst z1; exact hz
  ·have hp:=Vy.1 ho i (k-1) (by omega) (by omega) (by omega);obtain ⟨_,e1⟩:=Qg.1 hi;obtain ⟨_,e2⟩:=Qg.1 z1;rw [e1,e2] at hp;exact tr _ _ _ hp hz
 refine Je.2 ⟨d1,Za.2 ⟨hR,d2⟩,λy hy z hz=>?_⟩;rcases Ql.1 hz with rfl | hz
 ·exact hL y hy
 ·exact d3 y hy z hz
theorem Qii (tr:∀ x y z,R x y->R y z->R x z) {S:α->Prop} (h1:∀ x y,S x->S y->lt x y=true->R x y) {D:α->α->Prop} (h2:∀ x y,S x->S y->D y x->lt x y=false->R y x) :
 ∀ (l acc:List α),acc.Pairwise R->(∀ x∈acc,S x)->(∀ x∈l,S x)->l.Pairwise D->(∀ x∈acc,∀ y∈l,D x y)->(l.foldl (B5 lt) acc).Pairwise R
 | [],acc,ha,_,_,_,_=>ha
 |
  x::l,acc,ha,hs,hl,hd,hx=>by
  rw [Za] at hd;refine Qii tr h1 h2 l (B5 lt acc x) ?_ ?_ (λy hy=>hl y (Qe _ hy)) hd.2 ?_
  ·exact Zbl tr ha (λy hy=>h1 x y (hl x (by simp)) (hs y hy)) (λy hy=>h2 x y (hl x (by simp)) (hs y hy) (hx y hy x (by simp)))
  ·intro y hy;rcases Qcy.1 hy with rfl | hy
   ·exact hl _ (by simp)
   ·exact hs y hy
  ·intro y hy z hz;rcases Qcy.1 hy with rfl | hy
   ·exact hd.1 z hz
   ·exact hx y hy z (Qe _ hz)
theorem Ql1:∀ {l:List α},l.Pairwise R->∀ {u v:α},u∈l->v∈l->u≠v->R u v\/R v u
 | [],_,_,_,h,_,_=>by cases h
 |
  x::l,hp,u,v,hu,hv,hne=>by
  rw [Za] at hp;rcases Ql.1 hu with e | hu
  ·rcases Ql.1 hv with e' | hv
   ·exact absurd (e.trans e'.symm) hne
   ·rw [e]; exact .inl (hp.1 v hv)
  ·rcases Ql.1 hv with e' | hv
   ·rw [e']; exact .inr (hp.1 u hu)
   ·exact Ql1 hp.2 hu hv hne
end Srt
def px (p:Pt) (q:Rat):Rat:=W4 p.c.x q / (p.c.d:Rat)
def py (p:Pt) (q:Rat):Rat:=W4 p.c.y q / (p.c.d:Rat)
def Mz (q:Rat) (x y:Pt):Prop:=px x q<px y q\/px x q=px y q/\(py x q<py y q\/py x q=py y q/\x.id<y.id)
theorem Iz (q:Rat) (x:Pt):¬Mz q x x:=by unfold Mz; grind
theorem O6 (q:Rat) (x y z:Pt) (h:Mz q x y) (h':Mz q y z):Mz q x z:=by unfold Mz at *; grind
theorem Qqz {q:Rat} {x y:Pt} (h:x.id≠y.id) (h':¬Mz q x y):Mz q y x:=by unfold Mz at *; grind
theorem Ql7 {u v:Rat} {c d:Int} (hc:0<c) (hd:0<d):W7 (v*(c:Rat)-u*(d:Rat))=W7 (v / (d:Rat)-u / (c:Rat)):=by
 have hc':(0:Rat)<(c:Rat):=by exact_mod_cast hc
 have hd':(0:Rat)<(d:Rat):=by exact_mod_cast hd
 have e:v*(c:Rat)-u*(d:Rat)=((c:Rat)*(d:Rat))*(v / (d:Rat)-u / (c:Rat)):=by
  rw [Jx,Jx];have h1:=K7 (c:Rat) (by grind);have h2:=K7 (d:Rat) (by grind);grind
 rw [e,Ms (Xl hc' hd')]
theorem Qfc {x y:Pt} (hx:Sc x.c) (hy:Sc y.c) (q:Rat):W7 (W4 (Uu x.c y.c) q)=W7 (px y q-px x q):=by
 unfold Uu px; rw [Sw,Gq,Gq]; exact Ql7 hx.n.2.2.1 hy.n.2.2.1
theorem Qfb {x y:Pt} (hx:Sc x.c) (hy:Sc y.c) (q:Rat):W7 (W4 (Ut x.c y.c) q)=W7 (py y q-py x q):=by
 unfold Ut py; rw [Sw,Gq,Gq]; exact Ql7 hx.n.2.2.1 hy.n.2.2.1
theorem Qhl {a:Tm} (ha:Va a) {x y:Pt} (hx:Sc x.c) (hy:Sc y.c) {q:Rat} (h1:Fq (Uj a) (Uu x.c y.c)=W7 (W4 (Uu x.c y.c) q)) (h2:Fq (Uj a) (Ut x.c y.c)=W7 (W4 (Ut x.c y.c) q)):Hk (Uj a) x y=true↔Mz q x y:=by
 rw [Qfc hx hy] at h1;rw [Qfb hx hy] at h2;have d1:=(Sp hx hy).dp;have d2:=(So hx hy).dp;unfold Hk;simp only [B8];have t1:=Um (px y q-px x q);have t2:=Um (py y q-py x q);by_cases e1:(Uu x.c y.c).length=0
 ·rw [if_neg (by omega)];rw [Qh e1,Ip] at h1;have:px x q=px y q:=by grind
  by_cases e2:(Ut x.c y.c).length=0
  ·rw [if_neg (by omega)];rw [Qh e2,Ip] at h2;unfold Mz;simp only [decide_eq_true_eq];grind
  ·rw [if_pos (by omega)];have:=(Co ha d2 e2).2;unfold Mz;simp only [decide_eq_true_eq];grind
 ·rw [if_pos (by omega)];have:=(Co ha d1 e1).2;unfold Mz;simp only [decide_eq_true_eq];grind
def Cj (l:List Pt):List (List Int):=l.flatMap λx=>l.flatMap λy=>[Uu x.c y.c,Ut x.c y.c]
theorem Hr {l:List Pt} {x y:Pt} (hx:x∈l) (hy:y∈l):Uu x.c y.c∈Cj l/\Ut x.c y.c∈Cj l :=
 ⟨Zj.2 ⟨x,hx,Zj.2 ⟨y,hy,by simp⟩⟩,Zj.2 ⟨x,hx,Zj.2 ⟨y,hy,by simp⟩⟩⟩
theorem Ad {l:List Pt} (hl:∀ p∈l,Sc p.c):∀ p∈Cj l,Cp p:=λp hp=>by
 obtain ⟨x,hx,hp⟩:=Zj.1 hp;obtain ⟨y,hy,hp⟩:=Zj.1 hp;simp at hp;rcases hp with rfl | rfl
 ·exact Sp (hl x hx) (hl y hy)
 ·exact So (hl x hx) (hl y hy)
theorem Qze {l:List Pt} (hl:∀ p∈l,Sc p.c) (hd:l.Pairwise λx y=>x.id≠y.id) {a:Tm} (ha:Va a):∃ y,Ue a y=-1/\∀ q,Ue a q=-1->q≤y->(∀ u∈l,∀ v∈l,(Hk (Uj a) u v=true↔Mz q u v))/\(Hy a l).Pairwise (Mz q):=by
 obtain ⟨y,y1,y2⟩:=Iq ha (Cj l) λp hp=>(Ad hl p hp).dp
 refine ⟨y,y1,λq q1 q2=>?_⟩;have h:=y2 q q1 q2;have hb:∀ u∈l,∀ v∈l,(Hk (Uj a) u v=true↔Mz q u v):=λu hu v hv=>Qhl ha (hl u hu) (hl v hv) (h _ (Hr hu hv).1) (h _ (Hr hu hv).2)
 refine ⟨hb,?_⟩;exact Qii (S:=λx=>x∈l) (D:=λx y=>x.id≠y.id) (O6 q) (λu v hu hv h=>(hb u hu v hv).1 h) (λu v hu hv hne h=>Qqz (λe=>hne e.symm) λh'=>by
  rw [(hb u hu v hv).2 h'] at h; cases h) l [] .nil (λx hx=>by cases hx) (λx hx=>hx) hd (λx hx=>by cases hx)
theorem Qu1 {a b:Tm} {x y:Pt} (h:Fq (Uj b) (Dy x y)=Fq (Uj a) (Dy x y)):Hk (Uj b) x y=Hk (Uj a) x y:=by
 unfold Dy Bz at h;unfold Hk;simp only [B8];by_cases e1:0<(Uu x.c y.c).length
 ·rw [if_pos e1,if_pos e1]; rw [if_pos e1] at h; rw [h]
 ·rw [if_neg e1,if_neg e1]; rw [if_neg e1] at h; rw [h]
theorem Qh0 {a b:Tm} {q r:Rat}:∀ (l:List Pt),(∀ u∈l,∀ v∈l,(Hk (Uj a) u v=true↔Mz q u v))->(∀ u∈l,∀ v∈l,(Hk (Uj b) u v=true↔Mz r u v))->l.Pairwise (Mz q)->(∀ x∈H9 (Uj a) l,Fq (Uj b) x.p=Fq (Uj a) x.p)->l.Pairwise (Mz r)/\H9 (Uj b) l=H9 (Uj a) l
 | [],_,_,_,_=>⟨.nil,rfl⟩
 | [x],_,_,_,_=>⟨V6 _ _,rfl⟩
 |
  x::y::l,ha,hb,hp,hc=>by
  rw [Za] at hp;obtain ⟨i1,i2⟩:=Qh0 (a:=a) (b:=b) (q:=q) (r:=r) (y::l) (λu hu v hv=>ha u (Qe _ hu) v (Qe _ hv)) (λu hu v hv=>hb u (Qe _ hu) v (Qe _ hv)) hp.2 (λz hz=>hc z (by simp only [H9]; exact Qe _ hz));have h0:Fq (Uj b) (Dy x y)=Fq (Uj a) (Dy x y):=hc (Av (Uj a) x y) (by simp [H9]);have h1:Mz r x y:=(hb x (by simp) y (by simp)).1 (by rw [Qu1 h0]; exact (ha x (by simp) y (by simp)).2 (hp.1 y (by simp)));refine ⟨Za.2 ⟨λz hz=>?_,i1⟩,?_⟩
  ·rcases Ql.1 hz with rfl | hz
   ·exact h1
   ·exact O6 r x y z h1 ((Za.1 i1).1 z hz)
  ·simp only [H9];rw [i2]; congr 1;unfold Av; rw [h0]
theorem Qe9 {sg:List Int->Int}:∀ {l:List Pt},∀ x∈H9 sg l,∃ u∈l,∃ v∈l,x.p=Dy u v
 | [],x,hx=>by cases hx
 | [_],x,hx=>by cases hx
 |
  a::b::l,x,hx=>by
  simp only [H9] at hx;rcases Ql.1 hx with rfl | hx
  ·exact ⟨a,by simp,b,by simp,rfl⟩
  ·obtain ⟨u,hu,v,hv,e⟩:=Qe9 (l:=b::l) x hx;exact ⟨u,Qe _ hu,v,Qe _ hv,e⟩
theorem Qlq {l:List Pt} {u v:Pt} (hu:u∈l) (hv:v∈l):Dy u v∈Cj l:=by
 unfold Dy Bz; split
 ·exact (Hr hu hv).1
 ·exact (Hr hu hv).2
theorem Qwj {l:List Pt} {a:Tm}:∀ x∈bcS l a,x.p∈Cj l:=λx hx=>by
 obtain ⟨u,hu,v,hv,e⟩:=Qe9 x hx;rw [e]; exact Qlq (Fx.1 hu) (Fx.1 hv)
theorem Qpa (l:List Pt):(Cj l).length=l.length*(l.length*2):=by
 have h1:∀ (x:Pt) (m:List Pt),(m.flatMap λy=>[Uu x.c y.c,Ut x.c y.c]).length=m.length*2:=λx m=>by
  induction m with
  | nil=>rfl
  | cons y m ih=>rw [Jn,Qw,ih,Q6]; simp; omega
 have h2:∀ m:List Pt,(m.flatMap λx=>l.flatMap λy=>[Uu x.c y.c,Ut x.c y.c]).length=m.length*(l.length*2):=λm=>by
  induction m with
  | nil=>simp
  | cons y m ih=>rw [Jn,Qw,ih,Q6,h1,X4,Ws,Jj]
 exact h2 l
theorem Qsc {l:List Pt} (hl:∀ p∈l,Sc p.c) (hd:l.Pairwise λx y=>x.id≠y.id) {a b:Tm} (ha:Va a) (hb:Va b) (h:∀ x∈bcS l a,Fq (Uj b) x.p=Fq (Uj a) x.p):Hy b l=Hy a l/\bcS l b=bcS l a:=by
 obtain ⟨q,q1,q2⟩:=Qze hl hd ha;obtain ⟨r,r1,r2⟩:=Qze hl hd hb;obtain ⟨a1,a2⟩:=q2 q q1 Qo;obtain ⟨b1,b2⟩:=r2 r r1 Qo;obtain ⟨c1,c2⟩:=Qh0 (a:=a) (b:=b) (Hy a l) (λu hu v hv=>a1 u (Fx.1 hu) v (Fx.1 hv)) (λu hu v hv=>b1 u (Fx.1 hu) v (Fx.1 hv)) a2 h;have e:Hy b l=Hy a l:=Ql2 (Iz r) (O6 r) b2 c1 λx=>by rw [Fx,Fx]
 exact ⟨e,by unfold bcS; rw [e,c2]⟩
theorem Zkn {l:List Pt} (hl:∀ p∈l,Sc p.c) (hn:l.length≤1000) (hd:l.Pairwise λx y=>x.id≠y.id):Stab (bcS l) (brS l):=by
 refine ⟨Qtj hl hn,⟨Cj l,Ad hl,λa _ x hx=>?_⟩,λa b ha hb h=>?_⟩
 ·obtain ⟨u,hu,v,hv,e⟩:=Qe9 x hx;rw [e]; exact Qlq (Fx.1 hu) (Fx.1 hv)
 ·obtain ⟨e1,e2⟩:=Qsc hl hd ha hb h;exact ⟨e2,by unfold brS; rw [e1]⟩
end Orq
namespace Orq
theorem ang {ux uy vx vy wx wy:Rat} (hu:0<ux\/ux=0/\0<uy) (hv:0<vx\/vx=0/\0<vy) (hw:0<wx\/wx=0/\0<wy)
 (h1:0<=ux*vy-vx*uy) (h2:0<=vx*wy-wx*vy):0<=ux*wy-wx*uy/\(0<ux*vy-vx*uy\/0<vx*wy-wx*vy->0<ux*wy-wx*uy):=by
 have ux0:0<=ux:=by grind
 have wx0:0<=wx:=by grind
 rcases hv with hv | ⟨hv,hv2⟩
 ·have e:vx*(ux*wy-wx*uy)=ux*(vx*wy-wx*vy)+wx*(ux*vy-vx*uy):=by grind
  have hux:0<ux:=by
   rcases hu with h | ⟨h,h'⟩
   ·exact h
   ·have:=Xl hv h';rw [h] at h1; grind
  have p1:=Vj ux0 h2;have p2:=Vj wx0 h1;have key:∀ z:Rat,vx*z=ux*(vx*wy-wx*vy)+wx*(ux*vy-vx*uy)->0<=z:=λz hz=>by
   refine Rat.not_lt.1 λhn=>?_
   have:=Xl hv (show 0 < -z by grind);grind
  refine ⟨key _ e,λhs=>?_⟩;rcases hw with hw | ⟨hw,hw2⟩
  ·have hpos:0<vx*(ux*wy-wx*uy):=by
    rcases hs with hs | hs
    ·have:=Xl hw hs; grind
    ·have:=Xl hux hs; grind
   have h0:=key _ e;refine Ji.1 λhn=>?_
   have:ux*wy-wx*uy=0:=by grind
   rw [this] at hpos; grind
  ·have:=Xl hux hw2;rw [hw]; grind
 ·rw [hv] at h1 h2;have hw0:wx=0:=by
   rcases hw with hw | hw
   ·have:=Xl hw hv2; grind
   ·exact hw.1
  have hwy:0<wy:=by grind
  have p:=Vj ux0 (Qp hwy);refine ⟨by rw [hw0]; grind,λhs=>?_⟩;rw [hv,hw0] at hs;have hux:0<ux:=by
   rcases hs with hs | hs
   ·refine Ji.1 λhn=>?_
    have:ux=0:=by grind
    rw [this] at hs; grind
   ·grind
  have:=Xl hux hwy;rw [hw0]; grind
section
variable {α:Type} (X Y:α->Rat)
def lx (a b:α):Prop:=X a<X b\/X a=X b/\Y a<Y b
def Pl (a b c:α):Rat:=(X b-X a)*(Y c-Y a)-(X c-X a)*(Y b-Y a)
variable {X Y}
theorem B6 (a:α):¬lx X Y a a:=by unfold lx; grind
theorem Qq3 {a b c:α} (h:lx X Y a b) (h':lx X Y b c):lx X Y a c:=by unfold lx at *; grind
theorem B7 {a b:α} (h:lx X Y a b):0<X b-X a\/X b-X a=0/\0<Y b-Y a:=by unfold lx at h; grind
theorem Qc9 (a b:α):Pl X Y a b a=0/\Pl X Y a b b=0:=by unfold Pl; grind
theorem Qrh (a b c:α):Pl X Y a c b=- Pl X Y a b c:=by unfold Pl; grind
theorem Qn2 (a b c:α):Pl X Y a b c=(X b-X a)*(Y c-Y b)-(X c-X b)*(Y b-Y a):=by unfold Pl; grind
def Edg (Q:α->α->Prop):List α->Prop
 | a::b::r=>Q a b/\Edg Q (b::r)
 | _=>True
def Cnv (R:α->α->α->Prop):List α->Prop
 | a::b::c::r=>R a b c/\Cnv R (b::c::r)
 | _=>True
theorem Edg.tail {Q:α->α->Prop} {a:α} {l:List α} (h:Edg Q (a::l)):Edg Q l:=by
 cases l with
 | nil=>trivial
 | cons b l=>exact h.2
theorem Cnv.tail {R:α->α->α->Prop} {a:α} {l:List α} (h:Cnv R (a::l)):Cnv R l:=by
 match l,h with
 | [],_=>trivial
 | [_],_=>trivial
 | b::c::l,h=>exact h.2
theorem Edg.imp {Q Q':α->α->Prop}:∀ {l:List α},(∀ a∈l,∀ b∈l,Q a b->Q' a b)->Edg Q l->Edg Q' l
 | [],_,_=>trivial
 | [_],_,_=>trivial
 | a::b::l,hq,h=>⟨hq a (by simp) b (by simp) h.1,Edg.imp (l:=b::l) (λx hx y hy=>hq x (Qe _ hx) y (Qe _ hy)) h.2⟩
theorem Cnv.imp {R R':α->α->α->Prop}:∀ {l:List α},(∀ a∈l,∀ b∈l,∀ c∈l,R a b c->R' a b c)->Cnv R l->Cnv R' l
 | [],_,_=>trivial
 | [_],_,_=>trivial
 | [_,_],_,_=>trivial
 | a::b::c::l,hq,h=>⟨hq a (by simp) b (by simp) c (by simp) h.1,Cnv.imp (l:=b::c::l) (λx hx y hy z hz=>hq x (Qe _ hx) y (Qe _ hy) z (Qe _ hz)) h.2⟩
def Bt (s:α->α->α->Bool) (c:α):List α->List α
 | b::a::r=>if s a b c=true then b::a::r else Bt s c (a::r)
 | l=>l
def Rx (s:α->α->α->Bool):List α->List α->List α
 | acc,[]=>acc
 | acc,c::l=>Rx s (c::Bt s c acc) l
structure Stk (X Y:α->Rat) (P:List α) (st:List α):Prop where
 srt:st.Pairwise λb a=>lx X Y a b
 mem:∀ p∈st,p∈P
 edg:Edg (λb a=>∀ p∈P,0≤Pl X Y a b p) st
 cnv:Cnv (λc b a=>0<Pl X Y a b c) st
theorem Stk.tail {P:List α} {a:α} {st:List α} (h:Stk X Y P (a::st)):Stk X Y P st:=⟨(Za.1 h.srt).2,λp hp=>h.mem p (Qe _ hp),h.edg.tail,h.cnv.tail⟩
theorem Q61 {P:List α} {s:α->α->α->Bool} {c:α} (hs:∀ a∈P,∀ b∈P,(s a b c=true↔0<Pl X Y a b c)) (hc:∀ p∈P,lx X Y p c) :
 ∀ (st:List α) (t:α),Stk X Y P (t::st)->(∀ p∈P,lx X Y t p->0≤Pl X Y t c p) ->
 ∃ t' st',Bt s c (t::st)=t'::st'/\Stk X Y P (t'::st')/\(∀ p∈P,lx X Y t' p->0≤Pl X Y t' c p)/\(∀ a r,st'=a::r->0<Pl X Y a t' c)/\(t'::st').getLast? = (t::st).getLast?
 | [],t,h,h2=>⟨t,[],rfl,h,h2,λa r e=>(by cases e),rfl⟩
 |
  a::r,t,h,h2=>by
  have ht:=h.mem t (by simp);have ha:=h.mem a (by simp);by_cases e:s a t c=true
  ·refine ⟨t,a::r,by simp only [Bt]; rw [if_pos e],h,h2,λa' r' e'=>?_,rfl⟩;injection e' with e1 _
   rw [<-e1]; exact (hs a ha t ht).1 e
  ·have hle:Pl X Y a t c<=0:=Rat.not_lt.1 λh'=>e ((hs a ha t ht).2 h')
   have hat:lx X Y a t:=(Za.1 h.srt).1 a (by simp);obtain ⟨t',st',g1,g2,g3,g4,g5⟩:=Q61 hs hc r a h.tail λp hp hap=>by
    have e1:=h.edg.1 p hp;have k:=ang (B7 (hc a ha)) (B7 hat) (B7 hap) (by rw [Qrh] at *; unfold Pl at *; grind) (by unfold Pl at *; grind);unfold Pl; grind
   exact ⟨t',st',by simp only [Bt]; rw [if_neg e]; exact g1,g2,g3,g4,by rw [g5]; rfl⟩
theorem Qk1 {P:List α} {c:α}:∀ (st:List α) (t:α),Stk X Y P (t::st)->lx X Y t c->(∀ a r,st=a::r->0<Pl X Y a t c)->Edg (λb a=>0<Pl X Y a b c) (t::st)
 | [],_,_,_,_=>trivial
 | [a],t,_,_,h=>⟨h a [] rfl,trivial⟩
 |
  a::q::r,t,hS,htc,h=>by
  have h1:=h a (q::r) rfl;have h0:0<Pl X Y q a t:=hS.cnv.1;have p1:=Za.1 hS.srt;have p2:=Za.1 p1.2;have hat:lx X Y a t:=p1.1 a (by simp);have hqa:lx X Y q a:=p2.1 q (by simp);refine ⟨h1,Qk1 (q::r) a hS.tail (Qq3 hat htc) λa' r' e=>?_⟩;injection e with e _;rw [<-e];rw [Qn2] at h0 h1 ⊢;have k:=(ang (B7 hqa) (B7 hat) (B7 htc) (Qp h0) (Qp h1)).2 (.inl h0);grind
theorem Zcj {P:List α} {t:α} {st:List α} {c:α} (h:Stk X Y P (t::st)) (hc:∀ p∈P,lx X Y p c) (hP:∀ p∈P,p=t\/lx X Y p t\/lx X Y t p) (hb:∀ p∈P,(t::st).getLast? = some p\/∃ b,(t::st).getLast? = some b/\lx X Y b p) (h2:∀ p∈P,lx X Y t p->0≤Pl X Y t c p) (h3:∀ a r,st=a::r->0<Pl X Y a t c):Stk X Y (P++[c]) (c::t::st):=by
 have ht:=h.mem t (by simp);have htc:=hc t ht;have hf:=Qk1 st t h htc h3;refine ⟨Za.2 ⟨λp hp=>hc p (h.mem p hp),h.srt⟩,λp hp=>?_,⟨λp hp=>?_,?_⟩,?_⟩
 ·rcases Ql.1 hp with rfl | hp
  ·simp
  ·exact Xz _ (h.mem p hp)
 ·rcases Qq.1 hp with hp | hp
  ·rcases hP p hp with rfl | hpt | htp
   ·rw [(Qc9 p c).1]; exact Qo
   ·cases st with
    |
     nil =>
     exfalso;rcases hb p hp with e | ⟨b,e,hb⟩
     ·injection e with e; subst e; exact B6 _ hpt
     ·injection e with e; subst e; exact B6 _ (Qq3 hpt hb)
    |
     cons a r =>
     have e1:=h.edg.1 p hp;have h3:=h3 a r rfl;have hat:lx X Y a t:=(Za.1 h.srt).1 a (by simp);have k:=(ang (B7 hpt) (B7 hat) (B7 htc) (by unfold Pl at *; grind) (by unfold Pl at *; grind)).1;unfold Pl; grind
   ·exact h2 p hp htp
  ·rw [Qk.1 hp,(Qc9 t c).2]; exact Qo
 ·cases st with
  | nil=>trivial
  |
   cons a r =>
   have key:∀ l:List α,Edg (λb a=>∀ p∈P,0≤Pl X Y a b p) l->Edg (λb a=>0<Pl X Y a b c) l->Edg (λb a=>∀ p∈P++[c],0≤Pl X Y a b p) l:=by
    intro l
    induction l with
    | nil=>intros; trivial
    |
     cons x l ih =>
     cases l with
     | nil=>intros; trivial
     |
      cons y l =>
      intro k1 k2;refine ⟨λp hp=>?_,ih k1.2 k2.2⟩;rcases Qq.1 hp with hp | hp
      ·exact k1.1 p hp
      ·rw [Qk.1 hp]; exact Qp k2.1
   exact key _ h.edg hf
 ·cases st with
  | nil=>trivial
  | cons a r=>exact ⟨h3 a r rfl,h.cnv⟩
theorem Qkq {s:α->α->α->Bool} {row:List α} (hs:∀ a∈row,∀ b∈row,∀ c∈row,(s a b c=true↔0<Pl X Y a b c)) (hrow:row.Pairwise (lx X Y)) :
 ∀ (l P:List α) (t:α) (st:List α),row=P++l->Stk X Y P (t::st)->P.getLast? = some t->(t::st).getLast? = P.head? ->
 ∃ t' st',Rx s (t::st) l=t'::st'/\Stk X Y row (t'::st')/\row.getLast? = some t'/\(t'::st').getLast? = row.head?
 |
  [],P,t,st,e,h,h1,h2=>by
  rw [Zw] at e; subst e;exact ⟨t,st,rfl,h,h1,h2⟩
 |
  c::l,P,t,st,e,h,h1,h2=>by
  have hPm:∀ p∈P,p∈row:=λp hp=>by rw [e]; exact Xz _ hp
  have hcm:c∈row:=by rw [e]; simp
  have hpw:=hrow;rw [e] at hpw;obtain ⟨w1,w2,w3⟩:=Je.1 hpw;have hc:∀ p∈P,lx X Y p c:=λp hp=>w3 p hp c (by simp)
  have htop:∀ p∈P,p=t\/lx X Y p t:=λp hp=>by
   obtain ⟨P1,rfl⟩:∃ P1,P=P1++[t]:=by
    have:=Yu.1 h1;exact this
   rcases Qq.1 hp with hp | hp
   ·exact .inr ((Je.1 w1).2.2 p hp t (by simp))
   ·exact .inl (Qk.1 hp)
  obtain ⟨t',st',g1,g2,g3,g4,g5⟩:=Q61 (λa ha b hb=>hs a (hPm a ha) b (hPm b hb) c hcm) hc st t h λp hp htp=>by
   rcases htop p hp with rfl | h'
   ·exact absurd htp (B6 _)
   ·exact absurd (Qq3 htp h') (B6 _)
  have tot:∀ p∈P,p=t'\/lx X Y p t'\/lx X Y t' p:=λp hp=>by
   obtain ⟨i,hi,rfl⟩:=Vn.1 hp;obtain ⟨j,hj,e2⟩:=Vn.1 (g2.mem t' (by simp));rcases V7 i j with h' | h' | h'
   ·exact .inr (.inl (by rw [<-e2]; exact Vy.1 w1 i j hi hj h'))
   ·subst h'; exact .inl e2
   ·exact .inr (.inr (by rw [<-e2]; exact Vy.1 w1 j i hj hi h'))
  have hPne:P≠[]:=λh'=>by rw [h'] at h1; cases h1
  have hb:∀ p∈P,(t'::st').getLast? = some p\/∃ b,(t'::st').getLast? = some b/\lx X Y b p:=λp hp=>by
   rw [g5,h2];cases P with
   | nil=>exact absurd rfl hPne
   |
    cons f P' =>
    rcases Ql.1 hp with rfl | hp
    ·exact .inl rfl
    ·exact .inr ⟨f,rfl,(Za.1 w1).1 p hp⟩
  have hpush:=Zcj g2 hc tot hb g3 g4;obtain ⟨t2,st2,k1,k2,k3,k4⟩:=Qkq hs hrow l (P++[c]) c (t'::st') (by rw [e]; simp) hpush (by simp) (by
   rw [Jm,g5,h2];cases P with
   | nil=>exact absurd rfl hPne
   | cons f P'=>rfl)
  exact ⟨t2,st2,by simp only [Rx]; rw [g1]; exact k1,k2,k3,k4⟩
theorem Q34 {P:List α} (tot:∀ p∈P,∀ q∈P,p=q\/lx X Y p q\/lx X Y q p) {z:α} :
 ∀ (L L':List α) (f:α),(f::L).Pairwise (lx X Y)->(f::L').Pairwise (lx X Y)->(∀ p∈f::L,p∈P)->(∀ p∈f::L',p∈P) ->
 Edg (λa b=>∀ p∈P,0≤Pl X Y a b p) (f::L)->Edg (λa b=>∀ p∈P,0≤Pl X Y a b p) (f::L') ->
 Cnv (λa b c=>0<Pl X Y a b c) (f::L)->Cnv (λa b c=>0<Pl X Y a b c) (f::L')->(f::L).getLast? = some z->(f::L').getLast? = some z->L=L':=by
 have one:∀ (L L':List α) (f b b':α),(f::b::L).Pairwise (lx X Y)->(f::b'::L').Pairwise (lx X Y)->(∀ p∈f::b::L,p∈P)->b'∈P ->
  Edg (λa b=>∀ p∈P,0≤Pl X Y a b p) (f::b::L)->0≤Pl X Y f b' b->Cnv (λa b c=>0<Pl X Y a b c) (f::b::L)->(f::b::L).getLast? = some z->(f::b'::L').getLast? = some z->¬lx X Y b b':=by
  intro L L' f b b' s s' m m' e e' c l l' hlt;have s1:=Za.1 s;have hfb:lx X Y f b:=s1.1 b (by simp);have hcol:Pl X Y f b b'=0:=by
   have:=e.1 b' m';rw [Qrh] at e'; grind
  cases L with
  |
   nil =>
   simp at l;subst l;have hz:b'=b\/lx X Y b' b:=by
    have:b∈f::b'::L':=Vo l';have s2:=(Za.1 s').2;rcases Ql.1 this with rfl | h
    ·exact absurd hfb (B6 _)
    ·rcases Ql.1 h with h | h
     ·exact .inl h.symm
     ·exact .inr ((Za.1 s2).1 b h)
   rcases hz with rfl | hz
   ·exact B6 _ hlt
   ·exact B6 _ (Qq3 hlt hz)
  |
   cons d M =>
   have h1:0<Pl X Y f b d:=c.1;have h2:=e.2.1 b' m';have s2:=Za.1 s1.2;have hbd:lx X Y b d:=s2.1 d (by simp);have k:=(ang (B7 hlt) (B7 hfb) (B7 hbd) (by unfold Pl at hcol; grind) (by rw [Qn2] at h1; exact Rat.le_of_lt h1)).2 (.inr (by rw [Qn2] at h1; exact h1));unfold Pl at h2; grind
 intro L
 induction L with
 |
  nil =>
  intro L' f s s' m m' e e' c c' l l';simp at l;cases L' with
  | nil=>rfl
  |
   cons b' M' =>
   exfalso;subst l;have h1:=(Za.1 s').1 f (by
    rw [Jm] at l';exact Vo l')
   exact B6 _ h1
 |
  cons b M ih =>
  intro L' f s s' m m' e e' c c' l l';cases L' with
  |
   nil =>
   exfalso;simp at l';subst l';have h1:=(Za.1 s).1 f (by
    rw [Jm] at l;exact Vo l)
   exact B6 _ h1
  |
   cons b' M' =>
   have hb:=m b (by simp);have hb':=m' b' (by simp);have heq:b=b':=by
    rcases tot b hb b' hb' with h | h | h
    ·exact h
    ·exact absurd h (one M M' f b b' s s' m hb' e (e'.1 b hb) c l l')
    ·exact absurd h (one M' M f b' b s' s m' hb e' (e.1 b' hb') c' l' l)
   subst heq;rw [Jm] at l l';rw [ih M' b (Za.1 s).2 (Za.1 s').2 (λp hp=>m p (Qe _ hp)) (λp hp=>m' p (Qe _ hp)) e.2 e'.2 c.tail c'.tail l l']
end
end Orq
namespace Orr
open Go
structure RawInt where
 b:Bool
 l:List Nat
structure RawPt where
 x:List RawInt
 y:List RawInt
 d:RawInt
 id:Int
structure RawInt.Ok (z:RawInt):Prop where
 u:∀ u∈z.l,u<4294967296
structure RawPt.Ok (z:RawPt):Prop where
 x:∀ a∈z.x,a.Ok
 y:∀ a∈z.y,a.Ok
 d:z.d.Ok
 id:-9223372036854775808<=z.id/\z.id<=9223372036854775807
def RawInt.cut (z:RawInt):RawInt:=⟨z.b,z.l.take 1⟩
end Orr
namespace Orr
def Qb9 (l:List Pt):Prop:=l.Pairwise λa b=>a.id<b.id
theorem Q5k (p:Pt) (l:List Pt) (id:Int):has (p::l) id=if p.id<id then has l id else decide (p.id=id):=by
 by_cases h:p.id<id
 ·rw [if_pos h]; unfold has; simp only [Lu]; rw [if_pos h]; simp
 ·rw [if_neg h]; unfold has; simp only [Lu]; rw [if_neg h]; simp
theorem Q66 (p:Pt) (l:List Pt) (q:Pt):put (p::l) q=if p.id<q.id then p::put l q else q::p::l:=by
 unfold put;simp only [Lu]
 split <;> simp
theorem Qjm:∀ {l:List Pt} {q:Pt},Qb9 l->has l q.id=false->Qb9 (put l q)
 | [],q,_,_=>by simp [put,Lu,Qb9]
 |
  p::l,q,h,hn=>by
  have h1:=Za.1 h;rw [Q5k] at hn;rw [Q66]
  split
  ·rename_i hlt;rw [if_pos hlt] at hn;refine Za.2 ⟨λx hx=>?_,Qjm h1.2 hn⟩;rcases Qg2 hx with rfl | hx
   ·exact hlt
   ·exact h1.1 x hx
  ·rename_i hge;rw [if_neg hge,decide_eq_false_iff_not] at hn;refine Za.2 ⟨λx hx=>?_,h⟩;rcases Ql.1 hx with rfl | hx
   ·omega
   ·have:=h1.1 x hx; omega
end Orr
namespace Orr
open Go
section
variable {α:Type} {lt:α->α->Bool}
theorem Q0y (out:List α) (c:α):(B5 lt out c).Perm (c::out):=by
 unfold B5;exact (List.perm_middle).trans (by rw [Zg])
theorem Qih:∀ (l acc:List α),(l.foldl (B5 lt) acc).Perm (l++acc)
 | [],acc=>List.Perm.refl _
 |
  c::l,acc=>by
  simp only [Z4];exact (Qih l _).trans (((Q0y acc c).append_left l).trans List.perm_middle)
theorem Qvw (l:List α):(Ch lt l).Perm l:=by
 have:=Qih (lt:=lt) l [];rwa [Zw] at this
end
end Orr
namespace Orr
open Go
theorem Q48 (c:Int) (l:List Int):G5 (l.map (· * c))=G5 l*c.natAbs:=by
 have key:∀ (l:List Int) (g:Nat),(l.map (· * c)).foldl (λg z=>Nat.gcd g z.natAbs) (g*c.natAbs)=l.foldl (λg z=>Nat.gcd g z.natAbs) g*c.natAbs:=by
  intro l
  induction l with
  | nil=>intro g; rfl
  |
   cons z l ih =>
   intro g;simp only [Zx,Z4,Ye,Nat.gcd_mul_right];exact ih _
 have:=key l 0;rwa [Yn] at this
end Orr
namespace Orr
def H7 (a b:Crv):List Int:=Qbr (U5 (Uu a b) (Uu a b)) (U5 (Ut a b) (Ut a b))
def Fw (a b c d:Crv):List Int:=M3 (Uv (H7 c d) ((a.d*b.d)*(a.d*b.d))) (Uv (H7 a b) ((c.d*d.d)*(c.d*d.d)))
theorem Qrn {a b:Crv} (ha:Cb a) (hb:Cb b):Ua (H7 a b)/\(H7 a b).length<=31/\Bd 4194312 (H7 a b):=by
 obtain ⟨_,l1,b1⟩:=Qro ha hb;obtain ⟨_,l2,b2⟩:=Qrm ha hb;have m1:=Rh (Uu a b) (Uu a b);have m2:=Rh (Ut a b) (Ut a b);have q1:=Tt (u:=5) b1 b1 (by omega);have q2:=Tt (u:=5) b2 b2 (by omega);refine ⟨Ur _ _,?_,Wx (Qcd q1 q2) (by omega)⟩;have:=Ix (U5 (Uu a b) (Uu a b)) (U5 (Ut a b) (Ut a b));unfold H7;omega
theorem Qun {a b:Crv} (ha:Cb a) (hb:Cb b):Ug (a.d*b.d)<=2097152:=by
 have:=Fz a.d b.d; have:=ha.d; have:=hb.d; omega
theorem Qx1 {a b:Crv} (ha:Cb a) (hb:Cb b):Ug ((a.d*b.d)*(a.d*b.d))<=4194304:=by
 have:=Fz (a.d*b.d) (a.d*b.d); have:=Qun ha hb; omega
def Pj (sg:List Int->Int) (a b c d:Pt):Ct:=⟨5,a.id,b.id,c.id,d.id,Fw a.c b.c c.c d.c,Fq sg (Fw a.c b.c c.c d.c)⟩
theorem Qi0 (sg:List Int->Int) (a b c d:Pt):(Pj sg a b c d).p=Fw a.c b.c c.c d.c:=by rw [Pj]
def Gi:Nat->List Pt->List (Pt×Pt)
 | 0,_=>[]
 | _+1,[]=>[]
 | k+1,x::l=>l.map (λy=>(x,y))++Gi k l
def Uy (l:List Pt):List (Pt×Pt):=Gi l.length l
theorem Bp:∀ (l:List Pt) (i:Nat) (x:Pt),l[i]? = some x->Gi (i+1) l=Gi i l++(l.drop (i+1)).map (λy=>(x,y))
 | [],i,x,h=>by simp at h
 |
  y::l,0,x,h=>by
  simp at h; subst h;simp [Gi]
 |
  y::l,i+1,x,h=>by
  have h:l[i]? = some x:=by simpa using h
  have ih:=Bp l i x h;show l.map (λz=>(y,z))++Gi (i+1) l=(l.map (λz=>(y,z))++Gi i l)++_;rw [ih,Q8];rfl
theorem H6:∀ (k:Nat) (l:List Pt),∀ m∈Gi k l,m.1∈l/\m.2∈l
 | 0,l,m,h=>by simp [Gi] at h
 | k+1,[],m,h=>by simp [Gi] at h
 |
  k+1,x::l,m,h=>by
  rcases Qq.1 h with h | h
  ·obtain ⟨y,hy,rfl⟩:=Ze.1 h;exact ⟨Qx ..,Qe _ hy⟩
  ·obtain ⟨h1,h2⟩:=H6 k l m h;exact ⟨Qe _ h1,Qe _ h2⟩
theorem Qbs:∀ (k:Nat) (l:List Pt),(Gi k l).length<=k*l.length
 | 0,l=>by simp [Gi]
 | k+1,[]=>by simp [Gi]
 |
  k+1,x::l=>by
  have:=Qbs k l;simp only [Gi,Qw,Zm,Q6];have e:(k+1)*(l.length+1)=k*l.length+k+l.length+1:=by rw [X4,Xe]; omega
  omega
def Rz (sg:List Int->Int) (s m:Pt×Pt):Pt×Pt:=if Fq sg (Fw s.1.c s.2.c m.1.c m.2.c)<0 then m else s
def Fu (sg:List Int->Int) (s:Pt×Pt) (ps:List (Pt×Pt)):Pt×Pt:=ps.foldl (Rz sg) s
theorem Qex (sg:List Int->Int) (s m:Pt×Pt):Rz sg s m=m\/Rz sg s m=s:=by
 unfold Rz
 split
 ·exact .inl rfl
 ·exact .inr rfl
theorem Aw (sg:List Int->Int) (s m:Pt×Pt) (ps:List (Pt×Pt)):Fu sg s (m::ps)=Fu sg (Rz sg s m) ps:=by unfold Fu; rw [List.foldl_cons]
theorem Qnx (sg:List Int->Int) (s:Pt×Pt) (ps:List (Pt×Pt)) (m:Pt×Pt):Fu sg s (ps++[m])=Rz sg (Fu sg s ps) m:=by simp [Fu]
theorem Bl (sg:List Int->Int) {l:List Pt}:∀ (ps:List (Pt×Pt)) (s:Pt×Pt),s.1∈l/\s.2∈l->(∀ m∈ps,m.1∈l/\m.2∈l)->(Fu sg s ps).1∈l/\(Fu sg s ps).2∈l
 | [],s,hs,_=>hs
 |
  m::ps,s,hs,h=>by
  have hn:(Rz sg s m).1∈l/\(Rz sg s m).2∈l:=by
   rcases Qex sg s m with e | e
   ·rw [e]; exact h m (Qx ..)
   ·rw [e]; exact hs
  rw [Aw];exact Bl sg ps (Rz sg s m) hn λx hx=>h x (Qe _ hx)
def A6 (s m:Pt×Pt):Bool:=decide (m.1.id≠s.1.id) || decide (m.2.id≠s.2.id)
def Si (sg:List Int->Int) (s:Pt×Pt) (ps:List (Pt×Pt)):List Ct:=(ps.filter (A6 s)).map λm=>Pj sg s.1 s.2 m.1 m.2
theorem Za8 {sg:List Int->Int} {s m:Pt×Pt} {ps:List (Pt×Pt)} (h:A6 s m=true):Si sg s (ps++[m])=Si sg s ps++[Pj sg s.1 s.2 m.1 m.2]:=by simp [Si,Y7,h]
theorem Za7 {sg:List Int->Int} {s m:Pt×Pt} {ps:List (Pt×Pt)} (h:A6 s m=false):Si sg s (ps++[m])=Si sg s ps:=by simp [Si,Y7,h]
theorem Qkv {sg:List Int->Int} {s:Pt×Pt} {ps:List (Pt×Pt)} {c:Ct} (h:c∈Si sg s ps):∃ x∈ps,Pj sg s.1 s.2 x.1 x.2=c:=by
 unfold Si at h;obtain ⟨x,hx,e⟩:=Ze.1 h;exact ⟨x,(J1.1 hx).1,e⟩
theorem Qku (sg:List Int->Int) (s:Pt×Pt) (ps:List (Pt×Pt)):(Si sg s ps).length<=ps.length:=by
 unfold Si;rw [Zm];exact Yo _ _
def I8 (sg:List Int->Int):List Pt->List Pt
 | a::b::l=>[(Fu sg (a,b) (Uy (a::b::l))).1,(Fu sg (a,b) (Uy (a::b::l))).2]
 | _=>[]
def Bn (sg:List Int->Int):List Pt->List Ct
 | a::b::l=>Si sg (Fu sg (a,b) (Uy (a::b::l))) (Uy (a::b::l))
 | _=>[]
theorem Q1c (sg:List Int->Int) {l:List Pt} (h:l.length<2):I8 sg l=[]/\Bn sg l=[]:=by
 match l,h with
 | [],_=>exact ⟨rfl,rfl⟩
 | [a],_=>exact ⟨rfl,rfl⟩
theorem Zid {l:List Pt} (h:¬l.length<2):∃ a b m,l=a::b::m:=by
 match l,h with
 | [],h=>simp at h
 | [a],h=>simp at h
 | a::b::m,_=>exact ⟨a,b,m,rfl⟩
theorem Qlt (sg:List Int->Int) (l:List Pt):(Bn sg l).length<=l.length*l.length:=by
 match l with
 | []=>simp [Bn]
 | [a]=>simp [Bn]
 | a::b::m=>exact Qd (Qku _ _ _) (Qbs _ _)
def Lk (l:List (List (List Int))):List (List LV):=l.map λr=>[.row (r.map λp=>[pl p])]
abbrev Oh (r:List (List Int)):List (List LV):=r.map λp=>[pl p]
theorem Qaa (l:List (List (List Int))):(Lk l).length=l.length:=by simp [Lk]
def I1 (i:Nat) (rows:List (List (List Int))):Nat->List (List (List Int))
 | 0=>[]
 | j+1=>if j=i then I1 i rows j else I1 i rows j++[(rows.getD j []).drop 1]
def Qao (rows:List (List (List Int))) (i:Nat):List (List (List Int)):=I1 i rows rows.length
def Ng (f:Nat->List Int) (rows:List (List (List Int))):Nat->List Int
 | 0=>[]
 |
  i+1=>if ((rows.getD i []).getD 0 []).length=0 then Ng f rows i else
  if i % 2=0 then Qbr (Ng f rows i) (U5 ((rows.getD i []).getD 0 []) (f i)) else M3 (Ng f rows i) (U5 ((rows.getD i []).getD 0 []) (f i))
def Bq:Nat->List (List (List Int))->List Int
 | 0,_=>[1]
 | k+1,rows=>Ng (λi=>Bq k (Qao rows i)) rows (k+1)
structure Sq (s:Nat) (ds:List Nat) (k w:Nat) (rows:List (List (List Int))):Prop where
 l:rows.length=k
 w:∀ r∈rows,r.length=w
 t:∀ r∈rows,∀ p∈r,Ua p
 b:∀ r∈rows,∀ p∈r,Bd s p
 n:∀ r∈rows,∀ (j:Nat) (p:List Int),r[j]? = some p->p.length≤ds.getD j 0+1
theorem Qiz {i:Nat} {rows:List (List (List Int))}:∀ {j:Nat} {r:List (List Int)},j≤rows.length->r∈I1 i rows j->∃ q∈rows,r=q.drop 1
 | 0,r,_,h=>by simp [I1] at h
 |
  j+1,r,hj,h=>by
  simp only [I1] at h
  split at h
  ·exact Qiz (by omega) h
  ·rcases Qq.1 h with h | h
   ·exact Qiz (by omega) h
   ·rw [Qk.1 h];exact ⟨rows.getD j [],Qa (i:=j) (by rw [Qj,Qf (by omega)]; rfl),rfl⟩
theorem Qiy {i:Nat} {rows:List (List (List Int))}:∀ (j:Nat),(I1 i rows j).length=if i<j then j-1 else j
 | 0=>rfl
 |
  j+1=>by
  have ih:=Qiy (i:=i) (rows:=rows) j;simp only [I1]
  split
  ·rename_i e; subst e; rw [ih,if_neg (by omega),if_pos (by omega)]; omega
  ·rw [Qw,ih,Kf]
   split <;> split <;> omega
theorem Sq.min {s d k w:Nat} {ds:List Nat} {rows:List (List (List Int))} (h:Sq s (d::ds) (k+1) (w+1) rows) {i:Nat} (hi:i<k+1):Sq s ds k w (Qao rows i):=by
 have hl:=h.l;have hm:∀ {r:List (List Int)},r∈Qao rows i->∃ q∈rows,r=q.drop 1:=λh=>Qiz (Qm _) h
 refine ⟨by unfold Qao; rw [Qiy,hl,if_pos hi]; omega,λr hr=>?_,λr hr p hp=>?_,λr hr p hp=>?_,λr hr j p hp=>?_⟩
 ·obtain ⟨q,hq,rfl⟩:=hm hr;rw [Zd,h.w q hq]; omega
 all_goals obtain ⟨q,hq,rfl⟩:=hm hr
 ·exact h.t q hq p (Qz hp)
 ·exact h.b q hq p (Qz hp)
 ·rw [Z7] at hp;have:=h.n q hq (1+j) p hp;rw [Jj 1 j] at this;exact this
theorem Sq.at {s d k w:Nat} {ds:List Nat} {rows:List (List (List Int))} (h:Sq s (d::ds) k (w+1) rows) {i:Nat} (hi:i<k):∃ p r,rows[i]? = some (p::r)/\(rows.getD i []).getD 0 []=p/\Ua p/\Bd s p/\p.length<=d+1:=by
 obtain ⟨r,hr⟩:=gxE (l:=rows) (i:=i) (by rw [h.l]; exact hi);have hm:=Qa hr;cases r with
 | nil=>have:=h.w _ hm; simp at this
 |
  cons p r =>
  have e:rows.getD i []=p::r:=by rw [Qj,hr]; rfl
  refine ⟨p,r,hr,by rw [e]; rfl,h.t _ hm p (by simp),h.b _ hm p (by simp),h.n _ hm 0 p rfl⟩
theorem Qm9 {s d k w:Nat} {ds:List Nat} {f:Nat->List Int} {rows:List (List (List Int))} {B L:Nat} (h:Sq s (d::ds) k (w+1) rows) (hn:d<31) (hf:∀ i,i<k->Bd B (f i)/\(f i).length<=L+1):∀ i,i<=k->Ua (Ng f rows i)/\Bd (s+B+5+i) (Ng f rows i)/\(Ng f rows i).length<=d+L+1
 | 0,_=>⟨rfl,λz hz=>(by cases hz),Qi _⟩
 |
  i+1,hi=>by
  obtain ⟨h1,h2,h3⟩:=Qm9 h hn hf i (by omega);obtain ⟨p,r,_,e,t,b,l⟩:=h.at (i:=i) (by omega);obtain ⟨f1,f2⟩:=hf i (by omega);have hp1:Bd (s+B+5) (U5 p (f i)):=Tt b f1 (by omega);have hp2:=Rh p (f i);simp only [Ng];rw [e]
  split
  ·exact ⟨h1,Wx h2 (by omega),h3⟩
  ·split
   ·exact ⟨Ur _ _,Wx (Qcd h2 hp1) (by omega),Qd (Ix _ _) (by omega)⟩
   ·exact ⟨Ur _ _,Wx (Nn h2 hp1) (by omega),Qd (Su _ _) (by omega)⟩
theorem Qg0 {s:Nat}:∀ (k:Nat) (ds:List Nat) (rows:List (List (List Int))),k<=4->ds.length=k->ds.sum<31->Sq s ds k k rows->Ua (Bq k rows)/\Bd (k*(s+10)+1) (Bq k rows)/\(Bq k rows).length<=ds.sum+1
 | 0,ds,rows,_,_,_,_=>⟨rfl,λz hz=>(by simp [Bq] at hz; subst hz; rw [Yn]; decide),by simp [Bq]⟩
 | k+1,[],rows,_,hl,_,_=>by simp at hl
 |
  k+1,d::ds,rows,hk,hl,hd,h=>by
  rw [Kc] at hd;have ih:=λi (hi:i<k+1)=>Qg0 k ds (Qao rows i) (by omega) (by simpa using hl) (by omega) (h.min hi)
  obtain ⟨h1,h2,h3⟩:=Qm9 (f:=λi=>Bq k (Qao rows i)) (B:=k*(s+10)+1) (L:=ds.sum) h (by omega) (λi hi=>⟨(ih i hi).2.1,(ih i hi).2.2⟩) (k+1) (Qm _);have e1:(k+1)*(s+10)=k*(s+10)+(s+10):=Z5 ..;rw [Kc];exact ⟨h1,Wx h2 (by omega),h3⟩
def Qri (a b c:Crv):List (List (List Int)):=[[a.x,a.y,[a.d]],[b.x,b.y,[b.d]],[c.x,c.y,[c.d]]]
def Fl (a b c:Crv):List Int:=Bq 3 (Qri a b c)
end Orr
namespace Orr
open Go Go.Proofs Orq
set_option maxRecDepth 10000
theorem gz {P:Program} [Mo P] {n:Nat} {Q:Exit->Sg->List OB->Prop} {L L':Sg} {B B':List OB} (i:Nat) {it:List It} (hs:Gz it=true) (h:Q1h [i] L B=some (L',B')) (k:AK P n Q it L' B'):AK P n Q it L B:=AK.sub (Qdh h) hs k
theorem Qjo {r:List (List Int)} {i:Nat} {p:List Int} (h:r[i]? = some p):(Oh r)[i]? = some [pl p]:=Gu h
theorem Dc {l:List (List (List Int))} {i:Nat} {r:List (List Int)} (h:l[i]? = some r):(Lk l)[i]? = some [.row (Oh r)]:=Gu h
theorem Q2n {r:List (List Int)} (ht:∀ p∈r,Ua p) (hb:∀ p∈r,Bd 1000000 p) (hl:∀ p∈r,p.length≤1000000) (hn:r.length≤1000):W0 Tryz.prog 210 [.one (.row (Oh r))] [.one (.row (Oh r))]:=by
 have hrl:(Oh r).length=r.length:=by simp
 refine U4 Tryz.func210 rfl ?_;refine go tt [.o 3 33 1] rfl trivial ?_;refine lp (S:=Nat) 1 (λL1 i=>(8,.v (.one (.int .i64 (i:Int))))::(3,.v (.one (.orow 0 1 none)))::L1) (λi=>[.row false 33 1 (Oh (r.take i))]) (λi=>r.length-i) (λi=>i<=r.length) 0 (Qi _) rfl (λ_ _=>rfl) rfl λi hi=>?_
 by_cases h:i<r.length
 ·obtain ⟨p,hp⟩:=gxE (l:=r) (i:=i) h;have hm:=Qa hp;have hs:∀ y∈[[pl p]],y.length=1:=λy hy=>by rw [Qk.1 hy]; rfl
  have e:Oh (r.take (i+1))=Oh (r.take i)++[[pl p]]:=by rw [Z0,hp]; simp
  refine go tt [.t (decide_eq_true (by omega)),.x (Qjo hp),.c [] (Gf (ht p hm) (by have:=hl p hm; omega) (Wx (hb p hm) (by decide))),.s (sz:=1) hs] rfl (by simp [Wv] <;> omega) ?_;exact rd (i+1) (by omega) h (by rw [e]; rfl)
 ·obtain rfl:i=r.length:=by omega
  rw [Q4];exact en tt [.f (decide_eq_false (by omega))] rfl rfl trivial
theorem Zjk {s k w:Nat} {ds:List Nat} {rows:List (List (List Int))} (h:Sq s ds k k rows) (_hw:w=k) (hk:k<=4):W0 Tryz.prog 246 [.one (.row (Lk rows))] [.one (.bool true)]:=by
 have hrl:=Qaa rows;have hl:=h.l;refine U4 Tryz.func246 rfl ?_;refine go tt [] rfl trivial ?_;refine lp (S:=Nat) 0 (λL1 i=>(7,.v (.one (.int .i64 (i:Int))))::L1) (λ_=>[]) (λi=>rows.length-i) (λi=>i<=rows.length) 0 (Qi _) rfl (λ_ _=>rfl) rfl λi hi=>?_
 by_cases hlt:i<rows.length
 ·obtain ⟨r,hr⟩:=gxE (l:=rows) (i:=i) hlt;have hw:=h.w r (Qa hr);have hql:(Oh r).length=r.length:=by simp
  refine go tt [.t (decide_eq_true (by omega)),.x (Dc hr),.f (decide_eq_false (λh=>h (by omega)))] rfl (by simp [Wv] <;> omega) ?_;exact rd (i+1) (by omega) hlt rfl
 ·exact en tt [.f (decide_eq_false (by omega))] rfl (by rw [decide_eq_true (by omega:((Lk rows).length:Int)<=4)]) trivial
theorem Zan {s k w:Nat} {ds:List Nat} {rows:List (List (List Int))} (h:Sq s ds k w rows) (hs:s<=1000000) (hk:k<=4) (hw:w<=4) (hd:∀ j,ds.getD j 0<=1000) (i:Nat):W0 Tryz.prog 274 [.one (.int .i64 (i:Int)),.one (.int .i64 0),.one (.row (Lk rows))] [.one (.row (Lk (Qao rows i)))]:=by
 have hrl:=Qaa rows;have hl:=h.l;have hml:∀ j,j<=rows.length->(Lk (I1 i rows j)).length<=4:=λj hj=>by
  rw [Qaa,Qiy]; split <;> omega
 refine U4 Tryz.func274 rfl ?_;refine go tt [.o 7 284 1] rfl trivial ?_;refine lp (S:=Nat) 1 (λL1 j=>(15,.v (.one (.int .i64 (j:Int))))::(7,.v (.one (.orow 0 1 none)))::L1) (λj=>[.row false 284 1 (Lk (I1 i rows j))]) (λj=>rows.length-j) (λj=>j<=rows.length) 0 (Qi _) rfl (λ_ _=>rfl) rfl λj hj=>?_
 have hmlj:=hml j hj;by_cases hlt:j<rows.length
 ·obtain ⟨r,hr⟩:=gxE (l:=rows) (i:=j) hlt;have hm:=Qa hr;have hw:=h.w r hm;have hql:(Oh r).length=r.length:=by simp
  by_cases hij:j=i
  ·have e:I1 i rows (j+1)=I1 i rows j:=by simp only [I1]; rw [if_pos hij]
   refine go tt [.t (decide_eq_true (by omega)),.x (Dc hr),.t (decide_eq_true (by omega))] rfl (by simp [Wv] <;> omega) ?_;exact rd (j+1) (by omega) hlt (by rw [e]; rfl)
  ·have e:I1 i rows (j+1)=I1 i rows j++[r.drop 1]:=by
    simp only [I1]; rw [if_neg hij,Qj,hr]; rfl
   refine go tt [.t (decide_eq_true (by omega)),.x (Dc hr),.f (decide_eq_false (by omega)),.o 10 33 1] rfl (by simp [Wv]) ?_;refine lp (S:=Nat) 2 (λL1 c=>(25,.v (.one (.int .i64 (c:Int))))::(10,.v (.one (.orow 1 1 none)))::L1) (λc=>[.row false 284 1 (Lk (I1 i rows j)),.row false 33 1 (Oh ((r.take c).drop 1))]) (λc=>r.length-c) (λc=>c<=r.length) 0 (Qi _) rfl (λ_ _=>rfl) rfl λc hc=>?_
   by_cases hcl:c<r.length
   ·obtain ⟨p,hp⟩:=gxE (l:=r) (i:=c) hcl;have hpm:=Qa hp;by_cases h0:c=0
    ·subst h0;refine go tt [.t (decide_eq_true (by omega)),.x (Qjo hp),.f (decide_eq_false (by simp))] rfl (by simp [Wv]) ?_;exact rd 1 (by omega) hcl (by rw [Z0,hp]; rfl)
    ·have hs1:∀ y∈[[pl p]],y.length=1:=λy hy=>by rw [Qk.1 hy]; rfl
     have e2:Oh ((r.take (c+1)).drop 1)=Oh ((r.take c).drop 1)++[[pl p]]:=by
      rw [Z0,hp,Kt (by rw [Qu]; omega)]; simp
     refine go tt [.t (decide_eq_true (by omega)),.x (Qjo hp),.t (decide_eq_true (by omega)),.c [] (Gf (h.t r hm p hpm) (by have:=h.n r hm c p hp; have:=hd c; omega) (Wx (h.b r hm p hpm) (by omega))),.s (sz:=1) hs1] rfl (by simp [Wv] <;> omega) ?_;exact rd (c+1) (by omega) hcl (by rw [e2]; rfl)
   ·obtain rfl:c=r.length:=by omega
    rw [Q4];have hs1:∀ y∈[[LV.row (Oh (r.drop 1))]],y.length=1:=λy hy=>by rw [Qk.1 hy]; rfl
    refine go tt [.f (decide_eq_false (by omega))] rfl trivial ?_;refine gz 1 rfl rfl ?_;refine go tt [.s (sz:=1) hs1] rfl (by simp [Wv] <;> omega) ?_;exact rd (j+1) (by omega) hlt (by rw [e]; simp [Lk]; rfl)
 ·obtain rfl:j=rows.length:=by omega
  exact en tt [.f (decide_eq_false (by omega))] rfl rfl trivial
theorem Qfu:∀ (ds:List Nat) (j:Nat),ds.getD j 0<=ds.sum
 | [],j=>by simp
 | d::ds,0=>by simp
 |
  d::ds,j+1=>by
  have:=Qfu ds j;rw [Kc];show ds.getD j 0<=_;omega
theorem Zd6 {s:Nat} (hs:s<=100000):∀ (k:Nat) (ds:List Nat) (rows:List (List (List Int))),k<=4->ds.length=k->ds.sum<31->Sq s ds k k rows->W0 Tryz.prog 247 [.one (.row (Lk rows))] [pr (Bq k rows)]
 |
  0,ds,rows,_,_,_,h=>by
  have e:=Qh h.l;subst e;have co:=Qwq (p:=[1]) (by decide) (by decide);exact w tt Tryz.func247 rfl [.t rfl,.c [] co] rfl rfl trivial
 | k+1,[],_,_,hl,_,_=>by simp at hl
 |
  k+1,d::ds,rows,hk,hl,hd,h=>by
  rw [Kc] at hd;have hl':ds.length=k:=by simpa using hl
  have hrl:=Qaa rows;have hrn:=h.l;have hmin:=λi (hi:i<k+1)=>h.min hi
  have ih:=λi (hi:i<k+1)=>Zd6 hs k ds (Qao rows i) (by omega) hl' (by omega) (hmin i hi)
  have hok:=λi (hi:i<k+1)=>Qg0 k ds (Qao rows i) (by omega) hl' (by omega) (hmin i hi)
  have hb:k*(s+10)+1<=500000:=by
   have:k*(s+10)<=4*(100010):=Zk (by omega) (by omega);omega
  have hds:=Qm9 (f:=λi=>Bq k (Qao rows i)) (B:=k*(s+10)+1) (L:=ds.sum) h (by omega) (λi hi=>⟨(hok i hi).2.1,(hok i hi).2.2⟩);have cm:=Zan h (by omega) hk hk (λj=>by have:=Qfu (d::ds) j; rw [Kc] at this; omega);show W0 Tryz.prog 247 [.one (.row (Lk rows))] [pr (Ng (λi=>Bq k (Qao rows i)) rows (k+1))];obtain ⟨f,hf⟩:=nmE (λi=>Bq k (Qao rows i));rw [<-hf] at hds ⊢;have hfi:∀ i,f i=Bq k (Qao rows i):=λi=>by rw [hf]
  refine U4 Tryz.func247 rfl ?_;refine go tt [.f (decide_eq_false (by omega)),.z 3] rfl trivial ?_;refine lp (S:=Nat) 0 (λL1 i=>(14,.v (.one (.int .i64 (i:Int))))::(3,.v (pr (Ng f rows i)))::L1) (λ_=>[]) (λi=>k+1-i) (λi=>i<=k+1) 0 (Qi _) rfl (λ_ _=>rfl) rfl λi hi=>?_
  obtain ⟨d1,d2,d3⟩:=hds i hi;by_cases hlt:i<k+1
  ·obtain ⟨p,r,hr,e,t,b,l⟩:=h.at hlt;have hx0:(Oh (p::r))[0]? = some [pl p]:=rfl;have hpl:(p.map Gb).length=p.length:=by simp
   have cn:=Gf t (by omega) (Wx b (by omega));by_cases h0:p.length=0
   ·have es:Ng f rows (i+1)=Ng f rows i:=by simp only [Ng]; rw [e,if_pos h0]
    refine go tt [.t (decide_eq_true (by omega)),.x (Dc hr),.x hx0,.c [] cn,.t (decide_eq_true (by omega))] rfl (by simp [Wv] <;> omega) ?_;exact rd (i+1) (by omega) hlt (by rw [es]; rfl)
   ·obtain ⟨k1,k2,k3⟩:=hok i hlt;have ci:=ih i hlt;have cp:=Qd6 (p:=p) (q:=f i) t (by rw [hfi]; exact k1) (by omega) (by rw [hfi]; omega) b (by rw [hfi]; exact k2) (by omega);have hmb:Bd (s+(k*(s+10)+1)+5) (U5 p (f i)):=Tt b (by rw [hfi]; exact k2) (by omega);have hml:=Rh p (f i);have hfl:(f i).length<=ds.sum+1:=by rw [hfi]; exact k3
    rw [<-hfi] at ci;by_cases h2:i % 2=0
    ·have es:Ng f rows (i+1)=Qbr (Ng f rows i) (U5 p (f i)):=by simp only [Ng]; rw [e,if_neg h0,if_pos h2]
     refine go tt [.t (decide_eq_true (by omega)),.x (Dc hr),.x hx0,.c [] cn,.f (decide_eq_false (by omega)),.x hx0,.c [] (cm i),.c [] ci,.c [] cp,.r 34 (eI (b:=((i % 2:Nat):Int)) rfl),.t (decide_eq_true (by omega)),.c [] (Qmr (p:=Ng f rows i) (q:=U5 p (f i)) (by omega) (by omega) (Wx d2 (by omega)) (Wx hmb (by omega)))] rfl (by simp [Wv] <;> omega) ?_;exact rd (i+1) (by omega) hlt (by rw [es]; rfl)
    ·have es:Ng f rows (i+1)=M3 (Ng f rows i) (U5 p (f i)):=by simp only [Ng]; rw [e,if_neg h0,if_neg h2]
     refine go tt [.t (decide_eq_true (by omega)),.x (Dc hr),.x hx0,.c [] cn,.f (decide_eq_false (by omega)),.x hx0,.c [] (cm i),.c [] ci,.c [] cp,.r 34 (eI (b:=((i % 2:Nat):Int)) rfl),.f (decide_eq_false (by omega)),.c [] (Qd7 (p:=Ng f rows i) (q:=U5 p (f i)) (by omega) (by omega) (Wx d2 (by omega)) (Wx hmb (by omega)))] rfl (by simp [Wv] <;> omega) ?_;exact rd (i+1) (by omega) hlt (by rw [es]; rfl)
  ·obtain rfl:i=k+1:=by omega
   exact en tt [.f (decide_eq_false (by omega))] rfl rfl trivial
theorem Zd0 {s:Nat} (hs:s<=100000) {k:Nat} {ds:List Nat} {rows:List (List (List Int))} (hk:k<=4) (hl:ds.length=k) (hd:ds.sum<31) (h:Sq s ds k k rows):W0 Tryz.prog 211 [.one (.row (Lk rows))] [pr (Bq k rows),.one (.int .i64 0)] :=
 w tt Tryz.func211 rfl [.c [] (Zjk h rfl hk),.f rfl,.c [] (Zd6 hs k ds rows hk hl hd h)] rfl rfl trivial
theorem Qtz {k:Crv} (hk:Sc k):W0 Tryz.prog 209 [.agg (cl k)] [.one (.row (Oh [k.x,k.y,[k.d]]))]:=by
 have h0:k.d≠0:=by have:=hk.n.2.2.1; omega
 have td:Ua [k.d]:=by unfold Ua; simp [trim,h0]
 have cd:=Q2n (r:=[k.x,k.y,[k.d]]) (λp hp=>by
  rcases Ql.1 hp with rfl | hp
  ·exact hk.n.1
  rcases Ql.1 hp with rfl | hp
  ·exact hk.n.2.1
  ·rw [Qk.1 hp]; exact td) (λp hp=>by
  rcases Ql.1 hp with rfl | hp
  ·exact Wx hk.c.x (by decide)
  rcases Ql.1 hp with rfl | hp
  ·exact Wx hk.c.y (by decide)
  ·rw [Qk.1 hp];intro z hz; rw [Qk.1 hz]; exact Qd hk.c.d (by decide)) (λp hp=>by
  rcases Ql.1 hp with rfl | hp
  ·have:=hk.c.lx; omega
  rcases Ql.1 hp with rfl | hp
  ·have:=hk.c.ly; omega
  ·rw [Qk.1 hp]; show 1<=1000000; decide) (by show 3<=1000; decide)
 exact w tt Tryz.func209 rfl [.c [] (Np hk.n (hk.c.mono (by decide) (by decide))),.c [] cd] rfl rfl trivial
theorem Qsm {a b c:Crv} (ha:Sc a) (hb:Sc b) (hc:Sc c):Sq 128 [2,2,0] 3 3 (Qri a b c):=by
 have key:∀ k:Crv,Sc k->(∀ p∈[k.x,k.y,[k.d]],Ua p/\Bd 128 p)/\∀ (j:Nat) (p:List Int),[k.x,k.y,[k.d]][j]? = some p->p.length≤[2,2,0].getD j 0+1:=λk hk=>by
  have h0:k.d≠0:=by have:=hk.n.2.2.1; omega
  have td:Ua [k.d]:=by unfold Ua; simp [trim,h0]
  refine ⟨λp hp=>?_,λj p hp=>?_⟩
  ·rcases Ql.1 hp with rfl | hp
   ·exact ⟨hk.n.1,hk.c.x⟩
   rcases Ql.1 hp with rfl | hp
   ·exact ⟨hk.n.2.1,hk.c.y⟩
   ·rw [Qk.1 hp];exact ⟨td,λz hz=>by rw [Qk.1 hz]; exact hk.c.d⟩
  ·match j,hp with
   | 0,hp=>injection hp with hp; subst hp; exact hk.c.lx
   | 1,hp=>injection hp with hp; subst hp; exact hk.c.ly
   | 2,hp=>injection hp with hp; subst hp; exact Qm _
   | j+3,hp=>simp at hp
 have hr:∀ r∈Qri a b c,∃ k:Crv,Sc k/\r=[k.x,k.y,[k.d]]:=λr hr=>by
  rcases Ql.1 hr with rfl | hr
  ·exact ⟨a,ha,rfl⟩
  rcases Ql.1 hr with rfl | hr
  ·exact ⟨b,hb,rfl⟩
  ·rw [Qk.1 hr]; exact ⟨c,hc,rfl⟩
 refine ⟨rfl,λr h=>?_,λr h p hp=>?_,λr h p hp=>?_,λr h j p hp=>?_⟩
 all_goals obtain ⟨k,hk,rfl⟩:=hr r h
 ·rfl
 ·exact ((key k hk).1 p hp).1
 ·exact ((key k hk).1 p hp).2
 ·exact (key k hk).2 j p hp
theorem O0 {a b c:Crv} (ha:Sc a) (hb:Sc b) (hc:Sc c):Cp (Fl a b c):=by
 obtain ⟨h1,h2,h3⟩:=Qg0 3 [2,2,0] (Qri a b c) (by decide) rfl (by decide) (Qsm ha hb hc);exact ⟨h1,Qd h3 (by decide),Wx h2 (by decide)⟩
theorem Qpm {a b c:Crv} (ha:Sc a) (hb:Sc b) (hc:Sc c):W0 Tryz.prog 175 [.agg (cl a),.agg (cl b),.agg (cl c)] [pr (Fl a b c)]:=by
 have cd:=Zd0 (by decide) (k:=3) (ds:=[2,2,0]) (by decide) rfl (by decide) (Qsm ha hb hc);exact w tt Tryz.func175 rfl [.c [] (Qtz ha),.c [] (Qtz hb),.c [] (Qtz hc),.c [] cd] rfl rfl trivial
end Orr
namespace Orq
open Orr Go
theorem Qst {p q:List Int} (tp:Ua p) (tq:Ua q) (h:∀ i,p.getD i 0=q.getD i 0):p=q:=by
 have hl:∀ {p q:List Int},Ua p->(∀ i,p.getD i 0=q.getD i 0)->p.length<=q.length:=λ{p q} tp h=>by
  refine Nat.not_lt.1 λhn=>?_
  have h1:=G7 tp (by omega);rw [h,Qj,Q0 (by omega)] at h1;exact h1 rfl
 have e:=Kr (hl tp h) (hl tq λi=>(h i).symm);refine List.ext_getElem e λi h1 h2=>?_
 have:=h i;rw [Qj,Qj,Qf h1,Qf h2] at this;exact this
theorem Qql {p:List Int} (h:p=[]) (i:Nat):p.getD i 0=0:=by rw [h]; simp
theorem Cw (p:List Int) (c:Int) (i:Nat):(Uv p c).getD i 0=p.getD i 0*c:=by
 unfold Uv;rw [Nh]
 split
 ·rfl
 ·rename_i h;rw [Qj,Q0 (by omega)]; simp
theorem Qjl (p q:List Int) (i:Nat):(M3 p q).getD i 0=p.getD i 0-q.getD i 0:=by
 unfold M3;rw [Nh]
 split
 ·rfl
 ·rename_i h;rw [Qj,Qj,Q0 (by omega),Q0 (by omega)]; simp
theorem Zb6 {x y:Crv} (hx:Nml x) (hy:Nml y) (h1:Uu x y=[]) (h2:Ut x y=[]):x=y:=by
 have e1:∀ i,y.x.getD i 0*x.d=x.x.getD i 0*y.d:=λi=>by
  have:=Qql h1 i;unfold Uu at this;rw [Qjl,Cw,Cw] at this;omega
 have e2:∀ i,y.y.getD i 0*x.d=x.y.getD i 0*y.d:=λi=>by
  have:=Qql h2 i;unfold Ut at this;rw [Qjl,Cw,Cw] at this;omega
 have key:∀ {x y:Crv},Nml x->Nml y->(∀ i,y.x.getD i 0*x.d=x.x.getD i 0*y.d)->(∀ i,y.y.getD i 0*x.d=x.y.getD i 0*y.d)->x.d∣y.d:=λ{x y} hx hy e1 e2=>by
  have hd:=Qp8 (d:=x.d) (l:=(x.d::(x.x++x.y)).map (· * y.d)) λz hz=>by
   obtain ⟨w,hw,rfl⟩:=Ze.1 hz;rcases Ql.1 hw with rfl | hw
   ·exact Int.dvd_mul_right _ _
   ·rcases Qq.1 hw with hw | hw
    ·obtain ⟨i,hi,rfl⟩:=Vn.1 hw;have:=e1 i;rw [show x.x.getD i 0=x.x[i] from by rw [Qj,Qf hi]; rfl] at this;rw [<-this]; exact Yw _ _
    ·obtain ⟨i,hi,rfl⟩:=Vn.1 hw;have:=e2 i;rw [show x.y.getD i 0=x.y[i] from by rw [Qj,Qf hi]; rfl] at this;rw [<-this]; exact Yw _ _
  rw [Q48,hx.2.2.2,Ws] at hd;exact Ka hd (Int.natAbs_dvd.2 (Kk _))
 have hd:x.d=y.d:=Int.dvd_antisymm (Int.le_of_lt hx.2.2.1) (Int.le_of_lt hy.2.2.1) (key hx hy e1 e2) (key hy hx (λi=>(e1 i).symm) λi=>(e2 i).symm);have hd0:y.d≠0:=by have:=hy.2.2.1; omega
 rw [hd] at e1 e2;have ex:x.x=y.x:=Qst hx.1 hy.1 λi=>(Yq hd0 (e1 i)).symm
 have ey:x.y=y.y:=Qst hx.2.1 hy.2.1 λi=>(Yq hd0 (e2 i)).symm
 cases x; cases y;simp only at hd ex ey;rw [hd,ex,ey]
theorem Zdc (l:List Pt):(He l).Pairwise λx y=>x.c≠y.c:=by
 have key:∀ (l out:List Pt),out.Pairwise (λx y=>x.c≠y.c)->(l.foldl P6 out).Pairwise λx y=>x.c≠y.c:=by
  intro l
  induction l with
  | nil=>intro out h; exact h
  |
   cons p l ih =>
   intro out h;refine ih _ ?_;unfold P6
   split
   ·exact h
   ·rename_i hn;refine Je.2 ⟨h,V6 _ _,λa ha b hb e=>hn ?_⟩;rw [Qk.1 hb] at e;rw [List.any_eq_true];exact ⟨a,ha,by rw [<-e]; simp [Lh]⟩
 exact key l [] .nil
theorem Q8j (l:List Pt):(He l).Sublist l:=by
 have key:∀ (l out o:List Pt),out.Sublist o->(l.foldl P6 out).Sublist (o++l):=by
  intro l
  induction l with
  | nil=>intro out o h; rw [Zw]; exact h
  |
   cons p l ih =>
   intro out o h;have:(P6 out p).Sublist (o++[p]):=by
    unfold P6
    split
    ·exact h.trans (List.sublist_append_left _ _)
    ·exact h.append (List.Sublist.refl _)
   have:=ih _ _ this;rwa [Q8] at this
 exact key l [] [] (List.Sublist.refl _)
theorem Ep (f:Nat->List Int) (rows:List (List (List Int))) (q:Rat) (i:Nat):W4 (Ng f rows (i+1)) q=W4 (Ng f rows i) q+(if i % 2=0 then 1 else -1)*(W4 ((rows.getD i []).getD 0 []) q*W4 (f i) q):=by
 simp only [Ng]
 split
 ·rename_i h;have:W4 ((rows.getD i []).getD 0 []) q=0:=by rw [Qh h]; rfl
  rw [this]; grind
 ·split
  ·rw [Qjb,Us]; grind
  ·rw [Sw,Us]; grind
theorem Qyv (z:Int) (q:Rat):W4 [z] q=(z:Rat):=by simp [W4,Rat.add_zero]
theorem Qrp (p:List Int) (q:Rat):W4 (Bq 1 [[p]]) q=W4 p q:=by
 show W4 (Ng (λi=>Bq 0 (Qao [[p]] i)) [[p]] (0+1)) q=_;rw [Ep];show (0:Rat)+1*(W4 p q*W4 [1] q)=_;rw [Qyv];have:((1:Int):Rat)=1:=rfl;grind
theorem Qja (p r s t:List Int) (q:Rat):W4 (Bq 2 [[p,r],[s,t]]) q=W4 p q*W4 t q-W4 s q*W4 r q:=by
 show W4 (Ng (λi=>Bq 1 (Qao [[p,r],[s,t]] i)) [[p,r],[s,t]] (0+1+1)) q=_;rw [Ep,Ep];show (0:Rat)+1*(W4 p q*W4 (Bq 1 [[t]]) q)+(-1)*(W4 s q*W4 (Bq 1 [[r]]) q)=_;rw [Qrp,Qrp]; grind
theorem Q6x (a1 a2 a3 b1 b2 b3 c1 c2 c3:List Int) (q:Rat):W4 (Bq 3 [[a1,a2,a3],[b1,b2,b3],[c1,c2,c3]]) q=W4 a1 q*(W4 b2 q*W4 c3 q-W4 c2 q*W4 b3 q)-W4 b1 q*(W4 a2 q*W4 c3 q-W4 c2 q*W4 a3 q)+W4 c1 q*(W4 a2 q*W4 b3 q-W4 b2 q*W4 a3 q):=by
 show W4 (Ng (λi=>Bq 2 (Qao [[a1,a2,a3],[b1,b2,b3],[c1,c2,c3]] i)) [[a1,a2,a3],[b1,b2,b3],[c1,c2,c3]] (0+1+1+1)) q=_;rw [Ep,Ep,Ep];show (0:Rat)+1*(W4 a1 q*W4 (Bq 2 [[b2,b3],[c2,c3]]) q)+(-1)*(W4 b1 q*W4 (Bq 2 [[a2,a3],[c2,c3]]) q)+1*(W4 c1 q*W4 (Bq 2 [[a2,a3],[b2,b3]]) q)=_;rw [Qja,Qja,Qja]; grind
theorem Qvr {a b c:Pt} (ha:Sc a.c) (hb:Sc b.c) (hc:Sc c.c) (q:Rat):W7 (W4 (Fl a.c b.c c.c) q)=W7 (Pl (px · q) (py · q) a b c):=by
 have Lu:∀ {k:Crv},Sc k->(0:Rat)<(k.d:Rat):=λh=>by exact_mod_cast h.n.2.2.1
 have pa:=Lu ha;have pb:=Lu hb;have pc:=Lu hc;have xx:∀ {p:Pt},0<(p.c.d:Rat)->W4 p.c.x q=px p q*(p.c.d:Rat)/\W4 p.c.y q=py p q*(p.c.d:Rat):=λ{p} h=>by
  unfold px py;exact ⟨(Zc (by grind)).symm,(Zc (by grind)).symm⟩
 obtain ⟨xa,ya⟩:=xx pa;obtain ⟨xb,yb⟩:=xx pb;obtain ⟨xc,yc⟩:=xx pc;have e:W4 (Fl a.c b.c c.c) q=((a.c.d:Rat)*(b.c.d:Rat)*(c.c.d:Rat))*Pl (px · q) (py · q) a b c:=by
  unfold Fl Qri Pl;rw [Q6x,Qyv,Qyv,Qyv,xa,xb,xc,ya,yb,yc];grind
 rw [e,Ms (Xl (Xl pa pb) pc)]
def Qc1 (sg:List Int->Int) (a b c:Pt):Bool:=decide (0<Fq sg (Fl a.c b.c c.c))
def Rm (sg:List Int->Int) (row:List Pt):List Pt:=(Rx (Qc1 sg) [] row).reverse
def Cd (sg:List Int->Int) (row:List Pt):List Pt:=if row.length<3 then row else (Rm sg row).dropLast++(Rm sg row.reverse).dropLast
def Ro (l:List Pt) (a:Tm):List Pt:=Cd (Uj a) (Hy a (He l))
def Gt (C:List Pt):List (Pt×Pt):=C.zip (C.drop 1++C.take 1)
def Bj (sg:List Int->Int) (a b c:Pt):Ct:=⟨3,a.id,b.id,c.id,0,Fl a.c b.c c.c,Fq sg (Fl a.c b.c c.c)⟩
def Qaq (e:Pt×Pt) (c:Pt):Bool:=decide (c.id≠e.1.id) && decide (c.id≠e.2.id)
def Dm (sg:List Int->Int) (l:List Pt) (e:Pt×Pt):List Ct:=(l.filter (Qaq e)).map λc=>Bj sg e.1 e.2 c
def Pi (sg:List Int->Int) (l C:List Pt):List Ct:=if C.length<2 then [] else (Gt C).flatMap (Dm sg l)
def bcH (l:List Pt) (a:Tm):List Ct:=bcS l a++Pi (Uj a) l (Ro l a)
abbrev brH (l:List Pt) (a:Tm):List (List LV):=Ww (Ro l a)
def Qhf (l:List Pt):List (List Int):=l.flatMap λx=>l.flatMap λy=>l.map λz=>Fl x.c y.c z.c
theorem Qo9 {l:List Pt} {x y z:Pt} (hx:x∈l) (hy:y∈l) (hz:z∈l):Fl x.c y.c z.c∈Qhf l :=
 Zj.2 ⟨x,hx,Zj.2 ⟨y,hy,Ze.2 ⟨z,hz,rfl⟩⟩⟩
theorem Q9h {l:List Pt} (hl:∀ p∈l,Sc p.c):∀ p∈Qhf l,Cp p:=λp hp=>by
 obtain ⟨x,hx,hp⟩:=Zj.1 hp;obtain ⟨y,hy,hp⟩:=Zj.1 hp;obtain ⟨z,hz,rfl⟩:=Ze.1 hp;exact O0 (hl x hx) (hl y hy) (hl z hz)
theorem Qjg {α:Type} (s:α->α->α->Bool) (c:α):∀ st:List α,(Bt s c st).Sublist st
 | []=>List.Sublist.refl _
 | [_]=>List.Sublist.refl _
 |
  b::a::r=>by
  simp only [Bt]
  split
  ·exact List.Sublist.refl _
  ·exact (Qjg s c (a::r)).trans (List.sublist_cons_self _ _)
theorem Qbd {α:Type} {s:α->α->α->Bool}:∀ {l acc:List α} {x:α},x∈Rx s acc l->x∈acc\/x∈l
 | [],acc,x,h=>.inl h
 |
  c::l,acc,x,h=>by
  rcases Qbd (l:=l) h with h | h
  ·rcases Ql.1 h with rfl | h
   ·exact .inr (by simp)
   ·exact .inl ((Qjg s c acc).subset h)
  ·exact .inr (Qe _ h)
theorem Qbc {α:Type} (s:α->α->α->Bool):∀ (l acc:List α),(Rx s acc l).length<=acc.length+l.length
 | [],acc=>by simp [Rx]
 |
  c::l,acc=>by
  have h1:=Qbc s l (c::Bt s c acc);have h2:=(Qjg s c acc).length_le;simp only [Rx,Q6] at h1 ⊢;omega
theorem Qhy {sg:List Int->Int} {row:List Pt} {x:Pt} (h:x∈Rm sg row):x∈row:=by
 unfold Rm at h;rcases Qbd (Jd.1 h) with h | h
 ·cases h
 ·exact h
theorem Ai (sg:List Int->Int) (row:List Pt):(Rm sg row).length<=row.length:=by
 have:=Qbc (Qc1 sg) row [];unfold Rm; rw [List.length_reverse]; simpa using this
theorem Qvl {sg:List Int->Int} {row:List Pt} {x:Pt} (h:x∈Cd sg row):x∈row:=by
 unfold Cd at h
 split at h
 ·exact h
 ·rcases Qq.1 h with h | h
  ·exact Qhy ((List.dropLast_sublist _).subset h)
  ·exact Jd.1 (Qhy ((List.dropLast_sublist _).subset h))
theorem Qvk (sg:List Int->Int) (row:List Pt):(Cd sg row).length<=2*row.length:=by
 unfold Cd
 split
 ·omega
 ·have h1:=Ai sg row;have h2:=Ai sg row.reverse;rw [Xk] at h2;rw [Qw,List.length_dropLast,List.length_dropLast]; omega
theorem L9 {l:List Pt} {a:Tm} {x:Pt} (h:x∈Ro l a):x∈l:=S6 (Fx.1 (Qvl h))
theorem Qed (l:List Pt) (a:Tm):(Ro l a).length<=2*l.length:=by
 have h1:=Qvk (Uj a) (Hy a (He l));rw [Mq] at h1;have:=Aa l;unfold Ro; omega
theorem Qfr {C:List Pt} {e:Pt×Pt} (h:e∈Gt C):e.1∈C/\e.2∈C:=by
 unfold Gt at h;have h1:=List.of_mem_zip (show (e.1,e.2)∈_ from h);refine ⟨h1.1,?_⟩;rcases Qq.1 h1.2 with h | h
 ·exact Qz h
 ·exact Qn h
theorem Qul {sg:List Int->Int} {l C:List Pt} {x:Ct} (h:x∈Pi sg l C):∃ e∈Gt C,∃ c∈l,Qaq e c=true/\x=Bj sg e.1 e.2 c:=by
 unfold Pi at h
 split at h
 ·cases h
 ·obtain ⟨e,he,h⟩:=Zj.1 h;obtain ⟨c,hc,rfl⟩:=Ze.1 h;obtain ⟨h1,h2⟩:=J1.1 hc;exact ⟨e,he,c,h1,h2,rfl⟩
theorem Qmn {l:List Pt} {a:Tm}:∀ x∈bcH l a,x.p∈Cj l++Qhf l:=λx hx=>by
 rcases Qq.1 hx with hx | hx
 ·exact Xz _ (Qwj x hx)
 ·obtain ⟨e,he,c,hc,_,rfl⟩:=Qul hx;obtain ⟨h1,h2⟩:=Qfr he;exact X8 _ (Qo9 (L9 h1) (L9 h2) hc)
theorem Qgi {l:List Pt} (hl:∀ p∈l,Sc p.c):∀ p∈Cj l++Qhf l,Cp p:=λp hp=>by
 rcases Qq.1 hp with h | h
 ·exact Ad hl p h
 ·exact Q9h hl p h
theorem Qbh {α β:Type} (f:α->List β) (n:Nat):∀ (m:List α),(∀ x∈m,(f x).length≤n)->(m.flatMap f).length≤m.length*n
 | [],_=>by simp
 |
  x::m,h=>by
  have:=Qbh f n m λy hy=>h y (Qe _ hy)
  have:=h x (by simp);rw [Jn,Qw,Q6,Z5]; omega
theorem Quk (sg:List Int->Int) (l C:List Pt):(Pi sg l C).length<=C.length*l.length:=by
 unfold Pi
 split
 ·simp
 ·refine Qd (Qbh _ l.length _ λe _=>?_) (Qy _ ?_)
  ·unfold Dm; rw [List.length_map]; exact List.length_filter_le _ _
  ·unfold Gt; rw [List.length_zip]; exact Nat.min_le_left _ _
theorem Qti {l:List Pt} (hl:∀ p∈l,Sc p.c) (hn:l.length≤10):BuildOk (bcH l) :=
 ⟨λ_ _ x hx=>Qgi hl _ (Qmn x hx),λa _=>by
  have h1:=Quk (Uj a) l (Ro l a);have h2:=Qed l a;have h3:(Ro l a).length*l.length<=20*10:=Zk (by omega) hn;show (bcS l a++Pi (Uj a) l (Ro l a)).length<=1000;have h4:(bcS l a).length<=l.length:=by unfold bcS; rw [Py,Mq]; omega
  rw [Qw]; omega⟩
def Lf {α:Type} (l:List α):List (α×α):=l.zip (l.drop 1)
theorem Qnc {α:Type} {Q:α->α->Prop}:∀ {l:List α},Edg Q l↔∀ e∈Lf l,Q e.1 e.2
 | []=>by simp [Edg,Lf]
 | [_]=>by simp [Edg,Lf]
 |
  a::b::l=>by
  have ih:=Qnc (Q:=Q) (l:=b::l);have e:Lf (a::b::l)=(a,b)::Lf (b::l):=rfl;rw [e];constructor
  ·rintro ⟨h1,h2⟩ x hx
   rcases Ql.1 hx with rfl | hx
   ·exact h1
   ·exact ih.1 h2 x hx
  ·intro h;exact ⟨h (a,b) (by simp),ih.2 λx hx=>h x (Qe _ hx)⟩
theorem Qh3 {α:Type} (f z:α) (A:List α):Lf (f::A++[z])=(f::A).zip (A++[z]):=by
 unfold Lf;rw [Z6,List.drop_succ_cons,Yg];have:f::(A++[z])=(f::A)++[z]:=rfl;rw [this];have h:A++[z]=(A++[z])++[]:=(Zw _).symm
 conv=>lhs; rw [h]
 rw [List.zip_append (by simp)];simp
theorem Qqd {f z:Pt} {A B:List Pt}:Gt ((f::A++[z]).dropLast++(z::B++[f]).dropLast)=Lf (f::A++[z])++Lf (z::B++[f]):=by
 rw [Vl,Vl,Qh3,Qh3,<-List.zip_append (by simp)];unfold Gt;congr 1;simp
theorem Edg.rev {α:Type} {Q:α->α->Prop}:∀ {l:List α},Edg Q l->Edg (λa b=>Q b a) l.reverse:=by
 have app:∀ {Q:α->α->Prop} {l:List α} {b a:α},Edg Q (l++[b])->Q b a->Edg Q (l++[b]++[a]):=by
  intro Q l
  induction l with
  | nil=>intro b a _ h; exact ⟨h,trivial⟩
  |
   cons x l ih =>
   intro b a h h2;cases l with
   | nil=>exact ⟨h.1,ih h.2 h2⟩
   | cons y l=>exact ⟨h.1,ih h.2 h2⟩
 intro l
 induction l with
 | nil=>intro _; trivial
 |
  cons a l ih =>
  intro h;cases l with
  | nil=>trivial
  |
   cons b l =>
   have:=ih h.2;rw [J7] at this ⊢;rw [J7];exact app this h.1
theorem Cnv.rev {α:Type} {R:α->α->α->Prop}:∀ {l:List α},Cnv R l->Cnv (λa b c=>R c b a) l.reverse:=by
 have app:∀ {R:α->α->α->Prop} {l:List α} {c b a:α},Cnv R (l++[c,b])->R c b a->Cnv R (l++[c,b,a]):=by
  intro R l
  induction l with
  | nil=>intro c b a _ h; exact ⟨h,trivial⟩
  |
   cons x l ih =>
   intro c b a h h2;cases l with
   | nil=>exact ⟨h.1,ih h.2 h2⟩
   |
    cons y l =>
    cases l with
    | nil=>exact ⟨h.1,ih h.2 h2⟩
    | cons w l=>exact ⟨h.1,ih h.2 h2⟩
 intro l
 induction l with
 | nil=>intro _; trivial
 |
  cons a l ih =>
  intro h
  match l,h with
  | [],_=>trivial
  | [_],_=>trivial
  |
   b::c::l,h =>
   have:=ih h.2;rw [J7,J7,Q8] at this;rw [J7,J7,J7,Q8,Q8];exact app this h.1
section
variable {α:Type} {lt lt':α->α->Bool}
theorem Qjh {out:List α} {x:α} (h:∀ y∈out,lt x y=lt' x y):∀ k,Ca lt out x k=Ca lt' out x k
 | 0=>rfl
 |
  k+1=>by
  simp only [Ca];cases hy:out[k]? with
  | none=>rfl
  | some y=>simp only [h y (Qa hy),Qjh h k]
theorem Qft {l:List α} (h:∀ u∈l,∀ v∈l,lt u v=lt' u v):∀ (m out:List α),(∀ x∈m,x∈l)->(∀ x∈out,x∈l)->m.foldl (B5 lt) out=m.foldl (B5 lt') out
 | [],_,_,_=>rfl
 |
  x::m,out,h1,h2=>by
  have e:B5 lt out x=B5 lt' out x:=by
   unfold B5; rw [Qjh λy hy=>h x (h1 x (by simp)) y (h2 y hy)]
  simp only [Z4];rw [e];exact Qft h m _ (λy hy=>h1 y (Qe _ hy)) λy hy=>by
   rcases Qcy.1 hy with rfl | hy
   ·exact h1 _ (by simp)
   ·exact h2 y hy
end
theorem Qvm {a:Tm} {l:List Pt} {q:Rat} (hb:∀ u∈l,∀ v∈l,(Hk (Uj a) u v=true↔Mz q u v)) (hd:l.Pairwise λx y=>x.id≠y.id):(Hy a l).Pairwise (Mz q) :=
 Qii (S:=λx=>x∈l) (D:=λx y=>x.id≠y.id) (O6 q) (λu v hu hv h=>(hb u hu v hv).1 h) (λu v hu hv hne h=>Qqz (λe=>hne e.symm) λh'=>by
  rw [(hb u hu v hv).2 h'] at h; cases h) l [] .nil (λx hx=>by cases hx) (λx hx=>hx) hd (λx hx=>by cases hx)
theorem Zg1 {a:Tm} (ha:Va a) {u v:Pt} (hu:Sc u.c) (hv:Sc v.c) {q:Rat} (h1:Fq (Uj a) (Uu u.c v.c)=W7 (W4 (Uu u.c v.c) q)) (h2:Fq (Uj a) (Ut u.c v.c)=W7 (W4 (Ut u.c v.c) q)) (hne:u.c≠v.c) (h:Mz q u v):lx (px · q) (py · q) u v:=by
 rcases h with h | ⟨h,h3⟩
 ·exact .inl h
 rcases h3 with h3 | ⟨h3,_⟩
 ·exact .inr ⟨h,h3⟩
 ·exfalso;rw [Qfc hu hv] at h1;rw [Qfb hu hv] at h2;have z1:W7 (px v q-px u q)=0:=Ux.2 (by grind);have z2:W7 (py v q-py u q)=0:=Ux.2 (by grind);rw [z1] at h1;rw [z2] at h2;have e1:(Uu u.c v.c).length=0:=Decidable.byContradiction λe=>(Co ha (Sp hu hv).dp e).2 h1
  have e2:(Ut u.c v.c).length=0:=Decidable.byContradiction λe=>(Co ha (So hu hv).dp e).2 h2
  exact hne (Zb6 hu.n hv.n (Qh e1) (Qh e2))
structure LowC (X Y:Pt->Rat) (R L:List Pt):Prop where
 hd:L.head? = R.head?
 la:L.getLast? = R.getLast?
 srt:L.Pairwise (lx X Y)
 mem:∀ p∈L,p∈R
 edg:Edg (λa b=>∀ p∈R,0≤Pl X Y a b p) L
 cnv:Cnv (λa b c=>0<Pl X Y a b c) L
theorem Qkp {X Y:Pt->Rat} {sg:List Int->Int} {R:List Pt} (hs:∀ a∈R,∀ b∈R,∀ c∈R,(Qc1 sg a b c=true↔0<Pl X Y a b c)) (hR:R.Pairwise (lx X Y)) (h0:R≠[]):LowC X Y R (Rm sg R):=by
 cases R with
 | nil=>exact absurd rfl h0
 |
  cons f R =>
  obtain ⟨t,st,g1,g2,g3,g4⟩:=Qkq hs hR R [f] f [] rfl ⟨V6 _ _,λp hp=>by rw [Qk.1 hp]; simp,trivial,trivial⟩ rfl rfl;have e:Rm sg (f::R)=(t::st).reverse:=by
   unfold Rm;rw [<-g1]; rfl
  rw [e];exact ⟨by rw [List.head?_reverse,g4],by rw [List.getLast?_reverse]; exact g3.symm,Kg.2 g2.srt,λp hp=>g2.mem p (Jd.1 hp),g2.edg.rev,g2.cnv.rev⟩
theorem Zhr {X Y:Pt->Rat} {R:List Pt} (hR:R.Pairwise (lx X Y)):∀ p∈R,∀ q∈R,p=q\/lx X Y p q\/lx X Y q p:=λp hp q hq=>by
 by_cases e:p=q
 ·exact .inl e
 ·exact .inr (Ql1 hR hp hq e)
theorem Q52 {X Y:Pt->Rat} {R L L':List Pt} (hR:R.Pairwise (lx X Y)) (h:LowC X Y R L) (h':LowC X Y R L'):L=L':=by
 have hh:=h.hd.trans h'.hd.symm;have hl:=h.la.trans h'.la.symm;cases L with
 |
  nil=>cases L' with
  | nil=>rfl
  | cons _ _=>simp at hh
 |
  cons f M=>cases L' with
  | nil=>simp at hh
  |
   cons f' M' =>
   simp at hh;subst hh;obtain ⟨z,hz⟩:∃ z,(f::M).getLast? = some z:=⟨_,Ya (by simp)⟩;rw [Q34 (Zhr hR) M M' f h.srt h'.srt h.mem h'.mem h.edg h'.edg h.cnv h'.cnv hz (hl ▸ hz)]
theorem Qsg {x y:Rat} (h:W7 x=W7 y):(0<=x->0<=y)/\(0<x->0<y):=by
 have h1:=Um x;have h2:=Um y;grind
theorem Qpx {X Y X' Y':Pt->Rat} {R:List Pt}:∀ {L:List Pt},(∀ p∈L,p∈R)->(∀ e∈Lf L,∀ p∈R,W7 (Pl X Y e.1 e.2 p)=W7 (Pl X' Y' e.1 e.2 p))->Cnv (λa b c=>0<Pl X Y a b c) L->Cnv (λa b c=>0<Pl X' Y' a b c) L
 | [],_,_,_=>trivial
 | [_],_,_,_=>trivial
 | [_,_],_,_,_=>trivial
 | a::b::c::l,hm,he,h=>⟨(Qsg (he (a,b) (by simp [Lf]) c (hm c (by simp)))).2 h.1,Qpx (λp hp=>hm p (Qe _ hp)) (λe hx=>he e (Qe _ hx)) h.2⟩
theorem Qq0 {X Y X' Y':Pt->Rat} {R L:List Pt} (h:LowC X Y R L) (hl:∀ u∈R,∀ v∈R,lx X Y u v->lx X' Y' u v) (he:∀ e∈Lf L,∀ p∈R,W7 (Pl X Y e.1 e.2 p)=W7 (Pl X' Y' e.1 e.2 p)):LowC X' Y' R L :=
 ⟨h.hd,h.la,h.srt.imp_of_mem λhu hv h'=>hl _ (h.mem _ hu) _ (h.mem _ hv) h',h.mem,Qnc.2 λe hx p hp=>(Qsg (he e hx p hp)).1 (Qnc.1 h.edg e hx p hp),Qpx h.mem he h.cnv⟩
theorem Qn1 (X Y:Pt->Rat) (a b c:Pt):Pl (λp=>-X p) (λp=>-Y p) a b c=Pl X Y a b c:=by unfold Pl; grind
theorem Qnt {X Y:Pt->Rat} {a b:Pt}:lx (λp=>-X p) (λp=>-Y p) a b↔lx X Y b a:=by unfold lx; grind
theorem Ze1 {L:List Pt} {f z:Pt} (h1:L.head? = some f) (h2:L.getLast? = some z) (hne:f≠z):∃ A,L=f::A++[z]:=by
 cases L with
 | nil=>cases h1
 |
  cons g M =>
  simp at h1;subst h1;cases M with
  | nil=>simp at h2; exact absurd h2 hne
  |
   cons x M =>
   rw [Jm] at h2;obtain ⟨A,hA⟩:=Yu.1 h2;exact ⟨A,by rw [hA]; rfl⟩
theorem Qig {α β:Type} {f g:α->List β}:∀ {m:List α},(∀ x∈m,f x=g x)->m.flatMap f=m.flatMap g
 | [],_=>rfl
 | x::m,h=>by rw [Jn,Jn,h x (by simp),Qig λy hy=>h y (Qe _ hy)]
theorem Qqq {sa sb:List Int->Int} {l C:List Pt} (h:∀ x∈Pi sa l C,Fq sb x.p=Fq sa x.p):Pi sb l C=Pi sa l C:=by
 by_cases h2:C.length<2
 ·unfold Pi; rw [if_pos h2,if_pos h2]
 ·have e:∀ s,Pi s l C=(Gt C).flatMap (Dm s l):=λs=>if_neg h2
  rw [e] at h ⊢;rw [e];refine Qig λx hx=>Xv λc hc=>?_
  have:=h (Bj sa x.1 x.2 c) (Zj.2 ⟨x,hx,Ku hc⟩);show (⟨3,x.1.id,x.2.id,c.id,0,Fl x.1.c x.2.c c.c,Fq sb (Fl x.1.c x.2.c c.c)⟩:Ct)=⟨3,x.1.id,x.2.id,c.id,0,Fl x.1.c x.2.c c.c,Fq sa (Fl x.1.c x.2.c c.c)⟩;have this:Fq sb (Fl x.1.c x.2.c c.c)=Fq sa (Fl x.1.c x.2.c c.c):=this;rw [this]
theorem Qzh {l:List Pt} (hd:l.Pairwise λx y=>x.id≠y.id) {u v:Pt} (hu:u∈l) (hv:v∈l) (h:u.id=v.id):u=v:=by
 refine Classical.byContradiction λe=>?_
 rcases Ql1 hd hu hv e with h' | h'
 ·exact h' h
 ·exact h' h.symm
structure Soon (l:List Pt) (a:Tm) (q:Rat):Prop where
 g:∀ p∈Cj l++Qhf l,Fq (Uj a) p=W7 (W4 p q)
 b:∀ u∈l,∀ v∈l,(Hk (Uj a) u v=true↔Mz q u v)
 o:∀ u∈l,∀ v∈l,∀ w∈l,Fq (Uj a) (Fl u.c v.c w.c)=W7 (Pl (px · q) (py · q) u v w)
 t:∀ u∈l,∀ v∈l,∀ w∈l,(Qc1 (Uj a) u v w=true↔0<Pl (px · q) (py · q) u v w)
 r:(Hy a (He l)).Pairwise (lx (px · q) (py · q))
theorem Q72 {l:List Pt} (hl:∀ p∈l,Sc p.c) (hd:l.Pairwise λx y=>x.id≠y.id) {a:Tm} (ha:Va a):∃ y,Ue a y=-1/\∀ q,Ue a q=-1->q≤y->Soon l a q:=by
 obtain ⟨y,y1,y2⟩:=Iq ha (Cj l++Qhf l) λp hp=>(Qgi hl p hp).dp
 refine ⟨y,y1,λq q1 q2=>?_⟩;have g:=y2 q q1 q2;have gP:=λp hp=>g p (Xz _ hp)
 have b:∀ u∈l,∀ v∈l,(Hk (Uj a) u v=true↔Mz q u v):=λu hu v hv=>Qhl ha (hl u hu) (hl v hv) (gP _ (Hr hu hv).1) (gP _ (Hr hu hv).2)
 have o:∀ u∈l,∀ v∈l,∀ w∈l,Fq (Uj a) (Fl u.c v.c w.c)=W7 (Pl (px · q) (py · q) u v w):=λu hu v hv w hw=>by
  rw [g _ (X8 _ (Qo9 hu hv hw)),Qvr (hl u hu) (hl v hv) (hl w hw)]
 refine ⟨g,b,o,λu hu v hv w hw=>?_,?_⟩
 ·unfold Qc1;rw [o u hu v hv w hw,decide_eq_true_eq];have:=Um (Pl (px · q) (py · q) u v w);grind
 ·have hw:∀ u∈He l,u∈l:=λu hu=>S6 hu
  have h1:=Qvm (a:=a) (l:=He l) (q:=q) (λu hu v hv=>b u (hw u hu) v (hw v hv)) (List.Pairwise.sublist (Q8j l) hd);have h2:(Hy a (He l)).Pairwise λx y=>x.c≠y.c:=(List.Perm.pairwise_iff (λ{x y} h e=>h e.symm) (Qvw (lt:=Hk (Uj a)) (He l))).2 (Zdc l)
  refine (h1.and h2).imp_of_mem λ{u v} hu hv h=>?_
  have hu:=hw u (Fx.1 hu);have hv:=hw v (Fx.1 hv);exact Zg1 ha (hl u hu) (hl v hv) (gP _ (Hr hu hv).1) (gP _ (Hr hu hv).2) h.2 h.1
theorem Qzj {l:List Pt} (hl:∀ p∈l,Sc p.c) (hd:l.Pairwise λx y=>x.id≠y.id) {a:Tm} (ha:Va a):∃ q,Soon l a q :=
 let ⟨y,h1,h2⟩:=Q72 hl hd ha
 ⟨y,h2 y h1 Qo⟩
theorem Qh4 {l:List Pt} {a:Tm} {q:Rat} (S:Soon l a q) (h3:3<=(Hy a (He l)).length):∃ f z A B,Rm (Uj a) (Hy a (He l))=f::A++[z]/\Rm (Uj a) (Hy a (He l)).reverse=z::B++[f]/\LowC (px · q) (py · q) (Hy a (He l)) (f::A++[z])/\LowC (λp=>-px p q) (λp=>-py p q) (Hy a (He l)).reverse (z::B++[f])/\Gt (Ro l a)=Lf (f::A++[z])++Lf (z::B++[f])/\2<=(Ro l a).length:=by
 obtain ⟨R,hR⟩:=nmE (Hy a (He l));have hm:∀ x∈R,x∈l:=λx hx=>by rw [hR] at hx; exact S6 (Fx.1 hx)
 have r:=S.r;rw [<-hR] at r h3 ⊢;have h0:R≠[]:=λe=>by rw [e] at h3; simp at h3
 have c1:=Qkp (sg:=Uj a) (λu hu v hv w hw=>S.t u (hm u hu) v (hm v hv) w (hm w hw)) r h0;have r2:R.reverse.Pairwise (lx (λp=>-px p q) (λp=>-py p q)):=Kg.2 (r.imp λh=>Qnt.2 h);have c2:=Qkp (sg:=Uj a) (R:=R.reverse) (X:=λp=>-px p q) (Y:=λp=>-py p q) (λu hu v hv w hw=>by
  rw [Qn1 (px · q) (py · q)];exact S.t u (hm u (Jd.1 hu)) v (hm v (Jd.1 hv)) w (hm w (Jd.1 hw))) r2 (by simpa using h0)
 obtain ⟨f,hf⟩:∃ f,R.head? = some f:=by cases R with
  | nil=>exact absurd rfl h0
  | cons f _=>exact ⟨f,rfl⟩
 obtain ⟨z,hz⟩:∃ z,R.getLast? = some z:=⟨_,Ya h0⟩;have hne:f≠z:=λe=>by
  subst e;cases R with
  | nil=>exact absurd rfl h0
  |
   cons g M =>
   simp at hf; subst hf;cases M with
   | nil=>simp at h3
   |
    cons x M =>
    rw [Jm] at hz;exact B6 _ ((Za.1 r).1 g (Vo hz))
 obtain ⟨A,hA⟩:=Ze1 (c1.hd.trans hf) (c1.la.trans hz) hne;obtain ⟨B,hB⟩:=Ze1 (c2.hd.trans (by rw [List.head?_reverse]; exact hz)) (c2.la.trans (by rw [List.getLast?_reverse]; exact hf)) (Ne.symm hne);have hc:Ro l a=(f::A++[z]).dropLast++(z::B++[f]).dropLast:=by
  unfold Ro Cd;rw [<-hR,if_neg (by omega),hA,hB]
 rw [hA] at c1;rw [hB] at c2;refine ⟨f,z,A,B,hA,hB,c1,c2,by rw [hc]; exact Qqd,?_⟩;rw [hc,Vl,Vl];simp; omega
theorem Q0w {l:List Pt} (hl:∀ p∈l,Sc p.c) (hd:l.Pairwise λx y=>x.id≠y.id) {a b:Tm} (ha:Va a) (hb:Va b) (h:∀ x∈bcH l a,Fq (Uj b) x.p=Fq (Uj a) x.p):Ro l b=Ro l a/\bcH l b=bcH l a:=by
 obtain ⟨q,Sa⟩:=Qzj hl hd ha;obtain ⟨r,Sb⟩:=Qzj hl hd hb;obtain ⟨k1,k2⟩:=Qsc hl hd ha hb λx hx=>h x (Xz _ hx)
 have pa:=Qvm Sa.b hd;have pb:=Qvm Sb.b hd;rw [k1] at pb;have pab:=pa.and pb;have lexs:∀ u∈l,∀ v∈l,(Mz q u v↔Mz r u v):=λu hu v hv=>by
  by_cases e:u=v
  ·subst e; exact ⟨λh=>absurd h (Iz _ _),λh=>absurd h (Iz _ _)⟩
  ·rcases Ql1 pab (Fx.2 hu) (Fx.2 hv) e with h' | h'
   ·exact ⟨λ_=>h'.2,λ_=>h'.1⟩
   ·exact ⟨λh=>absurd (O6 _ _ _ _ h h'.1) (Iz _ _),λh=>absurd (O6 _ _ _ _ h h'.2) (Iz _ _)⟩
 have bef:∀ u∈l,∀ v∈l,Hk (Uj b) u v=Hk (Uj a) u v:=λu hu v hv=>by
  have h1:=Sa.b u hu v hv;have h2:=Sb.b u hu v hv;have h3:=lexs u hu v hv;cases e1:Hk (Uj a) u v <;> cases e2:Hk (Uj b) u v <;> rw [e1] at h1 <;> rw [e2] at h2 <;> simp_all
 have eR:Hy b (He l)=Hy a (He l):=Qft (l:=He l) (λu hu v hv=>bef u (S6 hu) v (S6 hv)) (He l) [] (λx hx=>hx) λx hx=>by cases hx
 have hm:∀ x∈Hy a (He l),x∈l:=λx hx=>S6 (Fx.1 hx)
 have rb:=Sb.r;rw [eR] at rb;have hc:Ro l b=Ro l a:=by
  by_cases h3:(Hy a (He l)).length<3
  ·unfold Ro Cd;rw [eR,if_pos h3,if_pos h3]
  ·obtain ⟨f,z,A,B,hA,hB,c1,c2,hE,hC2⟩:=Qh4 Sa (by omega);obtain ⟨f',z',A',B',hA',hB',c1',c2',hE',_⟩:=Qh4 Sb (by rw [eR]; omega);rw [eR] at hA' hB' c1' c2';have sgs:∀ e∈Gt (Ro l a),∀ p∈Hy a (He l),W7 (Pl (px · q) (py · q) e.1 e.2 p)=W7 (Pl (px · r) (py · r) e.1 e.2 p):=λe he p hp=>by
    obtain ⟨m1,m2⟩:=Qfr he;have m1:=L9 m1;have m2:=L9 m2;have m3:=hm p hp;by_cases ho:Qaq e p=true
    ·have hx:Bj (Uj a) e.1 e.2 p∈bcH l a:=by
      refine X8 _ ?_;unfold Pi;rw [if_neg (by omega)];exact Zj.2 ⟨e,he,Ku (J1.2 ⟨m3,ho⟩)⟩
     have hg:Fq (Uj b) (Fl e.1.c e.2.c p.c)=Fq (Uj a) (Fl e.1.c e.2.c p.c):=h _ hx;rw [<-Sa.o _ m1 _ m2 _ m3,<-Sb.o _ m1 _ m2 _ m3,hg]
    ·have hz:∀ X Y:Pt->Rat,Pl X Y e.1 e.2 p=0:=λX Y=>by
      by_cases e1:p.id=e.1.id
      ·rw [Qzh hd m3 m1 e1]; exact (Qc9 _ _).1
      ·by_cases e2:p.id=e.2.id
       ·rw [Qzh hd m3 m2 e2]; exact (Qc9 _ _).2
       ·exact absurd (by simp [Qaq,e1,e2]) ho
     rw [hz,hz]
   have hlx:∀ u∈Hy a (He l),∀ v∈Hy a (He l),lx (px · q) (py · q) u v->lx (px · r) (py · r) u v:=λu hu v hv huv=>by
    have ra:=Sa.r;by_cases e:u=v
    ·subst e; exact absurd huv (B6 _)
    ·rcases Ql1 (ra.and rb) hu hv e with h' | h'
     ·exact h'.2
     ·exact absurd (Qq3 huv h'.1) (B6 _)
   have e1:=Q52 rb (Qq0 c1 hlx λe he=>sgs e (by rw [hE]; exact Xz _ he)) c1';have rb2:(Hy a (He l)).reverse.Pairwise (lx (λp=>-px p r) (λp=>-py p r)):=Kg.2 (rb.imp λh=>Qnt.2 h);have e2:=Q52 rb2 (Qq0 c2 (λu hu v hv huv=>Qnt.2 (hlx v (Jd.1 hv) u (Jd.1 hu) (Qnt.1 huv))) λe he p hp=>by
    rw [Qn1 (px · q) (py · q),Qn1 (px · r) (py · r)];exact sgs e (by rw [hE]; exact X8 _ he) p (Jd.1 hp)) c2'
   unfold Ro Cd;rw [eR,if_neg h3,if_neg h3,hA,hB,hA',hB',e1,e2]
 refine ⟨hc,?_⟩;unfold bcH;rw [hc,k2,Qqq λx hx=>h x (X8 _ hx)]
theorem Zkl {l:List Pt} (hl:∀ p∈l,Sc p.c) (hn:l.length≤10) (hd:l.Pairwise λx y=>x.id≠y.id):Stab (bcH l) (brH l):=by
 refine ⟨Qti hl hn,⟨Cj l++Qhf l,Qgi hl,λa _ x hx=>Qmn x hx⟩,λa b ha hb h=>?_⟩;obtain ⟨e1,e2⟩:=Q0w hl hd ha hb h;exact ⟨e2,by show Ww _=Ww _; rw [e1]⟩
end Orq
namespace Orq
open Orr Go
theorem Qbf {a b c d:Crv} (ha:Sc a) (hb:Sc b) (hc:Sc c) (hd:Sc d):Cp (Fw a b c d):=by
 have lr:∀ {a b:Crv},Sc a->Sc b->(Uu a b).length<=3/\(Ut a b).length<=3:=λ{a b} ha hb=>by
  have:=Su (Uv b.x a.d) (Uv a.x b.d); have:=Un b.x a.d; have:=Un a.x b.d;have:=Su (Uv b.y a.d) (Uv a.y b.d); have:=Un b.y a.d; have:=Un a.y b.d;have:=ha.c.lx; have:=hb.c.lx; have:=ha.c.ly; have:=hb.c.ly;unfold Uu Ut; omega
 have ap:∀ {a b:Crv},Sc a->Sc b->(H7 a b).length<=5/\Bd 517 (H7 a b):=λ{a b} ha hb=>by
  obtain ⟨l1,l2⟩:=lr ha hb;have b1:Bd 257 (Uu a b):=Nn (Uw hb.c.x ha.c.d) (Uw ha.c.x hb.c.d);have b2:Bd 257 (Ut a b):=Nn (Uw hb.c.y ha.c.d) (Uw ha.c.y hb.c.d);have q1:=Tt (u:=2) b1 b1 (by omega);have q2:=Tt (u:=2) b2 b2 (by omega);refine ⟨?_,Wx (Qcd q1 q2) (by omega)⟩;have:=Ix (U5 (Uu a b) (Uu a b)) (U5 (Ut a b) (Ut a b));have:=Rh (Uu a b) (Uu a b); have:=Rh (Ut a b) (Ut a b);unfold H7; omega
 have dd:∀ {a b:Crv},Sc a->Sc b->Ug ((a.d*b.d)*(a.d*b.d))<=512:=λ{a b} ha hb=>by
  have:=Fz a.d b.d; have:=Fz (a.d*b.d) (a.d*b.d); have:=ha.c.d; have:=hb.c.d; omega
 obtain ⟨l1,b1⟩:=ap hc hd;obtain ⟨l2,b2⟩:=ap ha hb;refine ⟨Ur _ _,?_,Wx (Nn (Uw b1 (dd ha hb)) (Uw b2 (dd hc hd))) (by omega)⟩;have:=Su (Uv (H7 c d) ((a.d*b.d)*(a.d*b.d))) (Uv (H7 a b) ((c.d*d.d)*(c.d*d.d)));have:=Un (H7 c d) ((a.d*b.d)*(a.d*b.d)); have:=Un (H7 a b) ((c.d*d.d)*(c.d*d.d));unfold Fw; omega
def dsq (m:Pt×Pt) (q:Rat):Rat:=(px m.2 q-px m.1 q)*(px m.2 q-px m.1 q)+(py m.2 q-py m.1 q)*(py m.2 q-py m.1 q)
theorem Zbe {a b c d:Pt} (ha:Sc a.c) (hb:Sc b.c) (hc:Sc c.c) (hd:Sc d.c) (q:Rat):W7 (W4 (Fw a.c b.c c.c d.c) q)=W7 (dsq (c,d) q-dsq (a,b) q):=by
 have Lu:∀ {z:Int},0<z->(0:Rat)<(z:Rat):=λ{z} h=>by exact_mod_cast h
 have pa:=Lu ha.n.2.2.1;have pb:=Lu hb.n.2.2.1;have pc:=Lu hc.n.2.2.1;have pd:=Lu hd.n.2.2.1;have xx:∀ {p:Pt},0<(p.c.d:Rat)->W4 p.c.x q=px p q*(p.c.d:Rat)/\W4 p.c.y q=py p q*(p.c.d:Rat):=λ{p} h=>by
  unfold px py;exact ⟨(Zc (by grind)).symm,(Zc (by grind)).symm⟩
 obtain ⟨xa,ya⟩:=xx pa;obtain ⟨xb,yb⟩:=xx pb;obtain ⟨xc,yc⟩:=xx pc;obtain ⟨xd,yd⟩:=xx pd;have e:W4 (Fw a.c b.c c.c d.c) q=(((a.c.d:Rat)*b.c.d)*((a.c.d:Rat)*b.c.d))*(((c.c.d:Rat)*d.c.d)*((c.c.d:Rat)*d.c.d))*(dsq (c,d) q-dsq (a,b) q):=by
  unfold Fw H7 Uu Ut dsq;simp only [Sw,Gq,Qjb,Us,Jp];rw [xa,xb,xc,xd,ya,yb,yc,yd];grind
 rw [e,Ms];have h1:=Xl pa pb;have h2:=Xl pc pd;exact Xl (Xl h1 h1) (Xl h2 h2)
def Qj3 (l:List Pt):List (List Int):=l.flatMap λa=>l.flatMap λb=>l.flatMap λc=>l.map λd=>Fw a.c b.c c.c d.c
theorem Qhe {l:List Pt} {a b c d:Pt} (ha:a∈l) (hb:b∈l) (hc:c∈l) (hd:d∈l):Fw a.c b.c c.c d.c∈Qj3 l :=
 Zj.2 ⟨a,ha,Zj.2 ⟨b,hb,Zj.2 ⟨c,hc,Ze.2 ⟨d,hd,rfl⟩⟩⟩⟩
theorem Qca {l:List Pt} (hl:∀ p∈l,Sc p.c):∀ p∈Qj3 l,Cp p:=λp hp=>by
 obtain ⟨a,ha,hp⟩:=Zj.1 hp;obtain ⟨b,hb,hp⟩:=Zj.1 hp;obtain ⟨c,hc,hp⟩:=Zj.1 hp;obtain ⟨d,hd,rfl⟩:=Ze.1 hp;exact Qbf (hl a ha) (hl b hb) (hl c hc) (hl d hd)
theorem Qxr {l:List Pt} (hl:∀ p∈l,Sc p.c) {a:Tm} (ha:Va a):∃ y,Ue a y=-1/\∀ q,Ue a q=-1->q≤y->∀ s m:Pt×Pt,s.1∈l->s.2∈l->m.1∈l->m.2∈l->Fq (Uj a) (Fw s.1.c s.2.c m.1.c m.2.c)=W7 (dsq m q-dsq s q):=by
 obtain ⟨y,y1,y2⟩:=Iq ha (Qj3 l) λp hp=>(Qca hl p hp).dp
 refine ⟨y,y1,λq q1 q2 s m h1 h2 h3 h4=>?_⟩;rw [y2 q q1 q2 _ (Qhe h1 h2 h3 h4),Zbe (hl _ h1) (hl _ h2) (hl _ h3) (hl _ h4)]
def Ny (f:Pt×Pt->Rat) (P:List (Pt×Pt)) (r:Pt×Pt):Prop:=∃ P1 P2,P=P1++r::P2/\(∀ m∈P1,f r<f m)/\∀ m∈P2,f r≤f m
theorem Qk6 {f:Pt×Pt->Rat}:∀ {P:List (Pt×Pt)} {r r':Pt×Pt},Ny f P r->Ny f P r'->r=r'
 | [],r,r',⟨P1,P2,h,_⟩,_=>by simp at h
 |
  x::P,r,r',⟨P1,P2,h,h1,h2⟩,⟨Q1,Q2,h',h1',h2'⟩=>by
  cases P1 with
  |
   nil =>
   simp at h;cases Q1 with
   | nil=>simp at h'; exact h.1.symm.trans h'.1
   |
    cons y Q1 =>
    simp at h';exfalso;obtain ⟨rfl,rfl⟩:=h;obtain ⟨rfl,rfl⟩:=h';have a1:=h1' x (by simp);have a2:=h2 r' (by simp);grind
  |
   cons y P1 =>
   simp at h;cases Q1 with
   |
    nil =>
    simp at h';exfalso;obtain ⟨rfl,rfl⟩:=h;obtain ⟨rfl,rfl⟩:=h';have a1:=h1 x (by simp);have a2:=h2' r (by simp);grind
   |
    cons z Q1 =>
    simp at h h';exact Qk6 (P:=P) ⟨P1,P2,h.2,λm hm=>h1 m (by simp [hm]),h2⟩ ⟨Q1,Q2,h'.2,λm hm=>h1' m (by simp [hm]),h2'⟩
theorem Zbf {f:Pt×Pt->Rat} {P:List (Pt×Pt)} {r m:Pt×Pt} (h:Ny f P r):Ny f (P++[m]) (if f m<f r then m else r):=by
 obtain ⟨P1,P2,rfl,h1,h2⟩:=h;by_cases e:f m<f r
 ·rw [if_pos e];refine ⟨P1++r::P2,[],rfl,λx hx=>?_,λx hx=>by cases hx⟩;rcases Qq.1 hx with hx | hx
  ·have:=h1 x hx; grind
  ·rcases Ql.1 hx with rfl | hx
   ·exact e
   ·have:=h2 x hx; grind
 ·rw [if_neg e];refine ⟨P1,P2++[m],by simp,h1,λx hx=>?_⟩;rcases Qq.1 hx with hx | hx
  ·exact h2 x hx
  ·rw [Qk.1 hx]; grind
theorem Qxu {f:Pt×Pt->Rat} {sg:List Int->Int} {l:List Pt} (hg:∀ s m:Pt×Pt,s.1∈l->s.2∈l->m.1∈l->m.2∈l->Fq sg (Fw s.1.c s.2.c m.1.c m.2.c)=W7 (f m-f s)):∀ (ps P:List (Pt×Pt)) (s:Pt×Pt),s.1∈l/\s.2∈l->(∀ m∈ps,m.1∈l/\m.2∈l)->Ny f P s->Ny f (P++ps) (Fu sg s ps)
 | [],P,s,_,_,h=>by rw [Zw]; exact h
 |
  m::ps,P,s,hs,hp,h=>by
  rw [Aw];have hm:=hp m (by simp);have e:Rz sg s m=if f m<f s then m else s:=by
   unfold Rz;rw [hg s m hs.1 hs.2 hm.1 hm.2];have:=Um (f m-f s);by_cases h:f m<f s
   ·rw [if_pos h,if_pos (by grind)]
   ·rw [if_neg h,if_neg (by grind)]
  have hn:(Rz sg s m).1∈l/\(Rz sg s m).2∈l:=by
   rcases Qex sg s m with e | e <;> rw [e] <;> assumption
  have:=Qxu hg ps (P++[m]) (Rz sg s m) hn (λx hx=>hp x (Qe _ hx)) (by rw [e]; exact Zbf h);rwa [Q8] at this
theorem Qu2 (a b:Pt) (l:List Pt):∃ P,Uy (a::b::l)=(a,b)::P:=⟨_,rfl⟩
theorem Qym {f:Pt×Pt->Rat} {sg:List Int->Int} {a b:Pt} {l:List Pt} (hg:∀ s m:Pt×Pt,s.1∈a::b::l->s.2∈a::b::l->m.1∈a::b::l->m.2∈a::b::l->Fq sg (Fw s.1.c s.2.c m.1.c m.2.c)=W7 (f m-f s)):Ny f (Uy (a::b::l)) (Fu sg (a,b) (Uy (a::b::l))):=by
 obtain ⟨P,hP⟩:=Qu2 a b l;have hm:=H6 (a::b::l).length (a::b::l);have hm:∀ m∈Uy (a::b::l),m.1∈a::b::l/\m.2∈a::b::l:=hm;rw [hP] at hm ⊢;have h:=Qxu hg P [(a,b)] (a,b) (hm (a,b) (by simp)) (λm h=>hm m (by simp [h])) ⟨[],[],rfl,λm h=>(by cases h),λm h=>(by cases h)⟩;rw [Aw];have e:Rz sg (a,b) (a,b)=(a,b):=by rcases Qex sg (a,b) (a,b) with e | e <;> exact e
 rw [e]; exact h
theorem Qzi {l:List Pt} (hd:l.Pairwise λx y=>x.id≠y.id) {u v:Pt} (hu:u∈l) (hv:v∈l) (h:u.id=v.id):u=v:=by
 by_cases e:u=v
 ·exact e
 ·rcases Ql1 hd hu hv e with h' | h'
  ·exact absurd h h'
  ·exact absurd h.symm h'
theorem Q1d {l:List Pt} (hl:∀ p∈l,Sc p.c) (hd:l.Pairwise λx y=>x.id≠y.id) {a b:Tm} (ha:Va a) (hb:Va b) (h:∀ x∈Bn (Uj a) l,Fq (Uj b) x.p=Fq (Uj a) x.p):I8 (Uj b) l=I8 (Uj a) l/\Bn (Uj b) l=Bn (Uj a) l:=by
 match l,hl,hd,h with
 | [],_,_,_=>exact ⟨rfl,rfl⟩
 | [x],_,_,_=>exact ⟨rfl,rfl⟩
 |
  u::v::l',hl,hd,h =>
  obtain ⟨y,y1,y2⟩:=Qxr hl ha;obtain ⟨z,z1,z2⟩:=Qxr hl hb;have ga:=y2 y y1 Qo;have gb:=z2 z z1 Qo;have fa:=Qym (f:=λm=>dsq m y) ga;have fb:=Qym (f:=λm=>dsq m z) gb;simp only [I8,Bn] at h ⊢;have hm:∀ m∈Uy (u::v::l'),m.1∈u::v::l'/\m.2∈u::v::l':=H6 _ _;generalize u::v::l'=l at *;obtain ⟨r,hr⟩:=nmE (Fu (Uj a) (u,v) (Uy l));rw [<-hr] at fa h ⊢;obtain ⟨P1,P2,hP,h1,h2⟩:=fa;have hrm:r∈Uy l:=by rw [hP]; simp
  have hrl:=hm r hrm;have key:∀ m∈Uy l,m=r\/Fq (Uj b) (Fw r.1.c r.2.c m.1.c m.2.c)=Fq (Uj a) (Fw r.1.c r.2.c m.1.c m.2.c):=λm hmm=>by
   have hml:=hm m hmm;by_cases e:A6 r m=true
   ·right;have h0:=h (Pj (Uj a) r.1 r.2 m.1 m.2) (by unfold Si; exact List.mem_map.2 ⟨m,List.mem_filter.2 ⟨hmm,e⟩,rfl⟩);rw [Qi0] at h0; exact h0
   ·left;unfold A6 at e;simp at e;have e1:=Qzi hd hml.1 hrl.1 e.1;have e2:=Qzi hd hml.2 hrl.2 e.2;exact Prod.ext e1 e2
  have fb':Ny (λm=>dsq m z) (Uy l) r:=by
   refine ⟨P1,P2,hP,λm hmm=>?_,λm hmm=>?_⟩
   ·have hmp:m∈Uy l:=by rw [hP]; simp [hmm]
    have hlt:=h1 m hmm;have hml:=hm m hmp;rcases key m hmp with e | e
    ·exfalso; rw [e] at hlt; dsimp only at hlt; grind
    ·rw [ga r m hrl.1 hrl.2 hml.1 hml.2,gb r m hrl.1 hrl.2 hml.1 hml.2] at e;dsimp only at hlt ⊢;rw [Gg.2 (by grind:0<dsq m y-dsq r y)] at e;have:=Gg.1 e; grind
   ·have hmp:m∈Uy l:=by rw [hP]; simp [hmm]
    have hlt:=h2 m hmm;have hml:=hm m hmp;rcases key m hmp with e | e
    ·rw [e]; exact Qo
    ·rw [ga r m hrl.1 hrl.2 hml.1 hml.2,gb r m hrl.1 hrl.2 hml.1 hml.2] at e;dsimp only at hlt ⊢;have t1:=Um (dsq m y-dsq r y);have t2:=Um (dsq m z-dsq r z);grind
  have er:=Qk6 fb fb';rw [er];refine ⟨rfl,?_⟩;unfold Si;refine Xv λm hmm=>?_
  have hmp:=(J1.1 hmm).1;rcases key m hmp with e | e
  ·exfalso;have:=(J1.1 hmm).2;rw [e] at this; unfold A6 at this; simp at this
  ·unfold Pj; rw [e]
theorem Zkm {l:List Pt} (hl:∀ p∈l,Sc p.c) (hn:l.length≤10) (hd:l.Pairwise λx y=>x.id≠y.id):Stab (λa=>Bn (Uj a) l) (λa=>Ww (I8 (Uj a) l)):=by
 have hcp:∀ a,∀ x∈Bn (Uj a) l,x.p∈Qj3 l:=λa x hx=>by
  match l,hx with
  |
   u::v::l',hx =>
   simp only [Bn] at hx;obtain ⟨h3,h4⟩:=Bl (Uj a) (l:=u::v::l') (Uy (u::v::l')) (u,v) ⟨by simp,by simp⟩ (H6 _ _);obtain ⟨m,hm,rfl⟩:=Qkv hx;obtain ⟨h1,h2⟩:=H6 _ _ m hm;rw [Qi0];exact Qhe h3 h4 h1 h2
 refine ⟨⟨λa _ x hx=>Qca hl _ (hcp a x hx),λa _=>?_⟩,⟨Qj3 l,Qca hl,λa _=>hcp a⟩,λa b ha hb h=>?_⟩
 ·have:=Qlt (Uj a) l;have:l.length*l.length<=10*10:=Zk hn hn;show (Bn (Uj a) l).length<=1000;omega
 ·obtain ⟨h1,h2⟩:=Q1d hl hd ha hb h;exact ⟨h2,by show Ww _=Ww _; rw [h1]⟩
end Orq
namespace Orr
open Go Go.Proofs Orq
set_option maxRecDepth 10000
def I4:Nat->List LV->List LV
 | _,[]=>[]
 | 0,x::l=>Qey x::l
 | k+1,x::l=>x::I4 k l
theorem Qlp:∀ (k:Nat) (l:List LV),(I4 k l).length=l.length
 | _,[]=>by cases ‹Nat› <;> rfl
 | 0,x::l=>rfl
 | k+1,x::l=>by simp only [I4,Q6,Qlp k l]
theorem Qlo:∀ (k:Nat) (l:List LV) {j:Nat} {y:LV},(I4 k l)[j]? = some y->∃ x,l[j]? = some x/\(y=x\/y=Qey x)
 | 0,[],_,_,h=>by simp [I4] at h
 | _+1,[],_,_,h=>by simp [I4] at h
 | 0,x::l,0,y,h=>by simp [I4] at h; exact ⟨x,rfl,.inr h.symm⟩
 | 0,x::l,j+1,y,h=>by simp [I4] at h; exact ⟨y,by simpa using h,.inl rfl⟩
 | k+1,x::l,0,y,h=>by simp [I4] at h; exact ⟨x,rfl,.inl h.symm⟩
 |
  k+1,x::l,j+1,y,h=>by
  simp only [I4,Jb] at h;obtain ⟨z,h1,h2⟩:=Qlo k l h;exact ⟨z,by simpa using h1,h2⟩
theorem nlc {P:Program} [Mo P] {n:Nat} {Q:Exit->Sg->List OB->Prop} {L:Sg} {B B':List OB} (i d:Nat) {T:TypeId} {xs:List LV} {it:List It} (hs:Gz it=true) (hb:D7 B i=some (.blk T xs)) (hB:D3 B i (.blk T (I4 d xs))=some B') (k:AK P n Q it L B'):AK P n Q it L B:=by
 obtain ⟨rfl,hl⟩:=Pd hB;have hbi:B[i]? = some (.blk T xs):=Re ▸ hb;refine AK.sub (λF E M a w h=>⟨E,M,?_,h.size,h.defers,h.slots⟩) hs k;rw [Qbo,I7 hbi];refine h.hs.re (λj=>?_) (λj=>?_) (λj=>?_) λj hj=>?_
 ·by_cases e:j=i
  ·subst e;rw [Ud];obtain ⟨g,c,m,h1,cs,h2,h3⟩:=h.blk hb;refine ⟨g,c,m,h1,cs,h2,F2.of (by rw [Qlp]; exact h3.len) λk v x hv hx=>?_⟩;obtain ⟨y,hy,hyx⟩:=Qlo _ _ hx;rcases hyx with rfl | rfl
   ·exact h3.get' hv hy
   ·exact Qyp (h3.get' hv hy)
  ·rw [Up _ _ e]; exact h.hs.blk j
 ·by_cases e:j=i
  ·subst e; rw [Ud,Gx hbi]; rfl
  ·rw [Up _ _ e]
 ·by_cases e:j=i
  ·subst e; rw [Ud,Gx hbi]; rfl
  ·rw [Up _ _ e]
 ·by_cases e:j=i
  ·subst e; rw [Gx hbi] at hj; cases hj
  ·rw [Up _ _ e]; exact hj
theorem Qco {l m:List (List LV)} (h:l=m):TV.one (LV.row l)=.one (.row m):=h ▸ rfl
theorem Qps {a b:Crv} (ha:Nml a) (hb:Nml b) (ca:Cb a) (cb:Cb b):W0 Tryz.prog 183 [.agg (cl a),.agg (cl b)] [pr (H7 a b)]:=by
 obtain ⟨p1,l1,b1⟩:=Qro ca cb;obtain ⟨p2,l2,b2⟩:=Qrm ca cb;have m1:=Rh (Uu a b) (Uu a b);have m2:=Rh (Ut a b) (Ut a b);have q1:=Tt (u:=5) b1 b1 (by omega);have q2:=Tt (u:=5) b2 b2 (by omega);exact w tt Tryz.func183 rfl [.c [] (Qci ha hb ca cb),.c [] (Qcf ha hb ca cb),.c [] (Qd6 p1.t p1.t (by omega) (by omega) b1 b1 (by omega)),.c [] (Qd6 p2.t p2.t (by omega) (by omega) b2 b2 (by omega)),.c [] (Qmr (by omega) (by omega) (Wx q1 (by omega)) (Wx q2 (by omega)))] rfl rfl trivial
theorem Qz7 {a b c d:Crv} (ha:Nml a) (hb:Nml b) (hc:Nml c) (hd:Nml d) (ca:Cb a) (cb:Cb b) (cc:Cb c) (cd:Cb d):W0 Tryz.prog 117 [.agg (cl a),.agg (cl b),.agg (cl c),.agg (cl d)] [pr (Fw a b c d)]:=by
 have na:=Np ha (ca.mono (by omega) (by omega));have nb:=Np hb (cb.mono (by omega) (by omega));have nc:=Np hc (cc.mono (by omega) (by omega));have nd:=Np hd (cd.mono (by omega) (by omega));have s1:=Qun ca cb;have s2:=Qun cc cd;have s3:=Qx1 ca cb;have s4:=Qx1 cc cd;have da:=ca.d;have db:=cb.d;have dc:=cc.d;have dd:=cd.d;obtain ⟨t1,l1,b1⟩:=Qrn cc cd;obtain ⟨t2,l2,b2⟩:=Qrn ca cb;have k1:=Un (H7 c d) ((a.d*b.d)*(a.d*b.d));have k2:=Un (H7 a b) ((c.d*d.d)*(c.d*d.d));have w1:=Pf (Wy a.d) (Wy b.d) (by omega) (by omega);have w2:=Pf (Wy c.d) (Wy d.d) (by omega) (by omega);have w3:=Pf (Wy (a.d*b.d)) (Wy (a.d*b.d)) (by omega) (by omega);have w4:=Pf (Wy (c.d*d.d)) (Wy (c.d*d.d)) (by omega) (by omega);have p1:=Sl (p:=H7 c d) (c:=(a.d*b.d)*(a.d*b.d)) (by omega) (Wx b1 (by omega)) (by omega);have p2:=Sl (p:=H7 a b) (c:=(c.d*d.d)*(c.d*d.d)) (by omega) (Wx b2 (by omega)) (by omega);have p3:=Qd7 (p:=Uv (H7 c d) ((a.d*b.d)*(a.d*b.d))) (q:=Uv (H7 a b) ((c.d*d.d)*(c.d*d.d))) (by omega) (by omega) (Wx (Uw b1 s3) (by omega)) (Wx (Uw b2 s4) (by omega));exact w tt Tryz.func117 rfl [.c [] na,.c [] nb,.c [] w1,.c [] nc,.c [] nd,.c [] w2,.c [] (Qps hc hd cc cd),.c [] w3,.c [] p1,.c [] (Qps ha hb ca cb),.c [] w4,.c [] p2,.c [] p3] rfl rfl trivial
theorem Qho {a b c d:Pt} (ha:Sc a.c) (hb:Sc b.c) (hc:Sc c.c) (hd:Sc d.c):W0 Tryz.prog 117 [.agg (cl a.c),.agg (cl b.c),.agg (cl c.c),.agg (cl d.c)] [pr (Fw a.c b.c c.c d.c)]:=Qz7 ha.n hb.n hc.n hd.n ha.cb hb.cb hc.cb hd.cb
set_option maxHeartbeats 1000000 in
theorem Q92 {a b c d:Pt} {t:Tm} (ha:Sc a.c) (hb:Sc b.c) (hc:Sc c.c) (hd:Sc d.c) (ht:Va t):W0 Tryz.prog 111 [.one (.int .i64 5),.agg (ta t),.one (.row [W8 a,W8 b,W8 c,W8 d])] [.agg (Nj (Pj (Uj t) a b c d)),.one (.int .i64 0)]:=by
 have hp:=(Qbf ha hb hc hd).dp;have e:Nj (Pj (Uj t) a b c d)=[.int .i64 5,.int .i64 a.id,.int .i64 b.id,.int .i64 c.id,.int .i64 d.id,pl (Fw a.c b.c c.c d.c),.int .i64 (Fq (Uj t) (Fw a.c b.c c.c d.c))]:=by rw [Pj]
 rw [e];have cg:=Qfo hp ht;have cf:=Qho ha hb hc hd;generalize Fw a.c b.c c.c d.c=F at *;refine U4 Tryz.func111 rfl ?_;refine go tt [.c [] Q0i,.f rfl] rfl trivial ?_;refine lp (S:=Nat) 3 (λL1 i=>(22,.v (.one (.int .i64 (i:Int))))::L1) (λi=>[.blk 40 (ta t),.blk 144 zCt,.blk 144 [.int .i64 5,.int .i64 (if 1<=i then a.id else 0),.int .i64 (if 2<=i then b.id else 0),.int .i64 (if 3<=i then c.id else 0),.int .i64 (if 4<=i then d.id else 0),.nils,.int .i64 0]]) (λi=>4-i) (λi=>i<=4) 0 (Qi _) rfl (λ_ _=>rfl) rfl λi hi=>?_
 rcases (show i=0\/i=1\/i=2\/i=3\/i=4 by omega) with rfl | rfl | rfl | rfl | rfl
 ·refine go tt [.t rfl,.x (i:=0) (xs:=W8 a) rfl,.i 0] rfl (by simp [Wv]) ?_;exact rd 1 (by omega) (by omega) rfl
 ·refine go tt [.t rfl,.x (i:=1) (xs:=W8 b) rfl,.i 1] rfl (by simp [Wv]) ?_;exact rd 2 (by omega) (by omega) rfl
 ·refine go tt [.t rfl,.x (i:=2) (xs:=W8 c) rfl,.i 2] rfl (by simp [Wv]) ?_;exact rd 3 (by omega) (by omega) rfl
 ·refine go tt [.t rfl,.x (i:=3) (xs:=W8 d) rfl,.i 3] rfl (by simp [Wv]) ?_;exact rd 4 (by omega) (by omega) rfl
 ·exact en tt [.f rfl,.f rfl,.f rfl,.f rfl,.f rfl,.x (i:=0) (xs:=W8 a) rfl,.x (i:=1) (xs:=W8 b) rfl,.x (i:=2) (xs:=W8 c) rfl,.x (i:=3) (xs:=W8 d) rfl,.c [] cf,.c [] cg] rfl rfl trivial
theorem Zf4 {s m:Pt×Pt} {t:Tm} (h1:Sc s.1.c) (h2:Sc s.2.c) (h3:Sc m.1.c) (h4:Sc m.2.c) (ht:Va t):W6 Tryz.prog 115 [.agg (W8 m.1),.agg (W8 m.2),.one (.ow 0 0),.one (.ow 1 0),.one (.ow 2 0)] [.blk 62 (W8 s.1),.blk 62 (W8 s.2),.blk 40 (ta t)] [] [.blk 62 (W8 (Rz (Uj t) s m).1),.blk 62 (W8 (Rz (Uj t) s m).2),.blk 40 (ta t)]:=by
 have cf:=Qho h1 h2 h3 h4;have cg:=Qfo (Qbf h1 h2 h3 h4).dp ht;unfold Rz;refine U4 Tryz.func115 rfl ?_;by_cases h:Fq (Uj t) (Fw s.1.c s.2.c m.1.c m.2.c)<0
 ·rw [if_pos h];exact ed tt [] [0,1,2] [.c [] cf,.c [] cg,.t (decide_eq_true h)] rfl trivial
 ·rw [if_neg h];exact ed tt [] [0,1,2] [.c [] cf,.c [] cg,.f (decide_eq_false h)] rfl trivial
theorem Zf0 {s m:Pt×Pt} {t:Tm} {L:List Ct} (h1:Sc s.1.c) (h2:Sc s.2.c) (h3:Sc m.1.c) (h4:Sc m.2.c) (ht:Va t) (hL:L.length<=1000000):W6 Tryz.prog 118 [.agg (W8 m.1),.agg (W8 m.2),.one (.ow 0 0),.one (.ow 1 0),.one (.ow 2 0),.one (.ow 3 0)] [.blk 62 (W8 s.1),.blk 62 (W8 s.2),.blk 40 (ta t),.blk 55 [.orow 4 7 none],.row false 144 7 (W3 L)] [] [.blk 62 (W8 s.1),.blk 62 (W8 s.2),.blk 40 (ta t),.blk 55 [.orow 4 7 none],.row false 144 7 (W3 (if A6 s m=true then L++[Pj (Uj t) s.1 s.2 m.1 m.2] else L))]:=by
 have cm:=Q92 h1 h2 h3 h4 ht;have hq:∀ y∈[Nj (Pj (Uj t) s.1 s.2 m.1 m.2)],y.length=7:=λy hy=>by rw [Qk.1 hy]; rfl
 have hcl:=Ry L;have hsn:W3 (L++[Pj (Uj t) s.1 s.2 m.1 m.2])=W3 L++[Nj (Pj (Uj t) s.1 s.2 m.1 m.2)]:=by simp [W3]
 refine U4 Tryz.func118 rfl ?_;by_cases e1:m.1.id=s.1.id
 ·by_cases e2:m.2.id=s.2.id
  ·rw [if_neg (by simp [A6,e1,e2])];exact ed tt [] [0,1,2,3,4] [.g 15 false (by simp [e1]),.f (by simp [e2])] rfl trivial
  ·rw [if_pos (by simp [A6,e2]),hsn];exact ed tt [] [0,1,2,3,4] [.g 15 false (by simp [e1]),.t (by simp [e2]),.c [] cm,.s (sz:=7) hq] rfl (by simp [Wv,hcl]; omega)
 ·rw [if_pos (by simp [A6,e1]),hsn];exact ed tt [] [0,1,2,3,4] [.g 15 true (by simp [e1]),.t rfl,.c [] cm,.s (sz:=7) hq] rfl (by simp [Wv,hcl]; omega)
theorem Qf0 (M:List Pt):Gi 0 M=[]:=by cases M <;> rfl
def prs (M:List Pt) (x:Pt) (i j:Nat):List (Pt×Pt):=Gi i M++((M.drop (i+1)).take j).map (λy=>(x,y))
theorem Qr0 (M:List Pt) (x:Pt) (i:Nat):prs M x i 0=Gi i M:=by rw [prs,Yv,X7,Zw]
theorem Qrz {M:List Pt} {i j:Nat} {x y:Pt} (hy:(M.drop (i+1))[j]? = some y):prs M x i (j+1)=prs M x i j++[(x,y)]:=by
 unfold prs;rw [Z0,hy,Option.toList_some,J0,Q8]; rfl
theorem Qy5 {M:List Pt} {i j:Nat} {x:Pt} (hx:M[i]? = some x) (hj:(M.drop (i+1)).length<=j):prs M x i j=Gi (i+1) M:=by
 unfold prs;rw [Qr hj,Bp M i x hx]
theorem Zcg {M:List Pt} {i j:Nat} {x:Pt} (hx:M[i]? = some x):∀ m∈prs M x i j,m.1∈M/\m.2∈M:=λm hm=>by
 rcases Qq.1 hm with h | h
 ·exact H6 _ _ m h
 ·obtain ⟨y,hy,rfl⟩:=Ze.1 h;exact ⟨Qa hx,Qz (Qn hy)⟩
theorem Q3p {l:List Pt} {t:Tm} {s0:Pt×Pt} (hl:∀ p∈l,Sc p.c) (hs:s0.1∈l/\s0.2∈l) (hn:l.length≤1000) (ht:Va t):W6 Tryz.prog 114 [.one (pts l),.one (.ofn 115 [] [.ow 0 0,.ow 1 0,.ow 2 0])] [.blk 62 (W8 s0.1),.blk 62 (W8 s0.2),.blk 40 (ta t)] [] [.blk 62 (W8 (Fu (Uj t) s0 (Uy l)).1),.blk 62 (W8 (Fu (Uj t) s0 (Uy l)).2),.blk 40 (ta t)]:=by
 have hcl:=U8 l;have hsc:∀ ps:List (Pt×Pt),(∀ m∈ps,m.1∈l/\m.2∈l)->Sc (Fu (Uj t) s0 ps).1.c/\Sc (Fu (Uj t) s0 ps).2.c:=λps h=>by
  obtain ⟨h1,h2⟩:=Bl (Uj t) ps s0 hs h;exact ⟨hl _ h1,hl _ h2⟩
 show W6 Tryz.prog 114 [.one (.row (Ww l)),.one (.ofn 115 [] [.ow 0 0,.ow 1 0,.ow 2 0])] _ _ _;refine U4 Tryz.func114 rfl ?_;refine go tt [] rfl trivial ?_;refine lp (S:=Nat) 3 (λL1 i=>(10,.v (.one (.int .i64 (i:Int))))::L1) (λi=>[.blk 62 (W8 (Fu (Uj t) s0 (Gi i l)).1),.blk 62 (W8 (Fu (Uj t) s0 (Gi i l)).2),.blk 40 (ta t)]) (λi=>l.length-i) (λi=>i<=l.length) 0 (Qi _) rfl (λ_ _=>rfl) (by rw [Qf0]; rfl) λi hi=>?_
 by_cases hlt:i<l.length
 ·obtain ⟨x,hx⟩:=gxE (l:=l) (i:=i) hlt;have ed1:(Ww l).drop (i+1)=Ww (l.drop (i+1)):=by simp [Ww,Y6]
  have hdl:=U8 (l.drop (i+1));have hdl2:(l.drop (i+1)).length<=1000:=by rw [Zd]; omega
  rw [<-Qr0 l x i];refine go tt [.t (by simp [hcl]; omega),.x (H8 hx),.r 17 (eI (b:=((i+1:Nat):Int)) (by simp)),.i (i+1),.r 18 (Qco ed1)] rfl (by simp [Wv,U8,eq_true (p:=∀ z,z∈Ww l->z.length=ti62.sz) (Qac l)]; omega) ?_;refine lp (S:=Nat) 4 (λL1 j=>(20,.v (.one (.int .i64 (j:Int))))::L1) (λj=>[.blk 62 (W8 (Fu (Uj t) s0 (prs l x i j)).1),.blk 62 (W8 (Fu (Uj t) s0 (prs l x i j)).2),.blk 40 (ta t),.blk 62 (W8 x)]) (λj=>(l.drop (i+1)).length-j) (λj=>j<=(l.drop (i+1)).length) 0 (Qi _) rfl (λ_ _=>rfl) rfl λj hj=>?_
  by_cases hltj:j<(l.drop (i+1)).length
  ·obtain ⟨y,hy⟩:=gxE (l:=(l.drop (i+1))) (i:=j) hltj;obtain ⟨s1,s2⟩:=hsc (prs l x i j) (Zcg hx);have cn:=Zf4 (s:=Fu (Uj t) s0 (prs l x i j)) (m:=(x,y)) s1 s2 (hl x (Qa hx)) (hl y (Qz (Qa hy))) ht;rw [<-Qnx,<-Qrz hy] at cn;refine go tt [.t (decide_eq_true (by omega)),.x (H8 hy),.c [0,1,2] cn] rfl (by simp [Wv,-List.length_drop]; omega) ?_;exact rd (j+1) (by omega) hltj rfl
  ·have e:=Qy5 hx (Js hltj);rw [e];refine go tt [.f (decide_eq_false (by omega))] rfl (by simp [Wv,-List.length_drop]; omega) ?_;exact rd (i+1) (by omega) hlt rfl
 ·obtain rfl:i=l.length:=by omega
  exact ed tt [] [0,1,2] [.f (by simp [hcl])] rfl trivial
theorem Q3q {l:List Pt} {t:Tm} {s:Pt×Pt} (hl:∀ p∈l,Sc p.c) (hs:s.1∈l/\s.2∈l) (hn:l.length≤10) (ht:Va t):W6 Tryz.prog 114 [.one (pts l),.one (.ofn 118 [] [.ow 0 0,.ow 1 0,.ow 2 0,.ow 3 0])] [.blk 62 (W8 s.1),.blk 62 (W8 s.2),.blk 40 (ta t),.blk 55 [.orow 4 7 none],.row false 144 7 []] [] [.blk 62 (W8 s.1),.blk 62 (W8 s.2),.blk 40 (ta t),.blk 55 [.orow 4 7 none],.row false 144 7 (W3 (Si (Uj t) s (Uy l)))]:=by
 have hcl:=U8 l;have hpk:∀ i,i<=l.length->(Gi i l).length<=100:=λi hi=>by
  have:=Qbs i l;have:i*l.length<=10*10:=Zk (by omega) hn;omega
 show W6 Tryz.prog 114 [.one (.row (Ww l)),.one (.ofn 118 [] [.ow 0 0,.ow 1 0,.ow 2 0,.ow 3 0])] _ _ _;refine U4 Tryz.func114 rfl ?_;refine go tt [] rfl trivial ?_;refine lp (S:=Nat) 5 (λL1 i=>(10,.v (.one (.int .i64 (i:Int))))::L1) (λi=>[.blk 62 (W8 s.1),.blk 62 (W8 s.2),.blk 40 (ta t),.blk 55 [.orow 4 7 none],.row false 144 7 (W3 (Si (Uj t) s (Gi i l)))]) (λi=>l.length-i) (λi=>i<=l.length) 0 (Qi _) rfl (λ_ _=>rfl) (by rw [Qf0]; rfl) λi hi=>?_
 by_cases hlt:i<l.length
 ·obtain ⟨x,hx⟩:=gxE (l:=l) (i:=i) hlt;have ed1:(Ww l).drop (i+1)=Ww (l.drop (i+1)):=by simp [Ww,Y6]
  have hdl:=U8 (l.drop (i+1));have hdl2:(l.drop (i+1)).length<=10:=by rw [Zd]; omega
  rw [<-Qr0 l x i];refine go tt [.t (by simp [hcl]; omega),.x (H8 hx),.r 17 (eI (b:=((i+1:Nat):Int)) (by simp)),.i (i+1),.r 18 (Qco ed1)] rfl (by simp [Wv,U8,eq_true (p:=∀ z,z∈Ww l->z.length=ti62.sz) (Qac l)]; omega) ?_;refine lp (S:=Nat) 6 (λL1 j=>(20,.v (.one (.int .i64 (j:Int))))::L1) (λj=>[.blk 62 (W8 s.1),.blk 62 (W8 s.2),.blk 40 (ta t),.blk 55 [.orow 4 7 none],.row false 144 7 (W3 (Si (Uj t) s (prs l x i j))),.blk 62 (W8 x)]) (λj=>(l.drop (i+1)).length-j) (λj=>j<=(l.drop (i+1)).length) 0 (Qi _) rfl (λ_ _=>rfl) rfl λj hj=>?_
  by_cases hltj:j<(l.drop (i+1)).length
  ·obtain ⟨y,hy⟩:=gxE (l:=(l.drop (i+1))) (i:=j) hltj;have hdn:(Si (Uj t) s (prs l x i j)).length<=1000000:=by
    refine Qd (Qku _ _ _) ?_;unfold prs;rw [Qw,Zm,Qu];have:=hpk i hi; omega
   have cn:=Zf0 (s:=s) (m:=(x,y)) (L:=Si (Uj t) s (prs l x i j)) (hl _ hs.1) (hl _ hs.2) (hl x (Qa hx)) (hl y (Qz (Qa hy))) ht hdn;have en1:(if A6 s (x,y)=true then Si (Uj t) s (prs l x i j)++[Pj (Uj t) s.1 s.2 x y] else Si (Uj t) s (prs l x i j))=Si (Uj t) s (prs l x i (j+1)):=by
    rw [Qrz hy];cases h:A6 s (x,y) with
    | true=>rw [if_pos rfl,Za8 h]
    | false=>rw [if_neg (by decide),Za7 h]
   dsimp only at cn;rw [en1] at cn;refine go tt [.t (decide_eq_true (by omega)),.x (H8 hy),.c [0,1,2,3,4] cn] rfl (by simp [Wv,-List.length_drop]; omega) ?_;exact rd (j+1) (by omega) hltj rfl
  ·have e:=Qy5 hx (Js hltj);rw [e];refine go tt [.f (decide_eq_false (by omega))] rfl (by simp [Wv,-List.length_drop]; omega) ?_;exact rd (i+1) (by omega) hlt rfl
 ·obtain rfl:i=l.length:=by omega
  exact ed tt [] [0,1,2,3,4] [.f (by simp [hcl])] rfl trivial
theorem Qkl {l:List Pt} {a:Tm} {c:Cr} {r1:List (List LV)} (hl:∀ p∈l,Sc p.c) (hn:l.length≤10) (ha:Va a):W6 Tryz.prog 74 [.one (.ow 0 0),.agg (ta a)] [.blk 166 (Gl c (Ww l) r1)] [.one (.row (W3 (Bn (Uj a) l)))] [.blk 166 (Gl c (Ww l) (Ww (I8 (Uj a) l)))]:=by
 have hcl:=U8 l;refine U4 Tryz.func74 rfl ?_;by_cases h2:l.length<2
 ·obtain ⟨e1,e2⟩:=Q1c (Uj a) h2;rw [e1,e2];refine go tt [.c [] Ln] rfl trivial ?_;refine nlc 0 13 rfl rfl rfl ?_;have hml:(l.map W8).length=l.length:=Zm _;exact ed tt [] [0] [.t (decide_eq_true (by omega))] rfl trivial
 ·obtain ⟨x,y,l',rfl⟩:=Zid h2;obtain ⟨l,hle⟩:=nmE (x::y::l');have hx0:(Ww l)[0]? = some (W8 x):=by rw [hle]; rfl
  have hy0:(Ww l)[1]? = some (W8 y):=by rw [hle]; rfl
  have hxl:x∈l:=by rw [hle]; simp
  have hyl:y∈l:=by rw [hle]; simp
  have eB:I8 (Uj a) (x::y::l')=[(Fu (Uj a) (x,y) (Uy l)).1,(Fu (Uj a) (x,y) (Uy l)).2]:=by rw [hle]; rfl
  have eC:Bn (Uj a) (x::y::l')=Si (Uj a) (Fu (Uj a) (x,y) (Uy l)) (Uy l):=by rw [hle]; rfl
  rw [eB,eC];rw [<-hle] at hl hn h2 hcl ⊢;have c1:=Q3p (t:=a) (s0:=(x,y)) hl ⟨hxl,hyl⟩ (by omega) ha;obtain ⟨n1,n2⟩:=Bl (Uj a) (l:=l) (Uy l) (x,y) ⟨hxl,hyl⟩ (H6 _ _);generalize Fu (Uj a) (x,y) (Uy l)=s at *;have c2:=Q3q (t:=a) (s:=s) hl ⟨n1,n2⟩ hn ha;have hml:(l.map W8).length=l.length:=Zm _;exact ed tt [5] [0] [.c [] Ln,.f (decide_eq_false (by omega)),.x hx0,.x hy0,.c [2,3,1] c1,.oc 8 0 144 7,.c [2,3,1,4,5] c2] rfl trivial
theorem Zfq {T:Nat} {t:Rat} {Bc:Tm->List Ct} {Br:Tm->List (List LV)} {r0:List (List LV)} (ht:Qs 1640000 t) (hB:BuildOk Bc)
 (hb:∀ a c r1,Va a->CrOk c->W6 Tryz.prog 74 [.one (.ow 0 0),.agg (ta a)] [.blk T (Gl c r0 r1)] [.one (.row (W3 (Bc a)))] [.blk T (Gl c r0 (Br a))])
 {K:Nat} {c c':Cr} {r1 r1':List (List LV)} {n:Int} (hc:CrOk c) (hev:0<=c.ev/\c.ev+K<=1000000000000000000) (h:Ue c.now t<=0) (hg:goF Bc Br t K c r1 0=some (c',r1',n)) :
 W6 Tryz.prog 341 [.one (.ow 0 0),.agg (rl t),.one (.ofn 74 [.ow 0 0] [])] [.blk T (Gl c r0 r1)] [.one (.int .i64 n),.one (.int .i64 0)] [.blk T (Gl c' r0 r1')]:=by
 have qt:Qb t:=ht.mono (by decide);have c1:=Nb hc.n.tb qt;refine U4 Tryz.func341 rfl ?_;refine go tt [.c [0] (Ah hc.n),.c [] c1,.f (by simpa using h)] rfl trivial ?_;refine lp (S:=Nat×Cr×List (List LV)×Int) 2 (λL1 s=>(8,.v (.one (.int .i64 s.2.2.2)))::L1) (λs=>[.blk T (Gl s.2.1 r0 s.2.2.1),.blk 38 (rl t)]) (λs=>s.1) (λs=>CrOk s.2.1/\(0<=s.2.1.ev/\s.2.1.ev+s.1<=1000000000000000000)/\(0<=s.2.2.2/\s.2.2.2+s.1<=1000000000000000000)/\goF Bc Br t s.1 s.2.1 s.2.2.1 s.2.2.2=some (c',r1',n)) (K,c,r1,0) ⟨hc,hev,⟨Int.le_refl 0,by dsimp only; omega⟩,hg⟩ rfl (λ_ _=>rfl) rfl λ⟨k,x,r,m⟩ ⟨j1,j2,j3,j4⟩=>?_
 dsimp only at j1 j2 j3 j4 ⊢;cases k with
 | zero=>cases j4
 |
  succ k =>
  simp only [goF] at j4;obtain ⟨ws,w1,j4⟩:=Qc.1 j4;obtain ⟨o,o1,j4⟩:=Qc.1 j4;have cn:=La (T:=T) (r0:=r0) (r1:=r) j1 w1 o1;have ca:=Qaw (Wy t.num) (Wy (t.den:Int)) (Qd ht.1 (by decide)) (Qd ht.2 (by decide)) (by rw [Tf]; exact ht.mono (by decide));rw [Tf] at ca;cases o with
  |
   none =>
   injection j4 with j4; injection j4 with e1 j4; injection j4 with e2 e3;subst e1; subst e2; subst e3;exact ed tt [] [0] [.c [0] cn,.g 25 true rfl,.t rfl,.c [] ca] rfl trivial
  |
   some a =>
   have ha:=Qi4 j1 w1 o1;dsimp only at j4;have cc:=Nb ha.tb qt;by_cases h0:0<Ue a t
   ·rw [if_pos h0] at j4;injection j4 with j4; injection j4 with e1 j4; injection j4 with e2 e3;subst e1; subst e2; subst e3;exact ed tt [] [0] [.c [0] cn,.g 25 false rfl,.c [] cc,.t (by simpa using h0),.c [] ca] rfl trivial
   ·rw [if_neg h0] at j4;obtain ⟨w2,l1,j4⟩:=Qc.1 j4;have j1':=Cu j1 w1;have cl:=Rf (b:=a) (l:=[]) ha.tb (λt ht=>by cases ht) (by decide) rfl;have cb:=hb a { x with l:=ws } r ha j1';have cy:=Qch (T:=T) (r0:=r0) (r1:=Br a) j1' ha (hB.p a ha) (hB.n a ha) l1;have hf:decide (0<Ue a t)=false:=by simpa using h0
    refine go tt [.c [0] cn,.g 25 false rfl,.c [] cc,.f hf,.c [] cl,.c [0] cb,.c [0] cy] rfl (by simp [Wv]; omega) ?_;exact rd (k,⟨a,w2,x.ev+1⟩,Br a,m+1) (by dsimp only; omega) ⟨lay_ok _ j1' ha (hB.p a ha) (hB.n a ha) l1,by dsimp only; omega,by dsimp only; omega,j4⟩ rfl
end Orr
namespace Orr
open Go
def Ab:List Nat->Nat
 | []=>0
 | x::l=>x+10000*Ab l
def Dg (l:List Nat):Prop:=∀ x∈l,x<10000
def Cf (x:Nat):List Nat:=if h:x=0 then [] else (x % 10000)::Cf (x / 10000)
termination_by x
decreasing_by omega
theorem Sr:Cf 0=[]:=by unfold Cf; simp
theorem O1 {x:Nat} (h:x≠0):Cf x=(x % 10000)::Cf (x / 10000):=by rw [Cf]; simp [h]
theorem Qxm (x:Nat):Ab (Cf x)=x:=by
 induction x using Nat.strongRecOn with
 |
  _ x ih =>
  rcases Q5 x with h | h
  ·subst h; rw [Sr]; rfl
  ·rw [O1 (by omega)];simp only [Ab];rw [ih _ (by omega)]; omega
theorem Zgi (x:Nat):Dg (Cf x):=by
 induction x using Nat.strongRecOn with
 |
  _ x ih =>
  rcases Q5 x with h | h
  ·subst h; rw [Sr]; intro y hy; cases hy
  ·rw [O1 (by omega)];intro y hy;rcases Ql.1 hy with rfl | hy
   ·omega
   ·exact ih _ (by omega) y hy
theorem Qm4 {x:Nat}:(Cf x).length=0↔x=0:=by
 constructor
 ·intro h;have h0:=Qh h;have:=Qxm x;rw [h0] at this;exact this.symm
 ·rintro rfl; rw [Sr]; rfl
theorem Za3 {x:Nat} (h:x≠0):(Cf (x / 10000)).length+1=(Cf x).length:=by rw [O1 h]; rfl
theorem Qxd (x:Nat):(Cf x).length<=sz x:=by
 induction x using Nat.strongRecOn with
 |
  _ x ih =>
  by_cases h0:x=0
  ·subst h0; rw [Sr]; exact Qi _
  ·have h1:=Za3 h0;have h2:=ih (x / 10000) (by omega);have h3:sz (x / 10000)+1<=sz x:=by
    have h4:x<2^sz x:=Qix x;rcases hs:sz x with _ | k
    ·rw [hs] at h4; simp at h4; omega
    ·rw [hs] at h4;have:sz (x / 10000)<=k:=M8.2 (by rw [Zr] at h4; omega);omega
   omega
theorem Qt8 (a b:List Nat):Ab (a++b)=Ab a+10000^a.length*Ab b:=by
 induction a with
 | nil=>simp [Ab]
 |
  cons x a ih =>
  simp only [Z6,Ab,ih,Q6,Zr];rw [Xe,<-Xs,Zp 10000 (10000^a.length)]; omega
theorem Qp9:∀ {l:List Nat},(∀ x∈l,x=0)->Ab l=0
 | [],_=>rfl
 |
  x::l,h=>by
  have h1:=h x (Qx ..);have h2:=Qp9 (l:=l) λy hy=>h y (Qe _ hy)
  simp [Ab,h1,h2]
theorem Dg.take {l:List Nat} (h:Dg l) (k:Nat):Dg (l.take k):=λx hx=>h x (Qn hx)
theorem Dg.snoc {l:List Nat} (h:Dg l) {x:Nat} (hx:x<10000):Dg (l++[x]):=by
 intro y hy;rcases Qq.1 hy with hy | hy
 ·exact h y hy
 ·rw [Qk.1 hy]; exact hx
theorem Dg.nil:Dg []:=λx h=>by cases h
theorem Q4c:∀ {l:List Nat},Dg l->(∀ x,l[l.length-1]? = some x->x≠0)->l=Cf (Ab l)
 | [],_,_=>by rw [Ab,Sr]
 |
  x::l,h,hl=>by
  have h1:=h x (Qx ..);have h2:l=Cf (Ab l):=Q4c (λy hy=>h y (Qe _ hy)) λy hy=>hl y (by
   rcases l with _ | ⟨z,t⟩
   ·simp at hy
   ·simpa using hy)
  have h3:x+10000*Ab l≠0:=by
   intro e;have hx:x=0:=by omega
   have hd:Ab l=0:=by omega
   rw [hd,Sr] at h2;subst h2;exact hl x rfl hx
  simp only [Ab];rw [O1 h3,show (x+10000*Ab l) % 10000=x by omega,show (x+10000*Ab l) / 10000=Ab l by omega,<-h2]
theorem Qp4 {l:List Nat} {m:Nat} (hd:Dg l) (hm:m<=l.length) (h1:∀ j x,m<=j->l[j]? = some x->x=0) (h2:0<m->∃ y,l[m-1]? = some y/\y≠0):l.take m=Cf (Ab l):=by
 have e:Ab l=Ab (l.take m):=by
  conv=>lhs; rw [<-Zg m l,Qt8]
  rw [Qp9 (l:=l.drop m) λx hx=>?_]
  ·omega
  ·obtain ⟨j,hj⟩:=Zl.1 hx;rw [Z7] at hj;exact h1 (m+j) x (by omega) hj
 rw [e];refine Q4c (hd.take m) λx hx=>?_
 have hl:(l.take m).length=m:=by rw [Qu]; omega
 rw [hl] at hx;rcases Q5 m with h0 | h0
 ·subst h0; simp at hx
 ·obtain ⟨y,hy,hy0⟩:=h2 h0;rw [V2 (by omega),hy] at hx;injection hx with hx; rw [<-hx]; exact hy0
theorem Q4n {l:List Nat} {j d:Nat} (h:l[j]? = some d):Ab (l.drop j)=d+10000*Ab (l.drop (j+1)):=by
 obtain ⟨hj,he⟩:=Qg.1 h;rw [Zz hj,he]; rfl
theorem Q0o {l:List Nat} {j y:Nat} (h:j<l.length):(l.set j y).drop j=y::l.drop (j+1):=by
 rw [Zz (by simpa using h)];simp only [List.getElem_set_self];rw [List.drop_set_of_lt (by omega)]
theorem Dg.set {l:List Nat} (h:Dg l) {j y:Nat} (hy:y<10000):Dg (l.set j y):=by
 intro x hx;rcases Jv hx with hx | rfl
 ·exact h x hx
 ·exact hy
theorem Dg.zeros (n:Nat):Dg (List.replicate n 0):=by
 intro x hx; rw [Z1 hx]; decide
theorem Q4i {V kd d:Nat} (hk:0<kd):(d+10000*V) / kd=(V % kd*10000+d) / kd+10000*(V / kd)/\(d+10000*V) % kd=(V % kd*10000+d) % kd/\(d<10000->(V % kd*10000+d) / kd<10000):=by
 have e:=Xf V kd;have e2:d+10000*V=(V % kd*10000+d)+kd*(10000*(V / kd)):=by
  conv=>lhs; rw [<-e]
  grind
 refine ⟨?_,?_,λhd=>?_⟩
 ·rw [e2,Kq _ _ hk]
 ·rw [e2,Vz]
 ·have:=Z9 V hk;exact (Vh hk).2 (by grind)
def dl (l:List Nat):LV:=.row (l.map λ(x:Nat)=>[.int .i64 (x:Int)])
theorem Qgq (l:List Nat):(l.map λ(x:Nat)=>[LV.int .i64 (x:Int)]).length=l.length:=by simp
theorem Qm7 {l:List Nat} {i x:Nat} (h:l[i]? = some x):(l.map λ(x:Nat)=>[LV.int .i64 (x:Int)])[i]? = some [.int .i64 (x:Int)]:=by rw [Zq,h]; rfl
abbrev nd (x:Nat):LV:=dl (Cf x)
end Orr
namespace Orr
open Go Go.Proofs
set_option maxRecDepth 10000
abbrev dlm (l:List Nat):List (List LV):=l.map λ(x:Nat)=>[.int .i64 (x:Int)]
theorem Zf2 {l:List Nat} (hd:Dg l):W0 Tryz.prog 200 [.one (.row (dlm l))] [.one (nd (Ab l))]:=by
 refine U4 Tryz.func200 rfl (ln 0 rfl rfl λhl=>?_);rw [Zm] at hl;refine go tt [] rfl trivial ?_;refine lp (S:=Nat) 0 (λL1 n=>(3,.v (.one (.int .i64 (n:Int))))::L1) (λ_=>[]) id (λn=>n<=l.length/\∀ j x,n<=j->l[j]? = some x->x=0) (dlm l).length ⟨by simp,λj x h1 h2=>by
  have:=(Qg.1 h2).1; simp at h1; omega⟩ rfl (λ_ _=>rfl) rfl λn ⟨h1,h2⟩=>?_
 cases n with
 | zero=>exact en tt [.g 8 false (by simp),.f rfl,.i 0] rfl (by have:=Qp4 hd h1 h2 (λh=>by omega); unfold nd; rw [<-this]; simp [dl]) (by simp [Wv])
 |
  succ n =>
  obtain ⟨x,hx⟩:=gxE (l:=l) (i:=n) (by omega);by_cases h0:x=0
  ·refine go tt [.g 8 true (by simp),.r 11 (v:=.one (.int .i64 (n:Int))) (by simp),.x (Qm7 hx),.t (by simp [h0]),.r 17 (v:=.one (.int .i64 (n:Int))) (by simp)] rfl (by simp [Wv]; omega) ?_;exact rd n (by simp) ⟨by omega,λj y h3 h4=>by
    rcases V4 h3 with rfl | h3
    ·rw [hx] at h4; injection h4 with h4; rw [<-h4,h0]
    ·exact h2 j y h3 h4⟩ rfl
  ·exact en tt [.g 8 true (by simp),.r 11 (v:=.one (.int .i64 (n:Int))) (by simp),.x (Qm7 hx),.f (by simp [h0]),.i (n+1)] rfl (by have:=Qp4 hd h1 h2 (λ_=>⟨x,hx,h0⟩); unfold nd; rw [<-this]; simp [dl,List.map_take]) (by simp [Wv] <;> omega)
theorem Qw1 {x kd:Nat} (hxs:sz x<=100000000) (hk:0<kd/\kd<=65536):W0 Tryz.prog 187 [.one (nd x),.one (.int .i64 (kd:Int))] [.one (nd (x / kd)),.one (.int .i64 ((x % kd:Nat):Int))]:=by
 have hln:=Qd (Qxd x) hxs;obtain ⟨l,hl⟩:=nmE (Cf x);have hx:Ab l=x:=by rw [hl,Qxm]
 have hd:Dg l:=by rw [hl]; exact Zgi x
 show W0 Tryz.prog 187 [.one (.row (dlm (Cf x))),.one (.int .i64 (kd:Int))] _;rw [<-hl] at hln ⊢;rw [<-hx];have hll:=Qgq l;refine U4 Tryz.func187 rfl ?_;refine go tt [.i (dlm l).length,.i (dlm l).length] rfl (by simp [Wv]; omega) ?_;rw [hll,show List.replicate l.length [LV.int .i64 0]=dlm (List.replicate l.length 0) from by simp [dlm]];refine lp (S:=Nat×List Nat×Nat) 1 (λL1 s=>(8,.v (.one (.int .i64 ((s.1:Int)-1))))::(7,.v (.one (.int .i64 (s.2.2:Int))))::L1) (λs=>[.row false 3 1 (dlm s.2.1)]) (λs=>s.1) (λs=>s.1<=l.length/\s.2.1.length=l.length/\Dg s.2.1/\Ab (s.2.1.drop s.1)=Ab (l.drop s.1) / kd/\s.2.2=Ab (l.drop s.1) % kd) (l.length,List.replicate l.length 0,0) ⟨Qm _,by simp,Dg.zeros _,by simp [Ab],by simp [Ab]⟩ rfl (λ_ _=>rfl) rfl λ⟨k,o,R⟩ ⟨j1,j2,j3,j4,hR⟩=>?_
 dsimp only at j1 j2 j3 j4 hR ⊢;cases k with
 |
  zero =>
  have cc:=Zf2 j3;rw [Yg,Yg] at j4;rw [j4] at cc;exact en tt [.f (by simp),.c [] cc] rfl (by rw [hR,Yg]) trivial
 |
  succ k =>
  obtain ⟨d,hdk⟩:=gxE (l:=l) (i:=k) (by omega);have hd0:=hd d (Qa hdk);have hdd:=Q4n hdk;obtain ⟨s1,s2,s3⟩:=Q4i (V:=Ab (l.drop (k+1))) (kd:=kd) (d:=d) hk.1;rw [<-hdd] at s1 s2;have hr:=Z9 (Ab (l.drop (k+1))) hk.1;rw [<-hR] at s1 s2 s3 hr;have e:((k+1:Nat):Int)-1=(k:Int):=by omega
  have htd:((R:Int)*10000+(d:Int)).tdiv (kd:Int)=(((R*10000+d) / kd:Nat):Int):=rfl;have hle:=Jo (R*10000+d) kd;have htb:0<=((R:Int)*10000+(d:Int)).tdiv (kd:Int)/\((R:Int)*10000+(d:Int)).tdiv (kd:Int)<=655369999:=by
   rw [htd]; revert hle; generalize (R*10000+d) / kd=Q; intro hle; omega
  rw [e];refine go tt [.t (by simp),.x (Qm7 hdk),.r 26 (eI (b:=((R*10000+d:Nat):Int)) (by omega)),.r 31 (eI (b:=(((R*10000+d) / kd:Nat):Int)) (by rfl)),.i k,.r 35 (eI (b:=(((R*10000+d) % kd:Nat):Int)) (by rfl))] rfl (by simp [Wv]; omega) ?_;exact rd (k,o.set k ((R*10000+d) / kd),(R*10000+d) % kd) (by dsimp only; omega) ⟨by dsimp only; omega,by simp [j2],j3.set (s3 hd0),by dsimp only; rw [Q0o (by omega)]; simp only [Ab]; rw [j4,s1],by dsimp only; exact s2.symm⟩ (by simp [dlm,List.map_set]; rfl)
theorem Zh9 (x k:Nat):sz (x / k)<=sz x:=T0 (Jo _ _)
theorem Qur {x y:Nat} {o:List Nat} (h:Uo x=o++Uo y) (h0:y≠0):Uo x=(o++[y % 4294967296])++Uo (y / 4294967296):=by
 rw [h,C7 h0]; simp
theorem Zbr (o:List Nat) (z:Nat):lm (o++[z])=lm o++[[.int .u32 (z:Int)]]:=by simp [lm]
theorem Zjh {x:Nat} (hx:sz x<=100000000):W0 Tryz.prog 127 [.one (nd x)] [lr (Uo x)]:=by
 have hlx:=Hi hx;refine U4 Tryz.func127 rfl ?_;refine go tt [.o 3 91 1] rfl trivial ?_;refine lp (S:=Nat×List Nat) 1 (λL1 s=>(0,.v (.one (nd s.1)))::(3,.v (.one (.orow 0 1 none)))::L1) (λs=>[.row false 91 1 (lm s.2)]) (λs=>s.1) (λs=>Uo x=s.2++Uo s.1/\s.1<=x) (x,[]) ⟨rfl,Qm _⟩ rfl (λ_ _=>rfl) rfl λ⟨y,o⟩ ⟨j1,j2⟩=>?_
 dsimp only at j1 j2 ⊢;by_cases h0:y=0
 ·subst h0;rw [Ff,Zw] at j1;rw [j1];exact en tt [.f (by simp [Sr])] rfl rfl trivial
 ·have hs:=Qur j1 h0;have hsy:sz y<=100000000:=Qd (T0 j2) hx;have c1:=Qw1 (x:=y) (kd:=65536) hsy (by decide);have c2:=Qw1 (x:=y / 65536) (kd:=65536) (Qd (Zh9 _ _) hsy) (by decide);have hl:(Cf y).length≠0:=λh=>h0 (Qm4.1 h)
  have ol:o.length<=(Uo x).length:=by rw [j1]; simp
  have e:y / 65536 % 65536*65536+y % 65536=y % 4294967296:=by omega
  have e2:y / 65536 / 65536=y / 4294967296:=by omega
  refine go tt [.t (by simp; omega),.c [] c1,.c [] c2,.r 26 (Dl (b:=((y % 4294967296:Nat):Int)) (by omega)),.s (sz:=1) (l:=[[.int .u32 ((y % 4294967296:Nat):Int)]]) (λc hc=>by rw [Qk.1 hc]; rfl)] rfl (by simp [Wv,Wz]; omega) ?_;rw [<-e2] at hs;exact rd (y / 65536 / 65536,o++[y % 4294967296]) (by dsimp only; omega) ⟨hs,by dsimp only; omega⟩ (by rw [Zbr]; rfl)
abbrev ri (z:Int):List LV:=[nd z.natAbs,sg z]
theorem Zkc (b:Bool) (m:Nat):[nd m,LV.bool (b && decide (0<m))]=ri (Uk b m):=by
 simp only [ri,sg,Gv,Qi5]
theorem Zhj (x:Nat):(0<(Cf x).length)↔0<x:=by
 have:=Qm4 (x:=x); omega
theorem Zal (b:Bool) (m:Nat):W0 Tryz.prog 132 [.one (nd m),.one (.bool b)] [.agg (ri (Uk b m))]:=by
 rw [<-Zkc];have e:=Zhj m;cases b with
 | false=>exact w tt Tryz.func132 rfl [.g 7 false rfl] rfl rfl trivial
 | true=>exact w tt Tryz.func132 rfl [.g 7 true rfl] rfl (by simp [e]) trivial
theorem Zaj {z:Int}:W0 Tryz.prog 128 [.agg (ri z)] [.one (.bool (decide (z=0)))] :=
 w tt Tryz.func128 rfl [] rfl (by have h:=Qm4 (x:=z.natAbs); simp only [Qgq]; congr 3; rw [decide_eq_decide]; omega) trivial
theorem Zjg {z:Int} (hz:Ug z<=100000000):W0 Tryz.prog 79 [.agg (ri z)] [.agg (Gb z)] :=
 w tt Tryz.func79 rfl [.c [] (Zjh hz)] rfl rfl trivial
theorem eBo {a b:Bool} (h:a=b):TV.one (LV.bool a)=.one (.bool b):=h ▸ rfl
theorem Qxj (l:List Nat) (x:Nat):dlm (l++[x])=dlm l++[[.int .i64 (x:Int)]]:=by simp [dlm]
theorem Qp3 {x y:Nat} {o:List Nat} (h:Cf x=o++Cf y) (h0:y≠0):Cf x=(o++[y % 10000])++Cf (y / 10000):=by
 rw [h,O1 h0]; simp
theorem Zf1 {b:Bool} {x:Nat} (hx:x<=4000000000000000000) (hb:b=true->0<x):W0 Tryz.prog 81 [.one (.int .i64 (Uk b x))] [.agg (ri (Uk b x))]:=by
 have hl:(Cf x).length<=100:=by
  have:=Qxd x;have h2:sz x<=64:=M8.2 (by omega);omega
 have hm:=Zal b x;refine U4 Tryz.func81 rfl ?_;cases b with
 |
  false =>
  show AK Tryz.prog _ _ _ (Qau 0 [.one (.int .i64 (x:Int))]) [];refine go tt [.f (by simp <;> omega),.r 3 (eBo (b:=false) (by simp)),.f rfl,.o 4 3 1] rfl trivial ?_;refine lp (S:=Nat×List Nat) 2 (λL1 s=>(0,.v (.one (.int .i64 (s.1:Int))))::(4,.v (.one (.orow 1 1 none)))::L1) (λs=>[.blk 97 [.nils,.bool false],.row false 3 1 (dlm s.2)]) (λs=>s.1) (λs=>Cf x=s.2++Cf s.1/\s.1<=x) (x,[]) ⟨rfl,Qm _⟩ rfl (λ_ _=>rfl) rfl λ⟨y,o⟩ ⟨j1,j2⟩=>?_
  dsimp only at j1 j2 ⊢;by_cases h0:y=0
  ·subst h0;rw [Sr,Zw] at j1;rw [<-j1];exact en tt [.f (by simp),.c [] hm] rfl rfl trivial
  ·have hs:=Qp3 j1 h0;have ol:o.length<=(Cf x).length:=by rw [j1]; simp
   refine go tt [.t (by simp; omega),.r 18 (eI (b:=((y % 10000:Nat):Int)) (by rfl)),.s (sz:=1) (l:=[[.int .i64 ((y % 10000:Nat):Int)]]) (λc hc=>by rw [Qk.1 hc]; rfl),.r 22 (eI (b:=((y / 10000:Nat):Int)) (by rfl))] rfl (by simp [Wv,Qgq]; omega) ?_;exact rd (y / 10000,o++[y % 10000]) (by dsimp only; omega) ⟨hs,by dsimp only; omega⟩ (by rw [Qxj]; rfl)
 |
  true =>
  show AK Tryz.prog _ _ _ (Qau 0 [.one (.int .i64 (-(x:Int)))]) [];refine go tt [.f (by simp <;> omega),.r 3 (eBo (b:=true) (by simpa using hb rfl)),.t rfl,.r 0 (eI (b:=(x:Int)) (by omega)),.o 4 3 1] rfl (by simp [Wv]; omega) ?_;refine lp (S:=Nat×List Nat) 2 (λL1 s=>(0,.v (.one (.int .i64 (s.1:Int))))::(4,.v (.one (.orow 1 1 none)))::L1) (λs=>[.blk 97 [.nils,.bool false],.row false 3 1 (dlm s.2)]) (λs=>s.1) (λs=>Cf x=s.2++Cf s.1/\s.1<=x) (x,[]) ⟨rfl,Qm _⟩ rfl (λ_ _=>rfl) rfl λ⟨y,o⟩ ⟨j1,j2⟩=>?_
  dsimp only at j1 j2 ⊢;by_cases h0:y=0
  ·subst h0;rw [Sr,Zw] at j1;rw [<-j1];exact en tt [.f (by simp),.c [] hm] rfl rfl trivial
  ·have hs:=Qp3 j1 h0;have ol:o.length<=(Cf x).length:=by rw [j1]; simp
   refine go tt [.t (by simp; omega),.r 18 (eI (b:=((y % 10000:Nat):Int)) (by rfl)),.s (sz:=1) (l:=[[.int .i64 ((y % 10000:Nat):Int)]]) (λc hc=>by rw [Qk.1 hc]; rfl),.r 22 (eI (b:=((y / 10000:Nat):Int)) (by rfl))] rfl (by simp [Wv,Qgq]; omega) ?_;exact rd (y / 10000,o++[y % 10000]) (by dsimp only; omega) ⟨hs,by dsimp only; omega⟩ (by rw [Qxj]; rfl)
theorem Zd5 {n:Int} (hn:-4000000000000000000<=n/\n<=4000000000000000000):W0 Tryz.prog 81 [.one (.int .i64 n)] [.agg (ri n)]:=by
 have e:Uk (decide (n<0)) n.natAbs=n:=by unfold Uk; by_cases h:n<0 <;> simp [h] <;> omega
 have h:=Zf1 (b:=decide (n<0)) (x:=n.natAbs) (by omega) (λh=>by have:=of_decide_eq_true h; omega);rwa [e] at h
abbrev fr (q:Rat):List LV:=ri q.num++ri (q.den:Int)
theorem Qxe:Cf 1=[1]:=by rw [O1 (by decide)]; rw [Sr]
theorem Q3j {n:Int}:W0 Tryz.prog 80 [.agg (ri n),.agg (ri 1)] [.agg (fr (n:Rat))]:=by
 have h0:(dlm (Cf (1:Int).natAbs))[0]? = some [LV.int .i64 1]:=by rw [show (1:Int).natAbs=1 from rfl,Qxe]; rfl
 have h1:decide (((dlm (Cf (1:Int).natAbs)).length:Int)=1)=true:=by rw [show (1:Int).natAbs=1 from rfl,Qxe]; rfl
 exact w tt Tryz.func80 rfl [.c [] (Zaj (z:=1)),.f rfl,.f rfl,.g 19 true h1,.x h0,.t rfl] rfl rfl trivial
theorem Zfv {n:Int} (hn:-4000000000000000000<=n/\n<=4000000000000000000):W0 Tryz.prog 33 [.one (.int .i64 n),.one (.int .i64 1)] [.agg (fr (n:Rat))] :=
 w tt Tryz.func33 rfl [.c [] (Zd5 hn),.c [] (Zd5 (n:=1) (by decide)),.c [] Q3j] rfl rfl trivial
theorem Zji {q:Rat} (hq:Qs 100000000 q):W0 Tryz.prog 32 [.agg (fr q)] [.agg (rl q)] :=
 w tt Tryz.func32 rfl [.c [] (Zjg hq.1),.c [] (Zjg hq.2)] rfl rfl trivial
end Orr
namespace Orr
open Go Go.Proofs Orq
set_option maxRecDepth 10000
theorem L8 {a:Tm} (ha:Va a):Qck a a=some 0:=by
 obtain ⟨c,c1,c2⟩:=Qcl ha ha;rcases c2 with ⟨_,h⟩ | ⟨e,_⟩ | ⟨_,h⟩
 ·exact absurd h λh=>Lr ha.cut ha.cut h h
 ·rw [c1,e]
 ·exact absurd h λh=>Lr ha.cut ha.cut h h
theorem Q98 {c:Cr} {l l':List Pt} {r1:List (List LV)} {ws:List Wt} (hc:CrOk c) (hl:∀ p∈l',Sc p.c) (hn:l'.length≤1000) (h:Tl c.l c.now (Ui (bcS l' c.now))=some ws) :
 W6 Tryz.prog 342 [.one (.ow 0 0),.agg [pts l'],.one (.int .i64 0)] [.blk 156 (Gl c (Ww l) r1)] [.one (.int .i64 0)] [.blk 156 (Gl ⟨c.now,ws,c.ev⟩ (Ww l') (brS l' c.now))]:=by
 have hB:=Qtj hl hn;have cn:=Ah (T:=156) (c:=c) (r0:=Ww l') (r1:=r1) hc.n;have cb:=Qkm (c:=c) (r1:=r1) hl hn hc.n;have cg:=Ox (T:=156) (r0:=Ww l') (r1:=brS l' c.now) hc hc.n (L8 hc.n) (Jw 0) (hB.p _ hc.n) (hB.n _ hc.n) h;refine U4 Tryz.func342 rfl ?_;exact ed tt [] [0] [.f rfl,.c [0] cn,.c [0] cb,.c [0] cg] rfl trivial
theorem Zfx {c:Cr} {l s:List Pt} (hs:s.length<=1000000):W6 Tryz.prog 35 [.one (.ow 0 0)] [.blk 156 (Gl c (Ww l) (Ww s))] [.one (ids (s.map (·.id)))] [.blk 156 (Gl c (Ww l) (Ww s))]:=by
 have hcl:=U8 s;refine U4 Tryz.func35 rfl ?_;refine go tt [.o 3 3 1] rfl trivial ?_;refine lp (S:=Nat) 2 (λL1 i=>(11,.v (.one (.int .i64 (i:Int))))::(3,.v (.one (.orow 1 1 none)))::L1) (λi=>[.blk 156 (Gl c (Ww l) (Ww s)),.row false 3 1 (((s.take i).map (·.id)).map λ(z:Int)=>[LV.int .i64 z])]) (λi=>s.length-i) (λi=>i<=s.length) 0 (Qi _) rfl (λ_ _=>rfl) rfl λi hi=>?_
 by_cases hlt:i<s.length
 ·obtain ⟨p,hp⟩:=gxE (l:=s) (i:=i) hlt;have hg:(((s.take (i+1)).map (·.id)).map λ(z:Int)=>[LV.int .i64 z])=(((s.take i).map (·.id)).map λ(z:Int)=>[LV.int .i64 z])++[[.int .i64 p.id]]:=by
   rw [Z0,hp]; simp
  refine go tt [.t (by simp [hcl]; omega),.x (H8 hp),.s (sz:=1) (l:=[[.int .i64 p.id]]) (λc hc=>by rw [Qk.1 hc]; rfl)] rfl (by simp [Wv]; omega) ?_;exact rd (i+1) (by omega) hlt (by rw [hg]; rfl)
 ·obtain rfl:i=s.length:=by omega
  rw [Q4];exact ed tt [1] [0] [.f (by simp [hcl])] rfl trivial
theorem Zfy {lx ly:List (List LV)} {px py:List Int} {x y:LV} {d id:Int} {c:Cr} {l:List Pt} {r1:List (List LV)} {ws:List Wt} (hx:IsInts lx px) (hy:IsInts ly py) (hd:Fc x y d) (hk:Cs 4294967294 1073741824 (Crv.mk px py d)) (hll:l.length<=900)
 (he:Qbw l ⟨Crv.norm (Crv.mk px py d),id⟩=0) (hc:CrOk c) (hl:∀ p∈put l ⟨Crv.norm (Crv.mk px py d),id⟩,Sc p.c) (hn:(put l ⟨Crv.norm (Crv.mk px py d),id⟩).length≤1000) (h:Tl c.l c.now (Ui (bcS (put l ⟨Crv.norm (Crv.mk px py d),id⟩) c.now))=some ws) :
 W6 Tryz.prog 338 [.one (.ow 0 0),.agg [.row lx,.row ly,x,y,.int .i64 id]] [.blk 156 (Gl c (Ww l) r1)] [.one (.int .i64 0)] [.blk 156 (Gl ⟨c.now,ws,c.ev⟩ (Ww (put l ⟨Crv.norm (Crv.mk px py d),id⟩)) (brS (put l ⟨Crv.norm (Crv.mk px py d),id⟩) c.now))]:=by
 have cp:=Qpo (l:=l) (id:=id) hx hy hd hk (by omega);rw [if_pos he,he] at cp;have cw:=Q98 (l:=l) (r1:=r1) hc hl hn h;refine U4 Tryz.func338 rfl ?_;obtain ⟨b,l',rfl,rfl,_⟩:=hd;exact ed tt [] [0] [.c [] cp,.c [0] cw] rfl trivial
theorem Zfw {t:Rat} {l:List Pt} {K:Nat} {c c':Cr} {r1 r1':List (List LV)} {n:Int} (ht:Qs 1640000 t) (hl:∀ p∈l,Sc p.c) (hn:l.length≤1000) (hc:CrOk c) (hev:0≤c.ev/\c.ev+K≤1000000000000000000) (h:Ue c.now t≤0) (hg:goF (bcS l) (brS l) t K c r1 0=some (c',r1',n)) :
 W6 Tryz.prog 333 [.one (.ow 0 0),.agg (rl t)] [.blk 156 (Gl c (Ww l) r1)] [.one (.int .i64 n),.one (.int .i64 0)] [.blk 156 (Gl c' (Ww l) r1')]:=by
 have cg:=Zi8 (T:=156) (r0:=Ww l) ht (Qtj hl hn) (λa c r1 ha _=>Qkm (c:=c) (r1:=r1) hl hn ha) hc hev h hg;refine U4 Tryz.func333 rfl ?_;exact ed tt [] [0] [.c [] (S8 (ht.mono (by decide))),.c [0] cg] rfl trivial
abbrev idl (l:List Int):List (List LV):=l.map λ(z:Int)=>[.int .i64 z]
theorem Qgu {l:List Int} {i:Nat} {z:Int} (h:l[i]? = some z):(idl l)[i]? = some [.int .i64 z]:=Gu h
theorem Q27 {a b:List Int} (ha:a.length<=1000000) (hb:b.length<=1000000):W0 Tryz.prog 34 [.one (ids a),.one (ids b)] [.one (.bool (decide (a=b)))]:=by
 show W0 Tryz.prog 34 [.one (.row (idl a)),.one (.row (idl b))] _;have la:(idl a).length=a.length:=by simp
 have lb:(idl b).length=b.length:=by simp
 refine U4 Tryz.func34 rfl ?_;by_cases hl:a.length=b.length
 ·refine go tt [.f (by simp; omega)] rfl trivial ?_;refine lp (S:=Nat) 0 (λL1 i=>(5,.v (.one (.int .i64 (i:Int))))::L1) (λ_=>[]) (λi=>a.length-i) (λi=>i<=a.length/\a.take i=b.take i) 0 ⟨Qi _,rfl⟩ rfl (λ_ _=>rfl) rfl λi ⟨hi,he⟩=>?_
  by_cases hlt:i<a.length
  ·obtain ⟨x,hx⟩:=gxE (l:=a) (i:=i) hlt;obtain ⟨y,hy⟩:=gxE (l:=b) (i:=i) (by omega);by_cases e:x=y
   ·refine go tt [.t (by simp; omega),.x (Qgu hx),.x (Qgu hy),.f (by simpa using e)] rfl (by simp [Wv]; omega) ?_;exact rd (i+1) (by omega) ⟨hlt,by rw [Z0,Z0,hx,hy,he,e]⟩ rfl
   ·have hne:a≠b:=λh=>by rw [h,hy] at hx; injection hx with hx; exact e hx.symm
    exact en tt [.t (by simp; omega),.x (Qgu hx),.x (Qgu hy),.t (by simpa using e)] rfl (by simp [hne]) trivial
  ·obtain rfl:i=a.length:=by omega
   have hab:a=b:=by rw [Q4] at he; rw [he,hl,Q4]
   exact en tt [.f (by simp)] rfl (by simp [hab]) trivial
 ·have hne:a≠b:=λh=>hl (by rw [h])
  exact en tt [.t (by simp; omega)] rfl (by simp [hne]) trivial
end Orr
namespace Orr
open Go Go.Proofs Orq
theorem Qsf {x y:Int} (hx:-9223372036854775808<=x/\x<=9223372036854775807) (hy:-9223372036854775808<=y/\y<=9223372036854775807):Sc (E7 x y):=⟨Crv.nml _,((Qp0 hx hy).norm (by decide)).mono (by decide) (by decide)⟩
theorem Sc.pt {p:Pt} (h:Sc p.c):Q16 4294967294 1073741824 p:=⟨h.n,h.c.mono (by decide) (by decide)⟩
end Orr
namespace Orr
open Go Go.Proofs Orq
set_option maxRecDepth 10000
def bcP (l:List Pt) (a:Tm):List Ct:=Bn (Uj a) l
abbrev brP (l:List Pt) (a:Tm):List (List LV):=Ww (I8 (Uj a) l)
theorem Qwi {l:List Pt} {a:Tm}:∀ x∈bcP l a,x.p∈Qj3 l:=λx hx=>by
 match l,hx with
 |
  u::v::l',hx =>
  unfold bcP at hx;simp only [Bn] at hx;obtain ⟨h3,h4⟩:=Bl (Uj a) (l:=u::v::l') (Uy (u::v::l')) (u,v) ⟨by simp,by simp⟩ (H6 _ _);obtain ⟨m,hm,rfl⟩:=Qkv hx;obtain ⟨h1,h2⟩:=H6 _ _ m hm;rw [Qi0];exact Qhe h3 h4 h1 h2
theorem Q2g {l:List Pt} (hl:∀ p∈l,Sc p.c) (hn:l.length≤10):BuildOk (bcP l) :=
 ⟨λ_ _ x hx=>Qca hl _ (Qwi x hx),λa _=>by
  have:=Qlt (Uj a) l;have:l.length*l.length<=10*10:=Zk hn hn;show (Bn (Uj a) l).length<=1000;omega⟩
def Zi3 (l:List Pt) (a:Tm):Cr:=⟨a,(Ui (bcP l a)).map fresh,0⟩
theorem Q94 {t:Rat} {l:List Pt} {K:Nat} {c c':Cr} {r1 r1':List (List LV)} {n:Int} (ht:Qs 1640000 t) (hl:∀ p∈l,Sc p.c) (hn:l.length≤10) (hc:CrOk c) (hev:0≤c.ev/\c.ev+K≤1000000000000000000) (h:Ue c.now t≤0) (hg:goF (bcP l) (brP l) t K c r1 0=some (c',r1',n)) :
 W6 Tryz.prog 372 [.one (.ow 0 0),.agg (rl t)] [.blk 166 (Gl c (Ww l) r1)] [.one (.int .i64 n),.one (.int .i64 0)] [.blk 166 (Gl c' (Ww l) r1')]:=by
 have cg:=Zfq (T:=166) (r0:=Ww l) ht (Q2g hl hn) (λa c r1 ha _=>Qkl (c:=c) (r1:=r1) hl hn ha) hc hev h hg;refine U4 Tryz.func372 rfl ?_;exact ed tt [] [0] [.c [] (S8 (ht.mono (by decide))),.c [0] cg] rfl trivial
theorem Qws {c:Cr} {r0:List (List LV)} {a b:Pt}:W6 Tryz.prog 39 [.one (.ow 0 0)] [.blk 166 (Gl c r0 (Ww [a,b]))] [.one (.int .i64 a.id),.one (.int .i64 b.id),.one (.bool true)] [.blk 166 (Gl c r0 (Ww [a,b]))]:=by
 refine U4 Tryz.func39 rfl ?_;exact ed tt [] [0] [.f rfl,.x (l:=Ww [a,b]) (i:=0) (xs:=W8 a) rfl,.x (l:=Ww [a,b]) (i:=1) (xs:=W8 b) rfl] rfl trivial
theorem Qpn {c:Cr} {r0:List (List LV)}:W6 Tryz.prog 39 [.one (.ow 0 0)] [.blk 166 (Gl c r0 [])] [.one (.int .i64 0),.one (.int .i64 0),.one (.bool false)] [.blk 166 (Gl c r0 [])]:=by
 refine U4 Tryz.func39 rfl ?_;exact ed tt [] [0] [.t rfl] rfl trivial
end Orr
namespace Orr
open Go
def Qgb (q:List Int->Int) (a b:Pt):Pt×Pt:=if Mc q a b=true then (a,b) else (b,a)
def Ev (q:List Int->Int):Nat->List Pt->List Pt×List (Pt×Pt)
 | 0,l=>(l,[])
 |
  k+1,l=>if l.length<2 then (l,[]) else
  match (Ev q k (l.take ((l.length+1) / 2))).1,(Ev q k (l.drop ((l.length+1) / 2))).1 with
  | a::_,b::_=>([(Qgb q a b).1],(Ev q k (l.take ((l.length+1) / 2))).2++(Ev q k (l.drop ((l.length+1) / 2))).2++[Qgb q a b])
  | _,_=>([],[])
theorem Nk (q:List Int->Int):∀ (k:Nat) (l:List Pt),l.length<=k->Ev q k l=Ev q l.length l
 | 0,l,h=>by rw [show l.length=0 by omega]
 |
  k+1,l,h=>by
  cases hl:l.length with
  | zero=>simp [Ev,hl]
  |
   succ m =>
   simp only [Ev];by_cases h2:l.length<2
   ·rw [if_pos h2,if_pos h2]
   ·rw [if_neg h2,if_neg h2];have h3:(l.take ((l.length+1) / 2)).length<=m:=by rw [Qu]; omega
    have h4:(l.drop ((l.length+1) / 2)).length<=m:=by rw [Zd]; omega
    rw [Nk q k (l.take ((l.length+1) / 2)) (by omega),Nk q k (l.drop ((l.length+1) / 2)) (by omega),Nk q m (l.take ((l.length+1) / 2)) h3,Nk q m (l.drop ((l.length+1) / 2)) h4]
termination_by k=>k
def P8 (q:List Int->Int) (l:List Pt):List Pt×List (Pt×Pt):=Ev q l.length l
theorem Ml (q:List Int->Int) {l:List Pt} (h:l.length<2):P8 q l=(l,[]):=by
 unfold P8;cases hl:l.length with
 | zero=>rfl
 | succ m=>simp only [Ev]; rw [if_pos h]
theorem Ew (q:List Int->Int) {l:List Pt} (h:¬l.length<2) {a b:Pt} (ha:(P8 q (l.take ((l.length+1) / 2))).1=[a]) (hb:(P8 q (l.drop ((l.length+1) / 2))).1=[b]) :
 P8 q l=([(Qgb q a b).1],(P8 q (l.take ((l.length+1) / 2))).2++(P8 q (l.drop ((l.length+1) / 2))).2++[Qgb q a b]):=by
 unfold P8 at ha hb ⊢;obtain ⟨m,hm⟩:∃ m,l.length=m+1:=⟨l.length-1,by omega⟩;have h3:(l.take ((l.length+1) / 2)).length<=m:=by rw [Qu]; omega
 have h4:(l.drop ((l.length+1) / 2)).length<=m:=by rw [Zd]; omega
 rw [<-Nk q m _ h3] at ha ⊢;rw [<-Nk q m _ h4] at hb ⊢;rw [show Ev q l.length l=Ev q (m+1) l by rw [hm]];simp only [Ev];rw [if_neg h,ha,hb]
theorem Sx (q:List Int->Int):∀ (k:Nat) (l:List Pt),l.length≤k->0<l.length->∃ a,(P8 q l).1=[a]/\a∈l/\∀ m∈(P8 q l).2,m.1∈l/\m.2∈l
 | 0,l,h,h0=>by omega
 |
  k+1,l,h,h0=>by
  by_cases h2:l.length<2
  ·rw [Ml q h2]
   match l,h0,h2 with
   | [a],_,_=>exact ⟨a,rfl,by simp,by simp⟩
  ·obtain ⟨a,ha,hal,ham⟩:=Sx q k (l.take ((l.length+1) / 2)) (by rw [Qu]; omega) (by rw [Qu]; omega);obtain ⟨b,hb,hbl,hbm⟩:=Sx q k (l.drop ((l.length+1) / 2)) (by rw [Zd]; omega) (by rw [Zd]; omega);rw [Ew q h2 ha hb];have hd:(Qgb q a b).1∈l/\(Qgb q a b).2∈l:=by
    unfold Qgb; split
    ·exact ⟨Qn hal,Qz hbl⟩
    ·exact ⟨Qz hbl,Qn hal⟩
   refine ⟨_,rfl,hd.1,λm hm=>?_⟩;rcases Qq.1 hm with hm | hm
   ·rcases Qq.1 hm with hm | hm
    ·exact ⟨Qn (ham m hm).1,Qn (ham m hm).2⟩
    ·exact ⟨Qz (hbm m hm).1,Qz (hbm m hm).2⟩
   ·rw [Qk.1 hm]; exact hd
theorem Nl (q:List Int->Int):∀ (k:Nat) (l:List Pt),l.length<=k->(P8 q l).2.length<=l.length-1
 | 0,l,h=>by rw [Ml q (by omega)]; simp
 |
  k+1,l,h=>by
  by_cases h2:l.length<2
  ·rw [Ml q h2]; simp
  ·obtain ⟨a,ha,_⟩:=Sx q l.length (l.take ((l.length+1) / 2)) (by rw [Qu]; omega) (by rw [Qu]; omega);obtain ⟨b,hb,_⟩:=Sx q l.length (l.drop ((l.length+1) / 2)) (by rw [Zd]; omega) (by rw [Zd]; omega);rw [Ew q h2 ha hb];have h3:=Nl q k (l.take ((l.length+1) / 2)) (by rw [Qu]; omega);have h4:=Nl q k (l.drop ((l.length+1) / 2)) (by rw [Zd]; omega);rw [Qu] at h3;rw [Zd] at h4;simp only [Qw,Kf];omega
abbrev Q1a (m:Pt×Pt):List LV:=[pl m.1.c.x,pl m.1.c.y,sg m.1.c.d,mg m.1.c.d,.int .i64 m.1.id,pl m.2.c.x,pl m.2.c.y,sg m.2.c.d,mg m.2.c.d,.int .i64 m.2.id]
end Orr
namespace Orq
open Orr Go
def Qc2 (q:Rat) (x y:Pt):Prop:=py y q<py x q\/py y q=py x q/\(px y q<px x q\/px y q=px x q/\x.id<y.id)
theorem Q5y (q:Rat) (x:Pt):¬Qc2 q x x:=by unfold Qc2; grind
theorem Zbq (q:Rat) (x y z:Pt) (h:Qc2 q x y) (h':Qc2 q y z):Qc2 q x z:=by unfold Qc2 at *; grind
theorem Q5z {q:Rat} {x y:Pt} (h:x.id≠y.id) (h':¬Qc2 q x y):Qc2 q y x:=by unfold Qc2 at *; grind
theorem Qz0 {a:Tm} (ha:Va a) {x y:Pt} (hx:Sc x.c) (hy:Sc y.c) {q:Rat} (h1:Fq (Uj a) (Ut y.c x.c)=W7 (W4 (Ut y.c x.c) q)) (h2:Fq (Uj a) (Uu y.c x.c)=W7 (W4 (Uu y.c x.c) q)):Mc (Uj a) x y=true↔Qc2 q x y:=by
 rw [Qfb hy hx] at h1;rw [Qfc hy hx] at h2;have d1:=(So hy hx).dp;have d2:=(Sp hy hx).dp;unfold Mc;simp only [B8];have t1:=Um (py x q-py y q);have t2:=Um (px x q-px y q);by_cases e1:(Ut y.c x.c).length=0
 ·rw [if_neg (by omega)];rw [Qh e1,Ip] at h1;have:py x q=py y q:=by grind
  by_cases e2:(Uu y.c x.c).length=0
  ·rw [if_neg (by omega)];rw [Qh e2,Ip] at h2;unfold Qc2;simp only [decide_eq_true_eq];grind
  ·rw [if_pos (by omega)];have:=(Co ha d2 e2).2;unfold Qc2;simp only [decide_eq_true_eq];grind
 ·rw [if_pos (by omega)];have:=(Co ha d1 e1).2;unfold Qc2;simp only [decide_eq_true_eq];grind
theorem Qpg {l:List Pt} (hl:∀ p∈l,Sc p.c) {a:Tm} (ha:Va a):∃ y,Ue a y=-1/\∀ q,Ue a q=-1->q≤y->∀ u∈l,∀ v∈l,(Mc (Uj a) u v=true↔Qc2 q u v):=by
 obtain ⟨y,y1,y2⟩:=Iq ha (Cj l) λp hp=>(Ad hl p hp).dp
 refine ⟨y,y1,λq q1 q2 u hu v hv=>?_⟩;have h:=y2 q q1 q2;exact Qz0 ha (hl u hu) (hl v hv) (h _ (Hr hv hu).2) (h _ (Hr hv hu).1)
theorem Quw {a b:Tm} {x y:Pt} (h:Fq (Uj b) (Dw x y)=Fq (Uj a) (Dw x y)):Mc (Uj b) x y=Mc (Uj a) x y:=by
 unfold Dw Bz at h;unfold Mc;simp only [B8];by_cases e1:0<(Ut y.c x.c).length
 ·rw [if_pos e1,if_pos e1]; rw [if_pos e1] at h; rw [h]
 ·rw [if_neg e1,if_neg e1]; rw [if_neg e1] at h; rw [h]
theorem Q5j {l:List Pt} {k:Nat} (h2:¬l.length<2) (hk:l.length<=k+1):(l.take ((l.length+1) / 2)).length<=k/\(l.drop ((l.length+1) / 2)).length<=k/\0<(l.take ((l.length+1) / 2)).length/\0<(l.drop ((l.length+1) / 2)).length:=by
 rw [Qu,Zd]; omega
theorem Qe3 {sa sb:List Int->Int}:∀ (k:Nat) (l:List Pt),l.length≤k->l.Pairwise (λx y=>x.id≠y.id)->(∀ u∈l,∀ v∈l,u.id≠v.id->Mc sa u v=false->Mc sa v u=true)->(∀ u∈l,∀ v∈l,Mc sb v u=true->Mc sb u v=false)->(∀ m∈(P8 sa l).2,Mc sb m.1 m.2=Mc sa m.1 m.2)->P8 sb l=P8 sa l
 | 0,l,hk,_,_,_,_=>by rw [Ml _ (by omega),Ml _ (by omega)]
 |
  k+1,l,hk,hd,h1,h2,hm=>by
  by_cases hs:l.length<2
  ·rw [Ml _ hs,Ml _ hs]
  ·obtain ⟨k1,k2,k3,k4⟩:=Q5j hs hk;obtain ⟨a,ha,hal,_⟩:=Sx sa k (l.take ((l.length+1) / 2)) k1 k3;obtain ⟨b,hb,hbl,_⟩:=Sx sa k (l.drop ((l.length+1) / 2)) k2 k4;have hpl:=Ew sa hs ha hb;rw [hpl] at hm;have hd':=hd;rw [<-Zg ((l.length+1) / 2) l] at hd';obtain ⟨d1,d2,d3⟩:=Je.1 hd';have i1:=Qe3 k _ k1 d1 (λu hu v hv=>h1 u (Qn hu) v (Qn hv)) (λu hu v hv=>h2 u (Qn hu) v (Qn hv)) λm hm'=>hm m (by simp [hm'])
   have i2:=Qe3 k _ k2 d2 (λu hu v hv=>h1 u (Qz hu) v (Qz hv)) (λu hu v hv=>h2 u (Qz hu) v (Qz hv)) λm hm'=>hm m (by simp [hm'])
   have hal':=Qn hal;have hbl':=Qz hbl;have e:Qgb sb a b=Qgb sa a b:=by
    have hmem:=hm (Qgb sa a b) (by simp);unfold Qgb at hmem ⊢;by_cases h:Mc sa a b=true
    ·rw [if_pos h] at hmem ⊢;rw [if_pos (hmem.trans h)]
    ·rw [if_neg h] at hmem ⊢;have h:Mc sa a b=false:=by simpa using h
     have:=h2 a hal' b hbl' (hmem.trans (h1 a hal' b hbl' (d3 a hal b hbl) h));rw [if_neg (by simp [this])]
   rw [hpl,Ew sb hs (by rw [i1]; exact ha) (by rw [i2]; exact hb),i1,i2,e]
end Orq
namespace Orr
open Orq Go
def bcT (l:List Pt) (a:Tm):List Ct:=(P8 (Uj a) l).2.map λm=>Nu (Uj a) m.1 m.2
def brT (l:List Pt) (a:Tm):List (List LV)×List (List LV):=((P8 (Uj a) l).1.map W8,(P8 (Uj a) l).2.map Q1a)
theorem Ob {sg:List Int->Int} {l:List Pt}:∀ m∈(P8 sg l).2,m.1∈l/\m.2∈l:=λm hm=>by
 by_cases h:0<l.length
 ·obtain ⟨_,_,_,h3⟩:=Sx sg l.length l (Qm _) h;exact h3 m hm
 ·rw [Ml _ (by omega)] at hm; cases hm
theorem Zff {l:List Pt} (hl:∀ p∈l,Sc p.c) {a:Tm}:∀ x∈bcT l a,Cp x.p:=λx hx=>by
 obtain ⟨m,hm,rfl⟩:=Ze.1 hx;obtain ⟨h1,h2⟩:=Ob m hm;exact O2 (So (hl _ h2) (hl _ h1)) (Sp (hl _ h2) (hl _ h1))
theorem Qtk {l:List Pt} (hl:∀ p∈l,Sc p.c) (hn:l.length≤1000):BuildOk (bcT l) :=
 ⟨λa _=>Zff hl,λa _=>by
  unfold bcT; rw [List.length_map];have:=Nl (Uj a) l.length l (Qm _); omega⟩
theorem Q9l {l:List Pt} {a:Tm}:∀ x∈bcT l a,x.p∈Cj l:=λx hx=>by
 obtain ⟨m,hm,rfl⟩:=Ze.1 hx;obtain ⟨h1,h2⟩:=Ob m hm;show Dw m.1 m.2∈Cj l;unfold Dw Bz; split
 ·exact (Hr h2 h1).2
 ·exact (Hr h2 h1).1
theorem Zko {l:List Pt} (hl:∀ p∈l,Sc p.c) (hn:l.length≤1000) (hd:l.Pairwise λx y=>x.id≠y.id):Stab (bcT l) (brT l):=by
 refine ⟨Qtk hl hn,⟨Cj l,Ad hl,λa _ x hx=>?_⟩,λa b ha hb h=>?_⟩
 ·obtain ⟨m,hm,rfl⟩:=Ze.1 hx;obtain ⟨h1,h2⟩:=Ob m hm;show Dw m.1 m.2∈Cj l;unfold Dw Bz; split
  ·exact (Hr h2 h1).2
  ·exact (Hr h2 h1).1
 ·obtain ⟨y,y1,y2⟩:=Qpg hl ha;obtain ⟨z,z1,z2⟩:=Qpg hl hb;have ga:=y2 y y1 Qo;have gb:=z2 z z1 Qo;have e:P8 (Uj b) l=P8 (Uj a) l:=Qe3 l.length l (Qm _) hd (λu hu v hv hne hf=>(ga v hv u hu).2 (Q5z hne λh=>by
   rw [(ga u hu v hv).2 h] at hf; cases hf)) (λu hu v hv ht=>by
   cases hb':Mc (Uj b) u v
   ·rfl
   ·exact absurd (Zbq z u v u ((gb u hu v hv).1 hb') ((gb v hv u hu).1 ht)) (Q5y z u)) λm hm=>Quw (h (Nu (Uj a) m.1 m.2) (Ze.2 ⟨m,hm,rfl⟩))
  refine ⟨?_,by unfold brT; rw [e]⟩;unfold bcT;rw [e];refine Xv λm hm=>?_
  have:=h (Nu (Uj a) m.1 m.2) (Ze.2 ⟨m,hm,rfl⟩);unfold Nu;rw [show Fq (Uj b) (Dw m.1 m.2)=Fq (Uj a) (Dw m.1 m.2) from this]
end Orr
namespace Orq
open Orr Go
def A5 (a:Crv):List (List Int):=[Uv a.x a.d,Uv a.y a.d,Qbr (U5 a.x a.x) (U5 a.y a.y),[a.d*a.d]]
def Qpz (a b c d:Crv):List (List (List Int)):=[A5 a,A5 b,A5 c,A5 d]
def Qa1 (a b c d:Crv):List Int:=Bq 4 (Qpz a b c d)
theorem Qda {s:Nat} {k:Crv} (hn:Nml k) (hc:Cs s 3 k):(∀ p∈A5 k,Ua p/\Bd (s+s+3) p)/\∀ (j:Nat) (p:List Int),(A5 k)[j]? = some p->p.length≤[2,2,4,0].getD j 0+1:=by
 have l1:=Un k.x k.d;have l2:=Un k.y k.d;have l3:=Rh k.x k.x;have l4:=Rh k.y k.y;have l5:=Ix (U5 k.x k.x) (U5 k.y k.y);have kx:=hc.lx;have ky:=hc.ly;have bx:Bd (s+s+2) (U5 k.x k.x):=Tt hc.x hc.x (by omega);have by_:Bd (s+s+2) (U5 k.y k.y):=Tt hc.y hc.y (by omega);have hd:=hn.2.2.1;have hd0:k.d*k.d≠0:=λe=>by rcases Jy.1 e with e | e <;> omega
 have td:Ua [k.d*k.d]:=by unfold Ua; simp [trim,hd0]
 refine ⟨λp hp=>?_,λj p hp=>?_⟩
 ·simp only [A5,Ql,Yh,or_false] at hp;rcases hp with rfl | rfl | rfl | rfl
  ·exact ⟨Ur _ _,Wx (Uw hc.x hc.d) (by omega)⟩
  ·exact ⟨Ur _ _,Wx (Uw hc.y hc.d) (by omega)⟩
  ·exact ⟨Ur _ _,Wx (Qcd bx by_) (by omega)⟩
  ·refine ⟨td,λz hz=>?_⟩;rw [Qk.1 hz];have:=Fz k.d k.d; have:=hc.d; omega
 ·match j,hp with
  | 0,hp=>injection hp with hp; subst hp; show _<=3; omega
  | 1,hp=>injection hp with hp; subst hp; show _<=3; omega
  | 2,hp=>injection hp with hp; subst hp; show _<=5; omega
  | 3,hp=>injection hp with hp; subst hp; exact Qm _
  | j+4,hp=>simp [A5] at hp
theorem Qsl {s:Nat} {a b c d:Crv} (na:Nml a) (nb:Nml b) (nc:Nml c) (nd:Nml d) (ca:Cs s 3 a) (cb:Cs s 3 b) (cc:Cs s 3 c) (cd:Cs s 3 d):Sq (s+s+3) [2,2,4,0] 4 4 (Qpz a b c d):=by
 have hr:∀ r∈Qpz a b c d,∃ k:Crv,Nml k/\Cs s 3 k/\r=A5 k:=λr hr=>by
  simp only [Qpz,Ql,Yh,or_false] at hr;rcases hr with rfl | rfl | rfl | rfl
  ·exact ⟨a,na,ca,rfl⟩
  ·exact ⟨b,nb,cb,rfl⟩
  ·exact ⟨c,nc,cc,rfl⟩
  ·exact ⟨d,nd,cd,rfl⟩
 refine ⟨rfl,λr h=>?_,λr h p hp=>?_,λr h p hp=>?_,λr h j p hp=>?_⟩
 all_goals obtain ⟨k,kn,kc,rfl⟩:=hr r h
 ·rfl
 ·exact ((Qda kn kc).1 p hp).1
 ·exact ((Qda kn kc).1 p hp).2
 ·exact (Qda kn kc).2 j p hp
theorem Qxc {a b c d:Crv} (ha:Sc a) (hb:Sc b) (hc:Sc c) (hd:Sc d):Cp (Qa1 a b c d):=by
 obtain ⟨h1,h2,h3⟩:=Qg0 4 [2,2,4,0] (Qpz a b c d) (by decide) rfl (by decide) (Qsl ha.n hb.n hc.n hd.n ha.c hb.c hc.c hd.c);exact ⟨h1,Qd h3 (by decide),Wx h2 (by decide)⟩
def Qlm (sg:List Int->Int) (a b c d:Pt):Ct:=⟨4,a.id,b.id,c.id,d.id,Qa1 a.c b.c c.c d.c,Fq sg (Qa1 a.c b.c c.c d.c)⟩
abbrev P3:=Pt×(Pt×Pt)
abbrev P4:=Pt×P3
def Bw:Nat->List Pt->List P3
 | 0,_=>[]
 | _+1,[]=>[]
 | k+1,x::l=>(Uy l).map (λm=>(x,m))++Bw k l
def Gw (l:List Pt):List P3:=Bw l.length l
def Cy:Nat->List Pt->List P4
 | 0,_=>[]
 | _+1,[]=>[]
 | k+1,x::l=>(Gw l).map (λm=>(x,m))++Cy k l
def E5 (l:List Pt):List P4:=Cy l.length l
theorem Qai:∀ (l:List Pt) (i:Nat) (x:Pt),l[i]? = some x->Bw (i+1) l=Bw i l++(Uy (l.drop (i+1))).map (λm=>(x,m))
 | [],i,x,h=>by simp at h
 | y::l,0,x,h=>by simp at h; subst h; simp [Bw]
 |
  y::l,i+1,x,h=>by
  have ih:=Qai l i x (by simpa using h);show (Uy l).map _++Bw (i+1) l=((Uy l).map _++Bw i l)++_;rw [ih,Q8]; rfl
theorem Qe5:∀ (l:List Pt) (i:Nat) (x:Pt),l[i]? = some x->Cy (i+1) l=Cy i l++(Gw (l.drop (i+1))).map (λm=>(x,m))
 | [],i,x,h=>by simp at h
 | y::l,0,x,h=>by simp at h; subst h; simp [Cy]
 |
  y::l,i+1,x,h=>by
  have ih:=Qe5 l i x (by simpa using h);show (Gw l).map _++Cy (i+1) l=((Gw l).map _++Cy i l)++_;rw [ih,Q8]; rfl
theorem Qjy:∀ (k:Nat) (l:List Pt),∀ m∈Bw k l,m.1∈l/\m.2.1∈l/\m.2.2∈l
 | 0,l,m,h=>by simp [Bw] at h
 | k+1,[],m,h=>by simp [Bw] at h
 |
  k+1,x::l,m,h=>by
  rcases Qq.1 h with h | h
  ·obtain ⟨y,hy,rfl⟩:=Ze.1 h;obtain ⟨h1,h2⟩:=H6 _ _ y hy;exact ⟨Qx ..,Qe _ h1,Qe _ h2⟩
  ·obtain ⟨h1,h2,h3⟩:=Qjy k l m h;exact ⟨Qe _ h1,Qe _ h2,Qe _ h3⟩
theorem Qr4:∀ (k:Nat) (l:List Pt),∀ m∈Cy k l,m.1∈l/\m.2.1∈l/\m.2.2.1∈l/\m.2.2.2∈l
 | 0,l,m,h=>by simp [Cy] at h
 | k+1,[],m,h=>by simp [Cy] at h
 |
  k+1,x::l,m,h=>by
  rcases Qq.1 h with h | h
  ·obtain ⟨y,hy,rfl⟩:=Ze.1 h;obtain ⟨h1,h2,h3⟩:=Qjy _ _ y hy;exact ⟨Qx ..,Qe _ h1,Qe _ h2,Qe _ h3⟩
  ·obtain ⟨h1,h2,h3,h4⟩:=Qr4 k l m h;exact ⟨Qe _ h1,Qe _ h2,Qe _ h3,Qe _ h4⟩
theorem Qad {l:List Pt} (h:l.length<=6):(Gw l).length<=20/\(E5 l).length<=15:=by
 match l,h with
 | [],_=>exact ⟨Q9 rfl,Q9 rfl⟩
 | [_],_=>exact ⟨Q9 rfl,Q9 rfl⟩
 | [_,_],_=>exact ⟨Q9 rfl,Q9 rfl⟩
 | [_,_,_],_=>exact ⟨Q9 rfl,Q9 rfl⟩
 | [_,_,_,_],_=>exact ⟨Q9 rfl,Q9 rfl⟩
 | [_,_,_,_,_],_=>exact ⟨Q9 rfl,Q9 rfl⟩
 | [_,_,_,_,_,_],_=>exact ⟨Q9 rfl,Q9 rfl⟩
 | _::_::_::_::_::_::_::_,h=>simp at h
abbrev Pe:=List (List Int×LV)
def Qge (sg:List Int->Int) (m:P3):Ct:=Bj sg m.1 m.2.1 m.2.2
def Qea (sg:List Int->Int) (m:P4):Ct:=Qlm sg m.1 m.2.1 m.2.2.1 m.2.2.2
def Quo (m:P3):List Int:=[m.1.id,m.2.1.id,m.2.2.id]
def Zjz (m:P4):List Int:=[m.1.id,m.2.1.id,m.2.2.1.id,m.2.2.2.id]
def D5 (V:List (List Int×Int)):Pe:=V.foldl (λM e=>Cc M e.1 (.int .i64 e.2)) []
def Ic (sg:List Int->Int) (ps:List P3):List (List Int×Int):=ps.map λm=>(Quo m,(Qge sg m).want)
def Qar (sg:List Int->Int) (ps:List P4):List (List Int×Int):=ps.map λm=>(Zjz m,(Qea sg m).want)
theorem Qv5 (sg:List Int->Int) (ps:List P3) (m:P3):D5 (Ic sg (ps++[m]))=Cc (D5 (Ic sg ps)) (Quo m) (.int .i64 (Qge sg m).want):=by simp [D5,Ic]
def Ec (T:Pe) (s:Int) (n:List Int) (F:Pe) (skip:Nat):Pe:=if Ia T (n.eraseIdx skip)*(if (3-skip) % 2=1 then -s else s)>0 then Cc F (n.eraseIdx skip) (.bool true) else F
def Qk2 (T:Pe) (s:Int) (n:List Int) (F:Pe):Pe:=Ec T s n (Ec T s n (Ec T s n (Ec T s n F 0) 1) 2) 3
def Ef (T:Pe) (V:List (List Int×Int)):Pe:=V.foldl (λF e=>Qk2 T e.2 e.1 F) []
theorem Quf (sg:List Int->Int) (T:Pe) (ps:List P4) (m:P4):Ef T (Qar sg (ps++[m]))=Qk2 T (Qea sg m).want (Zjz m) (Ef T (Qar sg ps)):=by simp [Ef,Qar]
def isT (T F:Pe) (m:P3):Bool:=decide (Ia T (Quo m)≠0) && !(Qhm F (Quo m))
theorem Zgq {T F:Pe} {ps:List P3} {m:P3} (h:isT T F m=true):(ps++[m]).filter (isT T F)=ps.filter (isT T F)++[m]:=by simp [Y7,h]
theorem Q4z {T F:Pe} {ps:List P3} {m:P3} (h:isT T F m=false):(ps++[m]).filter (isT T F)=ps.filter (isT T F):=by simp [Y7,h]
def Qq6 (sg:List Int->Int) (l:List Pt):List Ct:=(Gw (He l)).map (Qge sg)++(E5 (He l)).map (Qea sg)
def Qq7 (sg:List Int->Int) (l:List Pt):List P3:=(Gw (He l)).filter (isT (D5 (Ic sg (Gw (He l)))) (Ef (D5 (Ic sg (Gw (He l)))) (Qar sg (E5 (He l)))))
abbrev trL (m:P3):List LV:=[.int .i64 m.1.id,.int .i64 m.2.1.id,.int .i64 m.2.2.id]
def Qb2 (l:List P3):List (List LV):=l.map trL
theorem Qsv (l:List P3):(Qb2 l).length=l.length:=by simp [Qb2]
theorem Q05 (sg:List Int->Int) {l:List Pt} (h:l.length<=6):(Qq7 sg l).length<=20:=by
 have hw:=Aa l;exact Qd (Yo _ _) (Qad (l:=He l) (by omega)).1
theorem Q04 (sg:List Int->Int) {l:List Pt} (h:l.length<=6):(Qq6 sg l).length<=35:=by
 have hw:=Aa l;obtain ⟨h1,h2⟩:=Qad (l:=He l) (by omega);unfold Qq6;rw [Qw,Zm,Zm]; omega
def bcD (l:List Pt) (a:Tm):List Ct:=Qq6 (Uj a) l
abbrev brD (l:List Pt) (a:Tm):List (List LV):=Qb2 (Qq7 (Uj a) l)
def Qzz (l:List Pt):List (List Int):=(Gw (He l)).map (λm=>Fl m.1.c m.2.1.c m.2.2.c)++(E5 (He l)).map λm=>Qa1 m.1.c m.2.1.c m.2.2.1.c m.2.2.2.c
theorem Qmj {l:List Pt} (hl:∀ p∈l,Sc p.c):∀ p∈Qzz l,Cp p:=λp hp=>by
 have hw:=λ(x:Pt) (h:x∈He l)=>hl x (S6 h)
 rcases Qq.1 hp with hp | hp
 ·obtain ⟨m,hm,rfl⟩:=Ze.1 hp;obtain ⟨h1,h2,h3⟩:=Qjy _ _ m hm;exact O0 (hw _ h1) (hw _ h2) (hw _ h3)
 ·obtain ⟨m,hm,rfl⟩:=Ze.1 hp;obtain ⟨h1,h2,h3,h4⟩:=Qr4 _ _ m hm;exact Qxc (hw _ h1) (hw _ h2) (hw _ h3) (hw _ h4)
theorem Qml {l:List Pt} {a:Tm}:∀ x∈bcD l a,x.p∈Qzz l:=λx hx=>by
 rcases Qq.1 hx with hx | hx
 ·obtain ⟨m,hm,rfl⟩:=Ze.1 hx;exact Xz _ (Ze.2 ⟨m,hm,rfl⟩)
 ·obtain ⟨m,hm,rfl⟩:=Ze.1 hx;exact X8 _ (Ze.2 ⟨m,hm,rfl⟩)
theorem Q2a {l:List Pt} (h:l.length<=6):(Qzz l).length<=1000000:=by
 have hw:=Aa l;obtain ⟨h1,h2⟩:=Qad (l:=He l) (by omega);unfold Qzz;rw [Qw,Zm,Zm]; omega
theorem Qth {l:List Pt} (hl:∀ p∈l,Sc p.c) (hn:l.length≤6):BuildOk (bcD l) :=
 ⟨λ_ _ x hx=>Qmj hl _ (Qml x hx),λa _=>Qd (Q04 _ hn) (by decide)⟩
theorem Zkk {l:List Pt} (hl:∀ p∈l,Sc p.c) (hn:l.length≤6):Stab (bcD l) (brD l):=by
 refine ⟨Qth hl hn,⟨Qzz l,Qmj hl,λa _=>Qml⟩,λa b _ _ h=>?_⟩;have e1:∀ m∈Gw (He l),Qge (Uj b) m=Qge (Uj a) m:=λm hm=>by
  have:=h (Qge (Uj a) m) (Xz _ (Ze.2 ⟨m,hm,rfl⟩));have e:Fq (Uj b) (Fl m.1.c m.2.1.c m.2.2.c)=Fq (Uj a) (Fl m.1.c m.2.1.c m.2.2.c):=this;unfold Qge Bj; rw [e]
 have e2:∀ m∈E5 (He l),Qea (Uj b) m=Qea (Uj a) m:=λm hm=>by
  have:=h (Qea (Uj a) m) (X8 _ (Ze.2 ⟨m,hm,rfl⟩));have e:Fq (Uj b) (Qa1 m.1.c m.2.1.c m.2.2.1.c m.2.2.2.c)=Fq (Uj a) (Qa1 m.1.c m.2.1.c m.2.2.1.c m.2.2.2.c):=this;unfold Qea Qlm; rw [e]
 have t1:Ic (Uj b) (Gw (He l))=Ic (Uj a) (Gw (He l)):=Xv λm hm=>by rw [e1 m hm]
 have t2:Qar (Uj b) (E5 (He l))=Qar (Uj a) (E5 (He l)):=Xv λm hm=>by rw [e2 m hm]
 constructor
 ·unfold bcD Qq6;rw [Xv e1,Xv e2]
 ·unfold brD Qq7;rw [t1,t2]
def Zi1 (l:List Pt) (a:Tm):Cr:=⟨a,(Ui (bcD l a)).map fresh,0⟩
def Qo5 (M:Pe):Prop:=∀ k,(Ds M k).getD (.int .i64 0)=.int .i64 (Ia M k)/\-1<=Ia M k/\Ia M k<=1
def Qat (M:Pe):Prop:=∀ k,(Ds M k).getD (.bool false)=.bool (Qhm M k)
theorem Qle (M:Pe) (k:List Int) (x:LV) (k':List Int):Ds (Cc M k x) k'=if k'=k then some x else Ds M k':=by
 induction M with
 | nil=>simp [Cc,Ds]
 |
  cons e M ih =>
  simp only [Cc];by_cases h:k=e.1
  ·rw [if_pos h];simp only [Ds];by_cases h2:k'=k
   ·rw [if_pos h2,if_pos h2]
   ·rw [if_neg h2,if_neg h2,if_neg (λe2=>h2 (e2.trans h.symm))]
  ·rw [if_neg h];simp only [Ds];by_cases h2:k'=e.1
   ·rw [if_pos h2,if_pos h2,if_neg (λe2=>h (e2.symm.trans h2))]
   ·rw [if_neg h2,if_neg h2,ih]
theorem Q5q:Qo5 []:=λ_=>⟨rfl,show (-1:Int)<=0 by decide,show (0:Int)<=1 by decide⟩
theorem Qz1:Qat []:=λ_=>rfl
theorem Q5r {M:Pe} (h:Qo5 M) {k:List Int} {n:Int} (hn:-1<=n/\n<=1):Qo5 (Cc M k (.int .i64 n)):=by
 intro k';have h1:=h k';unfold Ia at h1 ⊢;rw [Qle];by_cases e:k'=k
 ·rw [if_pos e]; exact ⟨rfl,hn.1,hn.2⟩
 ·rw [if_neg e]; exact h1
theorem Qz2 {M:Pe} (h:Qat M) {k:List Int} {b:Bool}:Qat (Cc M k (.bool b)):=by
 intro k';have h1:=h k';unfold Qhm at h1 ⊢;rw [Qle];by_cases e:k'=k
 ·rw [if_pos e]; rfl
 ·rw [if_neg e]; exact h1
theorem D8 {T F:Pe} {s:Int} {n:List Int} {k:Nat} (h:Qat F):Qat (Ec T s n F k):=by
 unfold Ec;generalize (if (3-k) % 2=1 then -s else s)=s'
 split
 ·exact Qz2 h
 ·exact h
theorem Qtp {T F:Pe} {s:Int} {n:List Int} (h:Qat F):Qat (Qk2 T s n F):=D8 (D8 (D8 (D8 h)))
theorem Q07 {x s:Int} (hx:-1<=x/\x<=1) (hs:-1<=s/\s<=1):-9223372036854775808<=x*s/\x*s<=9223372036854775807:=by
 have h:x=-1\/x=0\/x=1:=by omega
 rcases h with rfl | rfl | rfl <;> omega
structure MOk (M:List Pt):Prop where
 sc:∀ p∈M,Sc p.c
 ln:M.length<=6
 so:Qb9 M
theorem MOk.df {M:List Pt} (h:MOk M):M.Pairwise λx y=>x.id≠y.id:=h.so.imp λh e=>by omega
structure Knd (β:Type) where
 bc:List Pt->Tm->List Ct
 br:List Pt->Tm->β
 al:List Pt->List (List Int)
structure KndOk {β:Type} (k:Knd β):Prop where
 st:∀ M,MOk M->Stab (k.bc M) (k.br M)
 cp:∀ M,MOk M->∀ p∈k.al M,Cp p
 al:∀ M a,∀ x∈k.bc M a,x.p∈k.al M
 ln:∀ M,MOk M->(k.al M).length<=1000000
abbrev kS:Knd (List (List LV)):=⟨bcS,brS,Cj⟩
abbrev kT:Knd (List (List LV)×List (List LV)):=⟨bcT,brT,Cj⟩
abbrev kH:Knd (List (List LV)):=⟨bcH,brH,λl=>Cj l++Qhf l⟩
abbrev kP:Knd (List (List LV)):=⟨bcP,brP,Qj3⟩
abbrev kD:Knd (List (List LV)):=⟨bcD,brD,Qzz⟩
theorem Qhg {l:List Pt} (h:l.length<=6):(Cj l).length<=72:=by
 rw [Qpa];exact Qd (Zk h (Zk h (Qm 2))) (by decide)
theorem Qcs {α β:Type} {f:α->List β} {n:Nat} (l:List α) (h:∀ x∈l,(f x).length=n):(l.flatMap f).length=l.length*n:=by
 induction l with
 | nil=>simp
 |
  cons x l ih =>
  rw [Jn,Qw,h x (by simp),ih λy hy=>h y (Qe _ hy),Q6,X4]; omega
theorem Q9i (l:List Pt):(Qhf l).length=l.length*(l.length*l.length):=by
 unfold Qhf;exact Qcs l λx _=>Qcs l λy _=>by simp
theorem Q9g (l:List Pt):(Qj3 l).length=l.length*(l.length*(l.length*l.length)):=by
 unfold Qj3;exact Qcs l λx _=>Qcs l λy _=>Qcs l λz _=>by simp
theorem okS:KndOk kS:=⟨λM h=>Zkn h.sc (by have:=h.ln; omega) h.df,λM h=>Ad h.sc,λM a=>Qwj,λM h=>Qd (Qhg h.ln) (by decide)⟩
theorem okT:KndOk kT:=⟨λM h=>Zko h.sc (by have:=h.ln; omega) h.df,λM h=>Ad h.sc,λM a=>Q9l,λM h=>Qd (Qhg h.ln) (by decide)⟩
theorem okH:KndOk kH:=⟨λM h=>Zkl h.sc (by have:=h.ln; omega) h.df,λM h=>Qgi h.sc,λM a=>Qmn,λM h=>by
 have h1:=Qhg h.ln;have h2:=Q9i M;have h3:M.length*(M.length*M.length)<=6*(6*6):=Zk h.ln (Zk h.ln h.ln);show (Cj M++Qhf M).length<=_;rw [Qw]; omega⟩
theorem okP:KndOk kP:=⟨λM h=>Zkm h.sc (by have:=h.ln; omega) h.df,λM h=>Qca h.sc,λM a=>Qwi,λM h=>by
 have h3:M.length*(M.length*(M.length*M.length))<=6*(6*(6*6)):=Zk h.ln (Zk h.ln (Zk h.ln h.ln));show (Qj3 M).length<=_;rw [Q9g]; omega⟩
theorem okD:KndOk kD:=⟨λM h=>Zkk h.sc h.ln,λM h=>Qmj h.sc,λM a=>Qml,λM h=>Q2a h.ln⟩
open Classical in
noncomputable def cnt (bc:Tm->List Ct) (q t:Rat):Nat:=if h:∃ E,Evs bc t (tq q) E then (Classical.choose h).length else 0
theorem Q39 {β:Type} {Bc:Tm->List Ct} {Br:Tm->β} (S:Stab Bc Br) {q t:Rat} (hq:Va (tq q)) {E:List Tm} (h:Evs Bc t (tq q) E):cnt Bc q t=E.length:=by
 have hx:∃ E,Evs Bc t (tq q) E:=⟨E,h⟩;unfold cnt;rw [dif_pos hx];exact Zgp S hq (Classical.choose_spec hx) h
structure At {β:Type} (k:Knd β) (M:List Pt) (q:Rat) (c:Cr):Prop where
 now:c.now=tq q
 st:KSt (k.bc M) (k.br M) c (k.br M (tq q))
section
variable {β:Type} {k:Knd β} (ok:KndOk k) {M M':List Pt} {q t:Rat} {c:Cr}
include ok
theorem At.again (h:At k M q c) (hM:MOk M'):∃ ws,Tl c.l c.now (Ui (k.bc M' c.now))=some ws/\At k M' q ⟨tq q,ws,c.ev⟩:=by
 obtain ⟨⟨o,kk⟩,hcs,hr⟩:=h.st;have S:=ok.st M' hM;obtain ⟨ws,l1,l2⟩:=Qup o.n o.l (Ui (k.bc M' c.now));have o':=Orr.lay_ok c.ev o o.n (S.ok.p _ o.n) (S.ok.n _ o.n) l1;have hl:=Qx6 o.n o.n (λh=>Lr o.n.cut o.n.cut h h) o.l kk l1;rw [h.now] at o' hl l2;exact ⟨ws,l1,rfl,⟨⟨o',hl⟩,l2,rfl⟩⟩
theorem At.adv (h:At k M q c) (hM:MOk M) (ht:Qs 1640000 t) (hqt:q<=t) :
 ∃ (K:Nat) (c':Cr),K<=67000001/\goF (k.bc M) (k.br M) t K c (k.br M (tq q)) 0=some (c',k.br M (tq t),((cnt (k.bc M) q t:Nat):Int))/\At k M t c'/\c'.ev=c.ev+((cnt (k.bc M) q t:Nat):Int)/\cnt (k.bc M) q t<=67000000/\cnt (k.bc M) q t<=((k.al M).flatMap tms).length:=by
 have S:=ok.st M hM;have hP:=ok.cp M hM;have hm:=Qop hP;have hmu:=Zes ((k.al M).flatMap tms) c.now;have hl:=ok.ln M hM;have hv:=h.st.inv.ok.n;have hc:Ue c.now t<=0:=by rw [h.now,Qsr]; rcases Me q t with ⟨e,e'⟩ | ⟨e,e'⟩ | ⟨e,e'⟩ <;> first | omega | (exfalso; grind)
 obtain ⟨c',r',E,g1,g2,g3,g4,g5,g6⟩:=Zek S ht hP (λa _=>ok.al M a) (mu ((k.al M).flatMap tms) c.now) c _ 0 (Qm _) h.st λh'=>by
  have:=(Qec hv.cut).2 h'; omega
 have hr:r'=k.br M (tq t):=by rw [g3.r,g2]
 rw [hr] at g1 g3;rw [Int.zero_add] at g1;rw [h.now] at g6;have he:=Q39 S (by rw [<-h.now]; exact hv) g6;rw [he];exact ⟨_,c',by omega,g1,⟨g2,g3⟩,g4,by omega,by omega⟩
end
theorem At.begin {β:Type} {k:Knd β} (ok:KndOk k) {M:List Pt} {q:Rat} (hM:MOk M) (hq:Qs 1640000 q):At k M q ⟨tq q,(Ui (k.bc M (tq q))).map fresh,0⟩:=⟨rfl,Q2j (ok.st M hM) (Qkg hq)⟩
end Orq
