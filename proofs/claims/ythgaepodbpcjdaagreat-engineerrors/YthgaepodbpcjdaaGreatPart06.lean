/- T3 T4 T5 T6 T7 T8 T9 T10 T11 T12 T13 T14 T15 T16 T17 T18 T19 -/
import Derived.Test.YthgaepodbpcjdaaGreatPart05
import Derived.Test.YthgaepodbpcjdaaGreatPart00
set_option linter.all false
namespace Orq
def Pu (p:Up) (x:Rat):Int:=if Fg (ev p x)≠0 then Fg (ev p x) else Fg (dv p x)
def vv (L:Uq) (x:Rat):Nat:=tc x 0 L
def HV (f:Up) (L:Uq):Prop:=(∃ c:Rat,c≠0/\(∀ t,ev f t=c)/\L=[f])\/∃ g l,∃ k:Rat,0<k/\(∀ t,ev g t=k*dv f t)/\SCl f g l/\L=f::g::l
structure Sm (w:List Rat) (x y:Rat):Prop where
 s:Fg (ev w y)=Pu w x
 l:Pu w y=Pu w x
 n:Pu w x≠0
theorem Ao {p:Up} {x:Rat} (h:Fg (ev p x)≠0):Pu p x=Fg (ev p x):=by unfold Pu; rw [if_pos h]
theorem nE {p:Up} {x:Rat} (h:Fg (ev p x)=0):Pu p x=Fg (dv p x):=by unfold Pu; rw [if_neg (by simpa using h)]
theorem tN {p:Up} {x y:Rat} (h:Fg (ev p y)=Fg (ev p x)) (h0:Fg (ev p x)≠0):Sm p x y:=by
 have h1:=Ao h0;have h2:=Ao (p:=p) (x:=y) (by rw [h]; exact h0);exact ⟨by rw [h,h1],by rw [h2,h1,h],by rw [h1]; exact h0⟩
theorem QP {f w u:Up} (h:∀ t,ev f t=ev w t*ev u t) (x:Rat):dv f x=dv w x*ev u x+ev w x*dv u x:=by
 rw [<-jF]; exact Qg9 (λt=>by rw [h,Fh]) x
theorem iJ {f w u:Up} {x:Rat} (h:∀ t,ev f t=ev w t*ev u t) (hu:Fg (ev u x)≠0):Pu f x=Pu w x*Fg (ev u x):=by
 by_cases hw:Fg (ev w x)=0
 ·have hw0:=Gq.1 hw;have e1:ev f x=0:=by rw [h,hw0]; grind
  have e2:dv f x=dv w x*ev u x:=by rw [QP h,hw0]; grind
  rw [nE hw,nE (Gq.2 e1),e2,Sv]
 ·have e1:Fg (ev f x)=Fg (ev w x)*Fg (ev u x):=by rw [h,Sv]
  rw [Ao hw,Ao (by rw [e1]; exact Jf hw hu),e1]
theorem Qwf {f w u:Up} {x y:Rat} (h:∀ t,ev f t=ev w t*ev u t) (hu:Fg (ev u y)=Fg (ev u x)) (h0:Fg (ev u x)≠0) (hf:Sm f x y):Sm w x y:=by
 have e1:=iJ h h0;have e2:=iJ (x:=y) h (by rw [hu]; exact h0);have e3:Fg (ev f y)=Fg (ev w y)*Fg (ev u y):=by rw [h,Sv]
 obtain ⟨s,l,n⟩:=hf;rw [hu] at e2 e3;refine ⟨?_,?_,λh=>n (by rw [e1,h,Yy])⟩
 ·rw [e3,e1] at s; exact Y4 h0 s
 ·rw [e2,e1] at l; exact Y4 h0 l
theorem tc0 {x:Rat} {s:Int} {f g:Up} {l:Uq} (h:Fg (ev g x)=s) (hs:s≠0):tc x 0 (f::g::l)=(if Fg (ev f x)=-s then 1 else 0)+tc x s l:=by
 have hv:s=1\/s=-1:=by rcases Fz (ev g x) with ⟨e,_⟩ | ⟨e,_⟩ | ⟨e,_⟩ <;> omega
 have hg:Fg (ev g x)≠0:=by omega
 rw [tc];rcases Fz (ev f x) with ⟨e,_⟩ | ⟨e,_⟩ | ⟨e,_⟩ <;> rw [e] <;> rcases hv with rfl | rfl <;> simp [GB hg,h]
theorem LP {R x y e d:Rat} {p:Up} (hx:Fj x<=R) (hy:Fj y<=R) (hR:0<=R) (hxy:x<y) (h:y-x<=e) (hd:d<=Fj (dv p x)) (he:e*ddB R p<d):Fg (ev p y-ev p x)=Fg (dv p x):=by
 have h1:=Qsa p y x;have h2:ev p y-ev p x=(y-x)*(dv p x+(y-x)*dd p y x):=by rw [h1]; grind
 have h3:=Hd (x:=y-x) (y:=dd p y x) (a:=e) (b:=ddB R p) (by rw [Mi]; constructor <;> grind) (Qg1 hy hx p);have h4:=Pz (b:=dv p x+(y-x)*dd p y x) hd (by
  have:dv p x+(y-x)*dd p y x-dv p x=(y-x)*dd p y x:=by grind
  rw [this]; exact Jr.1 λh=>absurd (Zl h h3) (Jr.2 he))
 rw [h2,Sv,Hy.2 (show 0<y-x by grind),h4.1,Kq]
def Qd0 (f w:Up) (L:Uq) (x y:Rat):Prop :=
 (vv L x=vv L y/\Sm f x y/\Sm w x y)\/(vv L x=vv L y+1/\Pu f x≠0/\Pu f y=-Pu f x/\Fg (ev f x)=Pu f x/\(Fg (ev f y)=0\/Fg (ev f y)=-Pu f x))
theorem Qse {R d:Rat} (hR:0<=R) (hd:0<d) {f w u:Up} (h:∀ t,ev f t=ev w t*ev u t):∃ e:Rat,0<e/\∀ x y,Fj x<=R->Fj y<=R->Fj (y-x)<=e->d<=Fj (ev f x)->Sm f x y/\Sm w x y:=by
 obtain ⟨ef,ef1,_,ef3⟩:=Hi (M6 hR f) hd;obtain ⟨d1,d1p,_,d1b⟩:=Hi (XF hR u) hd;obtain ⟨ew,ew1,_,ew3⟩:=Hi (M6 hR w) d1p;obtain ⟨e,ep,e1,e2⟩:=min2 ef1 ew1;refine ⟨e,ep,λx y hx hy hxy hf=>⟨?_,?_⟩⟩
 ·have:=Pz hf (Mf hx hy hR (Zl hxy e1) ef3);exact tN this.1 this.2
 ·have hw:d1<=Fj (ev w x):=by
   rcases Gg d1 (Fj (ev w x)) with h' | h'
   ·exact h'
   ·have h5:=Hd (Qt h') (SU hx u);rw [<-h] at h5;exact absurd (Zl hf h5) (Jr.2 d1b)
  have:=Pz hw (Mf hx hy hR (Zl hxy e2) ew3);exact tN this.1 this.2
theorem loc {R:Rat} (hR:0<=R) {f w u:Up} {L:Uq} (hc:HV f L) (h:∀ t,ev f t=ev w t*ev u t):∃ e:Rat,0<e/\∀ x y,Fj x<=R->Fj y<=R->x<y->y-x<=e->Qd0 f w L x y:=by
 rcases hc with ⟨c,hc,hf,rfl⟩ | ⟨g,l,k,hk,hg,hc,rfl⟩
 ·obtain ⟨e,ep,h1⟩:=Qse hR (Cz hc) h;refine ⟨e,ep,λx y hx hy hxy he=>.inl ⟨?_,h1 x y hx hy (by rw [Mi]; constructor <;> grind) (by rw [hf]; exact Qp)⟩⟩;simp only [vv,tc,hf]
 ·obtain ⟨d,e1,dp,e1p,h1⟩:=Qvh hR hc;obtain ⟨e2,e2p,h2⟩:=Qse hR dp h;obtain ⟨d3,d3p,_,d3b⟩:=Hi (b:=k) (d:=d) (Qt hk) dp;obtain ⟨e3,e3p,_,e3b⟩:=Hi (CP hR f) d3p;obtain ⟨d4,d4p,_,d4b⟩:=Hi (b:=AE R w+AE R u) (d:=d3) (by have:=M6 hR w; have:=M6 hR u; grind) d3p;obtain ⟨e4,e4p,_,e4b⟩:=Hi (M6 hR w) d4p;obtain ⟨e5,e5p,_,e5b⟩:=Hi (M6 hR u) d4p;obtain ⟨a1,a1p,a11,a12⟩:=min2 e1p e2p;obtain ⟨a2,a2p,a21,a22⟩:=min2 e3p e4p;obtain ⟨a3,a3p,a31,a32⟩:=min2 a1p a2p;obtain ⟨e,ep,b1,b2⟩:=min2 a3p e5p;refine ⟨e,ep,λx y hx hy hxy he=>?_⟩;have hab:Fj (y-x)<=e:=by rw [Mi]; clear h1 h2; constructor <;> grind
  have hab1:Fj (y-x)<=e1:=by clear h1 h2; grind
  have hab2:Fj (y-x)<=e2:=by clear h1 h2; grind
  obtain ⟨i1,i2,i3,i4,i5⟩:=h1 x y hx hy hab1;rcases Gg d (Fj (ev f x)) with hf | hf
  ·obtain ⟨s1,s2⟩:=h2 x y hx hy hab2 hf;obtain ⟨j1,j2⟩:=i2 hf;refine .inl ⟨?_,s1,s2⟩;have:=i4 j1 j2;simp only [vv];rw [GB (x:=x) (p:=f) j2,GB (x:=y) (p:=f) (by rw [j1]; exact j2),j1,this]
  ·have hg1:d<=Fj (ev g x):=by
    rcases i1 with i | i
    ·exact absurd i (Jr.2 hf)
    ·exact i
   obtain ⟨g1,g2⟩:=i3 hg1;have i5:=i5 g1 g2;have hD:d3<=Fj (dv f x):=by
    rcases Gg d3 (Fj (dv f x)) with h' | h'
    ·exact h'
    ·have h5:=Hd (x:=k) (a:=k) (by unfold Fj; split <;> clear h1 h2 <;> grind) (Rat.le_of_lt h');rw [<-hg] at h5;have:k*d3=d3*k:=by grind
     exact absurd (Zl hg1 h5) (Jr.2 (by rw [this]; exact d3b))
   have hm:=LP hx hy hR hxy (by clear h1 h2; grind:y-x<=e3) hD e3b;have s1:Fg (ev g x)=Fg (dv f x):=by rw [hg,Sv,Hy.2 hk,Kq]
   have s2:Fg (ev g y)=Fg (dv f y):=by rw [hg,Sv,Hy.2 hk,Kq]
   obtain ⟨s,hs⟩:=nmE (Fg (ev g x));rw [<-hs] at g1 g2 i5 s1;rw [g1] at s2;have v1:=tc0 (f:=f) (l:=l) hs.symm g2;have v2:=tc0 (f:=f) (l:=l) g1 g2;rw [<-i5] at v2;rw [<-s1] at hm;have hw:Sm f x y->Sm w x y:=λhf=>by
    rcases Gg d4 (Fj (ev u x)) with hu | hu
    ·have hu:=Pz hu (Mf hx hy hR (Zl hab b2) e5b);exact Qwf h hu.1 hu.2 hf
    ·have hw:d4<=Fj (ev w x):=by
      rcases Gg d4 (Fj (ev w x)) with h' | h'
      ·exact h'
      ·have q1:=Hd (x:=dv w x) (y:=ev u x) (a:=AE R w) (by rw [<-jK]; exact uH hx hx w) (Qt hu);have q2:=Hd (x:=ev w x) (y:=dv u x) (b:=AE R u) (Qt h') (by rw [<-jK]; exact uH hx hx u);have q3:=Sr (dv w x*ev u x) (ev w x*dv u x);rw [<-QP h] at q3;have:d4*(AE R w+AE R u)=AE R w*d4+d4*AE R u:=by grind
       rw [this] at d4b;exact absurd (Zl hD (Zl q3 (by clear h1 h2; grind:_<=AE R w*d4+d4*AE R u))) (Jr.2 d4b)
     have hw:=Pz hw (Mf hx hy hR (Zl hab (by clear h1 h2; grind)) e4b);exact tN hw.1 hw.2
   have lx:Pu f x=if Fg (ev f x)≠0 then Fg (ev f x) else s:=by rw [s1]; rfl
   have ly:Pu f y=if Fg (ev f y)≠0 then Fg (ev f y) else s:=by rw [s2]; rfl
   clear h1 h2 i1 i2 i3 i4;have hsv:s=1\/s=-1:=by rcases Fz (ev g x) with ⟨e,_⟩ | ⟨e,_⟩ | ⟨e,_⟩ <;> omega
   unfold Qd0;simp only [vv,v1,v2];rcases hsv with rfl | rfl
   ·have hm:=Hy.1 hm;rcases Fz (ev f x) with ⟨p1,p2⟩ | ⟨p1,p2⟩ | ⟨p1,p2⟩
    ·rcases Fz (ev f y) with ⟨q1,q2⟩ | ⟨q1,q2⟩ | ⟨q1,q2⟩
     ·rw [p1,q1]; have hsm:=tN (p:=f) (x:=x) (y:=y) (by rw [p1,q1]) (by rw [p1]; decide);exact .inl ⟨rfl,hsm,hw hsm⟩
     ·rw [lx,ly,p1,q1]; refine .inr ⟨by simp; omega,by decide,by decide,by decide,by decide⟩
     ·rw [lx,ly,p1,q1]; refine .inr ⟨by simp; omega,by decide,by decide,by decide,by decide⟩
    ·have q1:=Hy.2 (show 0<ev f y by grind);have hsm:Sm f x y:=⟨by rw [lx,q1,p1]; rfl,by rw [lx,ly,q1,p1]; rfl,by rw [lx,p1]; decide⟩;rw [p1,q1]; exact .inl ⟨rfl,hsm,hw hsm⟩
    ·have q1:=Hy.2 (show 0<ev f y by grind);have hsm:Sm f x y:=⟨by rw [lx,q1,p1]; rfl,by rw [lx,ly,q1,p1],by rw [lx,p1]; decide⟩;rw [p1,q1]; exact .inl ⟨rfl,hsm,hw hsm⟩
   ·have hm:=Ph.1 hm;rcases Fz (ev f x) with ⟨p1,p2⟩ | ⟨p1,p2⟩ | ⟨p1,p2⟩
    ·have q1:=Ph.2 (show ev f y<0 by grind);have hsm:Sm f x y:=⟨by rw [lx,q1,p1]; rfl,by rw [lx,ly,q1,p1],by rw [lx,p1]; decide⟩;rw [p1,q1]; exact .inl ⟨rfl,hsm,hw hsm⟩
    ·have q1:=Ph.2 (show ev f y<0 by grind);have hsm:Sm f x y:=⟨by rw [lx,q1,p1]; rfl,by rw [lx,ly,q1,p1]; rfl,by rw [lx,p1]; decide⟩;rw [p1,q1]; exact .inl ⟨rfl,hsm,hw hsm⟩
    ·rcases Fz (ev f y) with ⟨q1,q2⟩ | ⟨q1,q2⟩ | ⟨q1,q2⟩
     ·rw [lx,ly,p1,q1]; refine .inr ⟨by simp; omega,by decide,by decide,by decide,by decide⟩
     ·rw [lx,ly,p1,q1]; refine .inr ⟨by simp; omega,by decide,by decide,by decide,by decide⟩
     ·rw [p1,q1]; have hsm:=tN (p:=f) (x:=x) (y:=y) (by rw [p1,q1]) (by rw [p1]; decide);exact .inl ⟨rfl,hsm,hw hsm⟩
theorem Q0d (z:Rat):∃ n:Nat,z<=(n:Rat):=by
 refine ⟨z.ceil.toNat,?_⟩;have h1:z<=(z.ceil:Rat):=Rat.le_ceil;have h2:(z.ceil:Rat)<=((z.ceil.toNat:Int):Rat):=Jb.2 (Int.self_le_toNat _);exact Zl h1 h2
theorem ZI {z e:Rat} (he:0<e):∃ n:Nat,z<=(n:Rat)*e:=by
 obtain ⟨n,hn⟩:=Q0d (z / e);exact ⟨n,by have:=Ze hn (Qt he); rwa [Hf he] at this⟩
theorem FK {R x y t:Rat} (hx:Fj x<=R) (hy:Fj y<=R) (h1:x<=t) (h2:t<=y):Fj t<=R:=by
 rw [Mi] at *; constructor <;> grind
def Qau (f w:Up) (L:Uq) (x y:Rat):Prop :=
 vv L y<=vv L x/\(vv L x=vv L y->Sm f x y/\Sm w x y)/\(vv L x=vv L y+1->Pu f x≠0/\Pu f y=-Pu f x)
theorem iQ {f w:Up} {L:Uq} {x y:Rat} (h:Qd0 f w L x y):Qau f w L x y:=by
 rcases h with ⟨h1,h2,h3⟩ | ⟨h1,h2,h3,_⟩
 ·exact ⟨by omega,λ_=>⟨h2,h3⟩,λh=>by omega⟩
 ·exact ⟨by omega,λh=>by omega,λ_=>⟨h2,h3⟩⟩
theorem tC {w:Up} {x y z:Rat} (h1:Sm w x y) (h2:Sm w y z):Sm w x z:=⟨by rw [h2.s,h1.l],by rw [h2.l,h1.l],h1.n⟩
theorem nD {f w:Up} {L:Uq} {x y z:Rat} (h:Qau f w L x y) (h':Qau f w L y z):Qau f w L x z:=by
 obtain ⟨a1,a2,a3⟩:=h;obtain ⟨b1,b2,b3⟩:=h';refine ⟨by omega,λh=>?_,λh=>?_⟩
 ·obtain ⟨s1,s2⟩:=a2 (by omega);obtain ⟨s3,s4⟩:=b2 (by omega);exact ⟨tC s1 s3,tC s2 s4⟩
 ·by_cases e:vv L x=vv L y
  ·obtain ⟨s1,_⟩:=a2 e;obtain ⟨s3,s4⟩:=b3 (by omega);exact ⟨s1.n,by rw [s4,s1.l]⟩
  ·obtain ⟨s3,s4⟩:=a3 (by omega);obtain ⟨s1,_⟩:=b2 (by omega);exact ⟨s3,by rw [s1.l,s4]⟩
theorem Qu5 {R:Rat} (hR:0<=R) {f w u:Up} {L:Uq} (hc:HV f L) (h:∀ t,ev f t=ev w t*ev u t) {x y:Rat} (hx:Fj x<=R) (hy:Fj y<=R) (hxy:x<y):Qau f w L x y:=by
 obtain ⟨e,ep,hl⟩:=loc hR hc h;have key:∀ n:Nat,∀ x,Fj x<=R->x<y->y-x<=(n:Rat)*e->Qau f w L x y:=by
  intro n
  induction n with
  | zero =>
   intro x hx hxy h; exfalso; have:((0:Nat):Rat)*e=0:=by simp
   grind
  |
   succ n ih =>
   intro x hx hxy hn;rcases Gg (y-x) e with h1 | h1
   ·exact iQ (hl x y hx hy hxy h1)
   ·have hm:Fj (x+e)<=R:=FK hx hy (by clear hl ih; grind) (by clear hl ih; grind);have hn':(((n+1:Nat):Rat))=(n:Rat)+1:=by push_cast; rfl
    refine nD (iQ (hl x (x+e) hx hm (by clear hl ih; grind) (by clear hl ih; grind))) (ih (x+e) hm (by clear hl ih; grind) ?_);rw [hn'] at hn;clear hl ih; grind
 obtain ⟨n,hn⟩:=ZI (z:=y-x) ep;exact key n x hx hxy hn
theorem xY (x y:Rat):∃ R:Rat,0<=R/\Fj x<=R/\Fj y<=R:=by
 refine ⟨Fj x+Fj y,?_,?_,?_⟩ <;> (have:=Hw x; have:=Hw y; grind)
theorem Te (t:Rat):ev [1] t=1:=by simp only [ev]; grind
theorem A4 {f:Up} {L:Uq} (hc:HV f L) {x y:Rat} (hxy:x<y):vv L y<=vv L x:=by
 obtain ⟨R,hR,hx,hy⟩:=xY x y;exact (Qu5 hR hc (w:=f) (u:=[1]) (λt=>by rw [Te]; grind) hx hy hxy).1
theorem KW {f w u:Up} {L:Uq} (hc:HV f L) (h:∀ t,ev f t=ev w t*ev u t) {x y:Rat} (hxy:x<y) (he:vv L x=vv L y):Sm w x y:=by
 obtain ⟨R,hR,hx,hy⟩:=xY x y;exact ((Qu5 hR hc h hx hy hxy).2.1 he).2
theorem kX {f:Up} {L:Uq} (hc:HV f L) {x y:Rat} (hxy:x<y) (he:vv L x=vv L y):Sm f x y :=
 KW hc (w:=f) (u:=[1]) (λt=>by rw [Te]; grind) hxy he
theorem kZ {f:Up} {L:Uq} (hc:HV f L) {x y:Rat} (hxy:x<y) (he:vv L x=vv L y+1):Pu f x≠0/\Pu f y=-Pu f x:=by
 obtain ⟨R,hR,hx,hy⟩:=xY x y;exact (Qu5 hR hc (w:=f) (u:=[1]) (λt=>by rw [Te]; grind) hx hy hxy).2.2 he
theorem Qlm {f:Up} {L:Uq} (hc:HV f L) (R:Rat) (hR:0<=R):∃ e:Rat,0<e/\∀ x y,Fj x<=R->Fj y<=R->x<y->y-x<=e->vv L x<=vv L y+1:=by
 obtain ⟨e,ep,hl⟩:=loc hR hc (w:=f) (u:=[1]) (λt=>by rw [Te]; grind);refine ⟨e,ep,λx y hx hy hxy he=>?_⟩;rcases hl x y hx hy hxy he with ⟨h,_⟩ | ⟨h,_⟩ <;> omega
theorem UM {p:Up} {x:Rat} (h:Fg (ev p x)≠0):∃ e:Rat,0<e/\∀ y,Fj (y-x)<=e->Fg (ev p y)=Fg (ev p x):=by
 have hd:=Cz (x:=ev p x) λh0=>h (Gq.2 h0)
 have hR:0<=Fj x+1:=by have:=Hw x; grind
 obtain ⟨e,e1,e2,e3⟩:=Hi (M6 hR p) hd;refine ⟨e,e1,λy hy=>(Pz Qp (Mf (x:=x) (by grind) ?_ hR hy e3)).1⟩;have:=Sr (y-x) x;have e:y-x+x=y:=by grind
 rw [e] at this; grind
theorem Qso {R M:Rat} {p:Up} (hM:M=ddB R p) (hR:0<=R) {h:Rat} (hh:0<h):∀ (n:Nat) (x:Rat),Fj x<=R->Fj (x+(n:Rat)*h)<=R->(∀ t,x<=t->t<=x+(n:Rat)*h->0<=dv p t)->ev p x-(n:Rat)*(h*h*M)<=ev p (x+(n:Rat)*h)
 |
  0,x,_,_,_=>by
  have e1:x+((0:Nat):Rat)*h=x:=by rw [show ((0:Nat):Rat)=0 from rfl]; grind
  have e2:((0:Nat):Rat)*(h*h*M)=0:=by simp
  rw [e1,e2]; grind
 |
  n+1,x,hx,hy,hd=>by
  have hn':(((n+1:Nat):Rat))=(n:Rat)+1:=by push_cast; rfl
  rw [hn'] at hy hd ⊢;have hn0:(0:Rat)<=(n:Rat):=Xi;have hnh:=Bj hn0 (Qt hh);have e1:x+((n:Rat)+1)*h=(x+h)+(n:Rat)*h:=by grind
  rw [e1] at hy hd ⊢;have hxh:Fj (x+h)<=R:=FK hx hy (by clear hd; grind) (by clear hd; grind);have ih:=Qso hM hR hh n (x+h) hxh hy λt h1 h2=>hd t (by clear hd; grind) h2
  have h0:=hd x Qp (by clear hd; grind);have h1:=Qsa p (x+h) x;have h2:=Qg1 hxh hx p;rw [<-hM,Mi] at h2;have h3:=Z1 h2.1 (Bj (Qt hh) (Qt hh));have h4:=Bj (Qt hh) h0;have e2:x+h-x=h:=by grind
  rw [e2] at h1;clear hd hx hy hxh;grind
theorem Qyx {p:Up} {x y:Rat} (hxy:x<y) (hd:∀ t,x<=t->t<=y->0<=dv p t):ev p x<=ev p y:=by
 obtain ⟨R,hR,hx,hy⟩:=xY x y;rcases Gg (ev p x) (ev p y) with h | h
 ·exact h
 ·exfalso;obtain ⟨M,hM⟩:=nmE (ddB R p);have hM0:=CP hR p;rw [<-hM] at hM0;obtain ⟨e,ep,_,he⟩:=Hi (b:=(y-x)*M) (d:=ev p x-ev p y) (Bj (by grind) hM0) (by grind);obtain ⟨n,hn⟩:=ZI (z:=y-x) ep;have hn0:0<(n:Rat):=by
   rcases Gg (n:Rat) 0 with h' | h'
   ·have:=Ze h' (Qt ep); clear hd; grind
   ·exact h'
  have hh:0<(y-x) / n:=Ai (by grind) hn0;have e1:(n:Rat)*((y-x) / n)=y-x:=by rw [W7]; exact Hf hn0
  have e2:x+(n:Rat)*((y-x) / n)=y:=by rw [e1]; grind
  have h1:=Qso hM hR hh n x hx (by rw [e2]; exact hy) (by rw [e2]; exact hd);rw [e2] at h1;have h2:(y-x) / n<=e:=by
   rcases Gg ((y-x) / n) e with h' | h'
   ·exact h'
   ·have:=Rat.mul_lt_mul_of_pos_left h' hn0; clear hd; grind
  have h3:(n:Rat)*((y-x) / n*((y-x) / n)*M)=((y-x) / n)*((y-x)*M):=by
   have:(n:Rat)*((y-x) / n*((y-x) / n)*M)=((n:Rat)*((y-x) / n))*(((y-x) / n)*M):=by grind
   rw [this,e1]; grind
  have h4:=Ze h2 (Bj (x:=y-x) (y:=M) (by grind) hM0);rw [h3] at h1;clear hd; grind
theorem Qqe {p:Up} {x y:Rat} (hxy:x<y) (hd:∀ t,x<=t->t<=y->0<dv p t):ev p x<ev p y:=by
 have hx:=hd x Qp (by grind);have hR:0<=Fj x+1:=by have:=Hw x; grind
 obtain ⟨e,e1,e2,e3⟩:=Hi (CP hR p) hx;obtain ⟨f,f1,f2,f3⟩:=min2 (a:=e) (b:=y-x) e1 (by grind);have hq:Fj (x+f)<=Fj x+1:=by
  have:=Sr x f; have:Fj f=f:=by unfold Fj; split <;> grind
  clear hd; grind
 have h1:=LP (p:=p) (x:=x) (y:=x+f) (R:=Fj x+1) (e:=e) (d:=dv p x) (by clear hd; grind) hq hR (by grind) (by grind) (by unfold Fj; split <;> clear hd <;> grind) e3;rw [Hy.2 hx,Hy] at h1;rcases Classical.em (x+f=y) with e | e
 ·rw [<-e]; clear hd; grind
 ·have:=Qyx (p:=p) (x:=x+f) (y:=y) (by clear hd; grind) λt h1 h2=>Qt (hd t (by clear hd; grind) h2)
  clear hd; grind
structure Cut (c:Rat->Int):Prop where
 val:∀ q,c q=1\/c q=0\/c q=-1
 mono:∀ q r,q<r->c q≠1->c r=-1
 up:∀ q,c q=1->∃ r,q<r/\c r=1
 dn:∀ q,c q=-1->∃ r,r<q/\c r=-1
 lo:∃ q,c q=1
 hi:∃ q,c q=-1
theorem Cut.mono' {c:Rat->Int} (h:Cut c) {q r:Rat} (hqr:q<r) (hr:c r≠-1):c q=1:=by
 rcases Classical.em (c q=1) with e | e
 ·exact e
 ·exact absurd (h.mono q r hqr e) hr
theorem Cut.lt {c:Rat->Int} (h:Cut c) {q r:Rat} (hq:c q=1) (hr:c r=-1):q<r:=by
 rcases Gg r q with e | e
 ·rcases Classical.em (r=q) with e' | e'
  ·rw [e'] at hr; omega
  ·have:=h.mono r q (by grind) (by omega); omega
 ·exact e
theorem Cut.near {c:Rat->Int} (h:Cut c) {e:Rat} (he:0<e):∃ x y,c x=1/\c y=-1/\y-x<=e:=by
 obtain ⟨a,ha⟩:=h.lo;obtain ⟨b,hb⟩:=h.hi;have he2:0<e / 2:=Ai he (by decide);have h2:e / 2*2=e:=Hf (by decide);have key:∀ (n:Nat) (a:Rat),c a=1->b-a<=(n:Rat)*(e / 2)->∃ x y,c x=1/\c y=-1/\y-x<=e:=by
  intro n
  induction n with
  |
   zero =>
   intro a ha hn;have:=h.lt ha hb;rw [show ((0:Nat):Rat)=0 from rfl] at hn;exfalso; grind
  |
   succ n ih =>
   intro a ha hn;have hn':(((n+1:Nat):Rat))=(n:Rat)+1:=by push_cast; rfl
   rw [hn'] at hn;rcases h.val (a+e / 2) with h1 | h1 | h1
   ·exact ih _ h1 (by grind)
   ·exact ⟨a,a+e,ha,h.mono (a+e / 2) _ (by grind) (by omega),by grind⟩
   ·exact ⟨a,a+e / 2,ha,h1,by grind⟩
 obtain ⟨n,hn⟩:=ZI (z:=b-a) he2;exact key n a ha hn
def I3 (p:Up) (c:Rat->Int):Prop:=∀ d:Rat,0<d->∃ x y,c x=1/\c y=-1/\∀ q,x<=q->q<=y->Fj (ev p q)<d
def NZ (p:Up) (c:Rat->Int) (s:Int):Prop:=∃ d:Rat,0<d/\∃ x y,c x=1/\c y=-1/\∀ q,x<=q->q<=y->Fg (ev p q)=s/\d<=Fj (ev p q)
def Nr (c:Rat->Int) (P:Rat->Prop):Prop:=∃ x y,c x=1/\c y=-1/\∀ q,x<=q->q<=y->P q
theorem bK {c:Rat->Int} {P Q:Rat->Prop} (h1:Nr c P) (h2:Nr c Q):Nr c λq=>P q/\Q q:=by
 obtain ⟨x,y,a1,a2,a3⟩:=h1;obtain ⟨x',y',b1,b2,b3⟩:=h2;refine ⟨if x<=x' then x' else x,if y<=y' then y else y',by split <;> assumption,by split <;> assumption,λq q1 q2=>⟨a3 q ?_ ?_,b3 q ?_ ?_⟩⟩ <;> clear a3 b3 <;> grind
theorem MI {c:Rat->Int} {P Q:Rat->Prop} (h1:Nr c P) (h:∀ q,P q->Q q):Nr c Q:=by
 obtain ⟨x,y,a1,a2,a3⟩:=h1;exact ⟨x,y,a1,a2,λq q1 q2=>h q (a3 q q1 q2)⟩
theorem gR {c:Rat->Int} (hc:Cut c) {P:Rat->Prop} (h1:Nr c P):∃ q,P q/\c q=1:=by
 obtain ⟨x,y,a1,a2,a3⟩:=h1;exact ⟨x,a3 x Qp (Qt (hc.lt a1 a2)),a1⟩
theorem Qjd {c:Rat->Int} (hc:Cut c) {e:Rat} (he:0<e) {P:Rat->Prop} (h1:Nr c P):∃ x y,c x=1/\c y=-1/\y-x<=e/\x<y/\∀ q,x<=q->q<=y->P q:=by
 obtain ⟨x,y,a1,a2,a3⟩:=h1;obtain ⟨x',y',b1,b2,b3⟩:=hc.near he;refine ⟨if x<=x' then x' else x,if y<=y' then y else y',by split <;> assumption,by split <;> assumption,by clear a3; grind,hc.lt (by split <;> assumption) (by split <;> assumption),λq q1 q2=>a3 q ?_ ?_⟩ <;> clear a3 <;> grind
theorem Qsm {c:Rat->Int} (hc:Cut c):∃ R:Rat,0<=R/\Nr c λq=>Fj q<=R:=by
 obtain ⟨x,y,a1,a2,_⟩:=hc.near (e:=1) (by decide);obtain ⟨R,hR,h1,h2⟩:=xY x y;exact ⟨R,hR,x,y,a1,a2,λq q1 q2=>FK h1 h2 q1 q2⟩
theorem YZ {c:Rat->Int} (hc:Cut c) (p:Up):I3 p c\/∃ s,s≠0/\NZ p c s:=by
 rcases Classical.em (I3 p c) with h | h
 ·exact .inl h
 ·refine .inr ?_;obtain ⟨d,hd0⟩:=Classical.not_forall.1 h;obtain ⟨dp,hd⟩:=Classical.not_imp.1 hd0;have hd:∀ x y,c x=1->c y=-1->∃ q,x<=q/\q<=y/\d<=Fj (ev p q):=λx y hx hy=>by
   rcases Classical.em (∃ q,x<=q/\q<=y/\d<=Fj (ev p q)) with h' | h'
   ·exact h'
   ·refine absurd ⟨x,y,hx,hy,λq h1 h2=>?_⟩ hd;rcases Gg d (Fj (ev p q)) with h3 | h3
    ·exact absurd ⟨q,h1,h2,h3⟩ h'
    ·exact h3
  obtain ⟨R,hR,hn⟩:=Qsm hc;have hd2:0<d / 2:=Ai dp (by decide);have h2:d / 2*2=d:=Hf (by decide);obtain ⟨e,e1,_,e3⟩:=Hi (M6 hR p) hd2;obtain ⟨x,y,hx,hy,hxy,_,hq⟩:=Qjd hc e1 hn;obtain ⟨r,r1,r2,r3⟩:=hd x y hx hy;have key:∀ q,x<=q->q<=y->Fj (ev p q-ev p r)<d / 2:=λq q1 q2 =>
   Mf (hq r r1 r2) (hq q q1 q2) hR (by rw [Mi]; clear hq hd; constructor <;> grind) e3
  refine ⟨Fg (ev p r),λh0=>?_,d / 2,hd2,x,y,hx,hy,λq q1 q2=>⟨(Pz (d:=d) r3 ?_).1,?_⟩⟩
  ·rw [Gq.1 h0,Rj] at r3; clear hq hd key; grind
  ·have:=key q q1 q2; clear hq hd key; grind
  ·have h3:=key q q1 q2;have h4:=Sr (ev p r-ev p q) (ev p q);rw [show ev p r-ev p q+ev p q=ev p r from by clear hq hd key; grind,oN] at h4;clear hq hd key; grind
theorem Qwt {c:Rat->Int} (hc:Cut c) {p:Up} {s:Int} (h1:I3 p c) (h2:NZ p c s):False:=by
 obtain ⟨d,dp,h2⟩:=h2;obtain ⟨q,⟨a,b⟩,_⟩:=gR hc (bK (h1 d dp) h2);exact absurd b.2 (Jr.2 a)
theorem Mb {c:Rat->Int} (hc:Cut c) {f p q:Up} (hf:∀ t,ev f t=ev p t*ev q t) (h:I3 p c):I3 f c:=by
 intro d dp;obtain ⟨R,hR,hn⟩:=Qsm hc;obtain ⟨e,e1,_,e3⟩:=Hi (XF hR q) dp;refine MI (bK hn (h e e1)) λt ⟨h1,h2⟩=>?_
 rw [hf];have:=Hd (Qt h2) (SU h1 q);exact Jr.1 λh=>absurd (Zl h this) (Jr.2 e3)
theorem NP {c:Rat->Int} {f p q:Up} (hf:∀ t,ev f t=ev p t+ev q t) (h:I3 p c) (h':I3 q c):I3 f c:=by
 intro d dp;have hd2:0<d / 2:=Ai dp (by decide);have h2:d / 2*2=d:=Hf (by decide);refine MI (bK (h _ hd2) (h' _ hd2)) λt ⟨h1,h2⟩=>?_
 rw [hf];have:=Sr (ev p t) (ev q t);grind
def RS (p:Up) (c:Rat->Int) (s:Int):Prop:=∃ y,c y=-1/\∀ q,c q=-1->q<=y->Fg (ev p q)=s
def LS (p:Up) (c:Rat->Int) (s:Int):Prop:=∃ x,c x=1/\∀ q,c q=1->x<=q->Fg (ev p q)=s
theorem zG {c:Rat->Int} (hc:Cut c) {p:Up} {s:Int} (h:NZ p c s):RS p c s:=by
 obtain ⟨d,dp,x,y,a1,a2,a3⟩:=h;exact ⟨y,a2,λq h1 h2=>(a3 q (Qt (hc.lt a1 h1)) h2).1⟩
theorem iV {c:Rat->Int} (hc:Cut c) {p:Up} {s:Int} (h:NZ p c s):LS p c s:=by
 obtain ⟨d,dp,x,y,a1,a2,a3⟩:=h;exact ⟨x,a1,λq h1 h2=>(a3 q h2 (Qt (hc.lt h1 a2))).1⟩
theorem GG {c:Rat->Int} {p:Up} {s s':Int} (h:RS p c s) (h':RS p c s'):s=s':=by
 obtain ⟨y,a1,a2⟩:=h;obtain ⟨y',b1,b2⟩:=h';rcases Gg y y' with e | e
 ·rw [<-a2 y a1 Qp,<-b2 y a1 e]
 ·rw [<-a2 y' b1 (Qt e),<-b2 y' b1 Qp]
theorem Qsr {c:Rat->Int} (hc:Cut c) {p:Up} (hv:I3 p c) {y:Rat} (hy:c y=-1) (h:∀ q,c q=-1->q<=y->0<dv p q) (q:Rat) (hq:c q=-1) (hqy:q<=y):0<ev p q:=by
 rcases Gg (ev p q) 0 with h0 | h0
 ·exfalso;obtain ⟨r,r1,r2⟩:=hc.dn q hq;have hr:ev p r<ev p q:=Qqe r1 λt t1 t2=>h t (by
   rcases Classical.em (r=t) with e | e
   ·rw [<-e]; exact r2
   ·exact hc.mono r t (by clear h; grind) (by omega)) (Zl t2 hqy)
  obtain ⟨a,b,ha,hb,hab⟩:=hv (-ev p r) (by clear h; grind);obtain ⟨m,hm1,hm2,hm3⟩:∃ m,c m=-1/\m<=b/\m<=r:=by
   rcases Gg b r with e | e
   ·exact ⟨b,hb,Qp,e⟩
   ·exact ⟨r,r2,Qt e,Qp⟩
  have h1:=hab m (Qt (hc.lt ha hm1)) hm2;have h2:ev p m<=ev p r:=by
   rcases Classical.em (m=r) with e | e
   ·rw [e]; exact Qp
   ·exact Qt (Qqe (by clear h hab; grind) λt t1 t2=>h t (by
     rcases Classical.em (m=t) with e | e
     ·rw [<-e]; exact hm1
     ·exact hc.mono m t (by clear h hab; grind) (by omega)) (by clear h hab; grind))
  rw [vY] at h1;clear h hab; grind
 ·exact h0
theorem vF {c:Rat->Int} (hc:Cut c) {p:Up} {s:Int} (hv:I3 p c) (h:RS (Bp p) c s) (hs:s≠0):RS p c s:=by
 obtain ⟨y,hy,h⟩:=h;have hsv:s=1\/s=-1:=by
  have:=h y hy Qp;rcases Fz (ev (Bp p) y) with ⟨e,_⟩ | ⟨e,_⟩ | ⟨e,_⟩ <;> omega
 rcases hsv with rfl | rfl
 ·refine ⟨y,hy,λq h1 h2=>Hy.2 (Qsr hc hv hy (λq h1 h2=>?_) q h1 h2)⟩;rw [<-Tr]; exact Hy.1 (h q h1 h2)
 ·refine ⟨y,hy,λq h1 h2=>Ph.2 ?_⟩;have:=Qsr hc (p:=D6 (-1) p) (y:=y) (λd dp=>MI (hv d dp) λq hq=>by rw [Gt,show -1*ev p q=-ev p q by grind,Ew]; exact hq) hy (λq h1 h2=>by
   rw [RZ,<-Tr];have:=Ph.1 (h q h1 h2); grind) q h1 h2
  rw [Gt] at this; grind
theorem Qsi {c:Rat->Int} (hc:Cut c) {p:Up} (hv:I3 p c) {x:Rat} (hx:c x=1) (h:∀ q,c q=1->x<=q->0<dv p q) (q:Rat) (hq:c q=1) (hxq:x<=q):ev p q<0:=by
 rcases Gg 0 (ev p q) with h0 | h0
 ·exfalso;obtain ⟨r,r1,r2⟩:=hc.up q hq;have hr:ev p q<ev p r:=Qqe r1 λt t1 t2=>h t (by
   rcases Classical.em (t=r) with e | e
   ·rw [e]; exact r2
   ·exact hc.mono' (q:=t) (r:=r) (by clear h; grind) (by omega)) (Zl hxq t1)
  obtain ⟨a,b,ha,hb,hab⟩:=hv (ev p r) (by clear h; grind);obtain ⟨m,hm1,hm2,hm3⟩:∃ m,c m=1/\a<=m/\r<=m:=by
   rcases Gg a r with e | e
   ·exact ⟨r,r2,e,Qp⟩
   ·exact ⟨a,ha,Qp,Qt e⟩
  have h1:=hab m hm2 (Qt (hc.lt hm1 hb));have h2:ev p r<=ev p m:=by
   rcases Classical.em (r=m) with e | e
   ·rw [e]; exact Qp
   ·exact Qt (Qqe (by clear h hab; grind) λt t1 t2=>h t (by
     rcases Classical.em (t=m) with e | e
     ·rw [e]; exact hm1
     ·exact hc.mono' (q:=t) (r:=m) (by clear h hab; grind) (by omega)) (by clear h hab; grind))
  rw [vY] at h1;clear h hab; grind
 ·exact h0
theorem Qiu {c:Rat->Int} (hc:Cut c) {p:Up} {s:Int} (hv:I3 p c) (h:LS (Bp p) c s) (hs:s≠0):LS p c (-s):=by
 obtain ⟨x,hx,h⟩:=h;have hsv:s=1\/s=-1:=by
  have:=h x hx Qp;rcases Fz (ev (Bp p) x) with ⟨e,_⟩ | ⟨e,_⟩ | ⟨e,_⟩ <;> omega
 rcases hsv with rfl | rfl
 ·refine ⟨x,hx,λq h1 h2=>Ph.2 (Qsi hc hv hx (λq h1 h2=>?_) q h1 h2)⟩;rw [<-Tr]; exact Hy.1 (h q h1 h2)
 ·refine ⟨x,hx,λq h1 h2=>Hy.2 ?_⟩;have:=Qsi hc (p:=D6 (-1) p) (x:=x) (λd dp=>MI (hv d dp) λq hq=>by rw [Gt,show -1*ev p q=-ev p q by grind,Ew]; exact hq) hx (λq h1 h2=>by
   rw [RZ,<-Tr];have:=Ph.1 (h q h1 h2); grind) q h1 h2
  rw [Gt] at this; grind
theorem Qqm {c:Rat->Int} (hc:Cut c) {f g:Up} {l:Uq} (h:SCl f g l):I3 f c->I3 g c->False:=by
 induction h with
 |
  @base f g k hk hg =>
  intro _ hv;obtain ⟨q,hq,_⟩:=gR hc (hv (Fj k) (Cz hk));rw [hg] at hq; grind
 |
  @step f g h l a b q ha hb he hl ih =>
  intro hf hg;refine ih hg ?_;have h1:I3 (G7 q g) c:=Mb hc (p:=g) (q:=q) (λt=>by rw [Fh]; grind) hg;have h2:I3 (D6 (-a) f) c:=Mb hc (p:=f) (q:=[-a]) (λt=>by rw [Gt]; simp only [ev]; grind) hf;have h3:I3 (Ss (G7 q g) (D6 (-a) f)) c:=NP (λt=>Gz t _ _) h1 h2;refine Mb hc (p:=Ss (G7 q g) (D6 (-a) f)) (q:=[1 / b]) (λt=>?_) h3;have:=he t;rw [Gz,Fh,Gt];simp only [ev];have hbb:1 / b*b=1:=Hf hb;have:ev q t*ev g t+-a*ev f t=b*ev h t:=by rw [show -a*ev f t=-(a*ev f t) by grind,he t]; grind
  rw [this];have:b*ev h t*(1 / b+t*0)=ev h t*(1 / b*b):=by grind
  rw [this,hbb]; grind
theorem xX {c:Rat->Int} (hc:Cut c) {f g:Up} {k:Rat} (h:∀ t,ev g t=k*ev f t) (hv:I3 f c):I3 g c :=
 Mb hc (p:=f) (q:=[k]) (λt=>by rw [h]; simp only [ev]; grind) hv
theorem Qqx {c:Rat->Int} (hc:Cut c) {f:Up} {L:Uq} (h:HV f L) (hv:I3 f c):∃ s,s≠0/\NZ (Bp f) c s:=by
 rcases YZ hc (Bp f) with h1 | h1
 ·exfalso;rcases h with ⟨k,hk,hf,_⟩ | ⟨g,l,k,hk,hg,h,_⟩
  ·obtain ⟨q,hq,_⟩:=gR hc (hv (Fj k) (Cz hk));rw [hf] at hq; grind
  ·exact Qqm hc h hv (xX hc (λt=>by rw [hg,Tr]) h1)
 ·exact h1
theorem eD {c:Rat->Int} (hc:Cut c) {f w u:Up} {L:Uq} (h:HV f L) (hf:∀ t,ev f t=ev w t*ev u t) (hv:I3 w c):∃ s,s≠0/\NZ (Bp w) c s:=by
 rcases YZ hc (Bp w) with h1 | h1
 ·exfalso;obtain ⟨s,_,hs⟩:=Qqx hc h (Mb hc hf hv);refine Qwt hc ?_ hs;have a1:I3 (G7 (Bp w) u) c:=Mb hc (λt=>Fh t _ _) h1;have a2:I3 (G7 w (Bp u)) c:=Mb hc (λt=>Fh t _ _) hv;refine NP (λt=>?_) a1 a2;rw [Tr,QP hf,Fh,Fh,Tr,Tr]
 ·exact h1
theorem Qgy {c:Rat->Int} (hc:Cut c) {q:Rat} (h:c q=0) {x y:Rat} (hx:c x=1) (hy:c y=-1):x<=q/\q<=y:=by
 constructor
 ·rcases Gg x q with e | e
  ·exact e
  ·have:=hc.mono q x e (by omega); omega
 ·rcases Gg q y with e | e
  ·exact e
  ·have:=hc.mono y q e (by omega); omega
theorem TL {c:Rat->Int} (hc:Cut c) {p:Up} {q:Rat} (h:c q=0) (hv:I3 p c):ev p q=0:=by
 rcases Classical.em (ev p q=0) with e | e
 ·exact e
 ·obtain ⟨x,y,hx,hy,hq⟩:=hv _ (Cz e);obtain ⟨h1,h2⟩:=Qgy hc h hx hy;have:=hq q h1 h2; grind
theorem gC {c:Rat->Int} (hc:Cut c) {p:Up} {q:Rat} {s:Int} (h:c q=0) (hv:NZ p c s):Fg (ev p q)=s:=by
 obtain ⟨d,dp,x,y,hx,hy,hq⟩:=hv;obtain ⟨h1,h2⟩:=Qgy hc h hx hy;exact (hq q h1 h2).1
theorem mM {c:Rat->Int} (hc:Cut c) {y z:Rat} (hy:c y=-1) (hz:c z=-1):∃ q,c q=-1/\q<y/\q<z:=by
 obtain ⟨a,a1,a2⟩:=hc.dn y hy;obtain ⟨b,b1,b2⟩:=hc.dn z hz;rcases Gg a b with e | e
 ·exact ⟨a,a2,a1,by grind⟩
 ·exact ⟨b,b2,by grind,b1⟩
theorem CG {c:Rat->Int} (hc:Cut c) {y z:Rat} (hy:c y=1) (hz:c z=1):∃ q,c q=1/\y<q/\z<q:=by
 obtain ⟨a,a1,a2⟩:=hc.up y hy;obtain ⟨b,b1,b2⟩:=hc.up z hz;rcases Gg a b with e | e
 ·exact ⟨b,b2,by grind,b1⟩
 ·exact ⟨a,a2,a1,by grind⟩
theorem Qjc {f w u:Up} {L:Uq} (h:HV f L) (hf:∀ t,ev f t=ev w t*ev u t) {x y:Rat} (hv:vv L x=vv L y) {c:Rat->Int} (hc:Cut c) (hx:c x=1) (hy:c y≠1):¬I3 w c:=λhw=>by
 have hxy:x<y:=by
  rcases Gg y x with e | e
  ·rcases Classical.em (y=x) with e' | e'
   ·rw [e'] at hy; exact absurd hx hy
   ·have:=hc.mono y x (by grind) hy; omega
  ·exact e
 have hwv:=KW h hf hxy hv;rcases hc.val y with e | e | e
 ·exact hy e
 ·have:=TL hc e hw;have:=hwv.s;rw [Gq.2 (by assumption)] at this;exact hwv.n this.symm
 ·obtain ⟨s,hs,hd⟩:=eD hc h hf hw;obtain ⟨a,ha,hal⟩:=Qiu hc hw (iV hc hd) hs;obtain ⟨b,hb,hbr⟩:=vF hc hw (zG hc hd) hs;obtain ⟨q,q1,q2,q3⟩:=CG hc hx ha;obtain ⟨r,r1,r2,r3⟩:=mM hc hb e;have e1:=hal q q1 (Qt q3);have e2:=hbr r r1 (Qt r2);have hqr:=hc.lt q1 r1;have v1:vv L q<=vv L x:=A4 h q2;have v2:vv L y<=vv L r:=A4 h r3;have v3:vv L r<=vv L q:=A4 h hqr;have s1:=(KW h hf q2 (by omega)).s;have s2:=(KW h hf (x:=x) (y:=r) (by grind) (by omega)).s;omega
theorem vL {f:Up} {L:Uq} (h:HV f L) {x y:Rat} (hxy:x<y) (hv:vv L x≠vv L y) {d:Rat} (dp:0<d):∃ q,x<=q/\q<=y/\Fj (ev f q)<d:=by
 obtain ⟨R,hR,hx,hy⟩:=xY x y;obtain ⟨e1,e1p,hl⟩:=loc hR h (w:=f) (u:=[1]) (λt=>by rw [Te]; grind);obtain ⟨e2,e2p,_,e2b⟩:=Hi (M6 hR f) dp;obtain ⟨e,ep,h1,h2⟩:=min2 e1p e2p;have key:∀ n:Nat,∀ x,Fj x<=R->x<y->vv L x≠vv L y->y-x<=(n:Rat)*e->∃ q,x<=q/\q<=y/\Fj (ev f q)<d:=by
  intro n
  induction n with
  | zero=>intro x hx hxy _ hn; rw [show ((0:Nat):Rat)=0 from rfl] at hn; exfalso; clear hl; grind
  |
   succ n ih =>
   intro x hx hxy hv hn;have hstep:∀ z,Fj z<=R->x<z->z-x<=e->vv L x≠vv L z->Fj (ev f z)<d:=λz hz hxz hze hv=>by
    rcases hl x z hx hz hxz (Zl hze h1) with ⟨p,_⟩ | ⟨_,p1,p2,p3,p4⟩
    ·exact absurd p hv
    ·have hd:=Mf (p:=f) hx hz hR (e:=e2) (d:=d) (by rw [Mi]; clear hl ih; constructor <;> grind) e2b;rw [<-p3] at p1 p4;clear hl ih p2 p3;rw [vY] at *;rcases Fz (ev f x) with ⟨a,a'⟩ | ⟨a,a'⟩ | ⟨a,a'⟩ <;> rcases Fz (ev f z) with ⟨b,b'⟩ | ⟨b,b'⟩ | ⟨b,b'⟩ <;> rw [a,b] at p4 <;> first | (exfalso; revert p4; decide) | skip
     all_goals first | (constructor <;> grind) | (exfalso; omega)
   rcases Gg (y-x) e with h3 | h3
   ·exact ⟨y,Qt hxy,Qp,hstep y hy hxy h3 hv⟩
   ·have hm:Fj (x+e)<=R:=FK hx hy (by clear hl ih hstep; grind) (by clear hl ih hstep; grind);rcases Classical.em (vv L x=vv L (x+e)) with e0 | e0
    ·have hn':(((n+1:Nat):Rat))=(n:Rat)+1:=by push_cast; rfl
     rw [hn'] at hn;obtain ⟨q,q1,q2,q3⟩:=ih (x+e) hm (by clear hl ih hstep; grind) (by omega) (by clear hl ih hstep; grind);exact ⟨q,by clear hl ih hstep; grind,q2,q3⟩
    ·exact ⟨x+e,by clear hl ih hstep; grind,by clear hl ih hstep; grind,hstep (x+e) hm (by clear hl ih hstep; grind) (by clear hl ih hstep; grind) e0⟩
 obtain ⟨n,hn⟩:=ZI (z:=y-x) ep;exact key n x hx hxy hv hn
theorem Qyg {p:Up} {x:Rat} (h:Pu p x≠0):∃ e:Rat,0<e/\∀ y,x<y->y-x<=e->Fg (ev p y)=Pu p x:=by
 by_cases h0:Fg (ev p x)=0
 ·have hx:=Gq.1 h0;rw [nE h0] at h ⊢;have hR:0<=Fj x+1:=by have:=Hw x; grind
  obtain ⟨e,e1,e2,e3⟩:=Hi (CP hR p) (Cz (x:=dv p x) λh'=>h (Gq.2 h'));refine ⟨e,e1,λy h1 h2=>?_⟩;have hy:Fj y<=Fj x+1:=by
   have:=Sr x (y-x);have e:x+(y-x)=y:=by grind
   have e':Fj (y-x)=y-x:=by unfold Fj; split <;> grind
   rw [e,e'] at this; grind
  have:=LP (p:=p) (by grind) hy hR h1 h2 Qp e3;rw [hx] at this;rw [<-this]; congr 1; grind
 ·rw [Ao h0] at h ⊢;obtain ⟨e,e1,e2⟩:=UM h;exact ⟨e,e1,λy h1 h2=>e2 y (by rw [Mi]; constructor <;> grind)⟩
def cq (P:Up) (lo hi q:Rat):Int:=if q<=lo then 1 else if hi<q then -1 else if Fg (ev P q)=0 then 0 else if Fg (ev P q)=Pu P lo then 1 else -1
structure Vt (P:List Rat) (L:List (List Rat)) (lo hi:Rat):Prop where
 s:HV P L
 l:lo<hi
 v:vv L lo=vv L hi+1
variable {P:Up} {L:Uq} {lo hi:Rat}
theorem Ah {q:Rat} (h:q<=lo):cq P lo hi q=1:=by unfold cq; rw [if_pos h]
theorem UN {q:Rat} (h:lo<hi) (h':hi<q):cq P lo hi q=-1:=by unfold cq; rw [if_neg (by grind),if_pos h']
theorem Is {q:Rat} (h1:lo<q) (h2:q<=hi):cq P lo hi q=if Fg (ev P q)=0 then 0 else if Fg (ev P q)=Pu P lo then 1 else -1:=by
 unfold cq; rw [if_neg (by grind),if_neg (by grind)]
theorem Vt.two (V:Vt P L lo hi) {q:Rat} (h1:lo<q) (h2:q<=hi):vv L q=vv L lo/\cq P lo hi q=1/\Fg (ev P q)=Pu P lo\/vv L q=vv L hi/\cq P lo hi q≠1/\Pu P q=-Pu P lo/\Pu P lo≠0:=by
 have a:=A4 V.s h1;have b:vv L hi<=vv L q:=by
  rcases Classical.em (q=hi) with e | e
  ·rw [e]; exact Ql _
  ·exact A4 V.s (by grind)
 have hv:=V.v;rcases (show vv L q=vv L lo\/vv L q=vv L hi by omega) with e | e
 ·have hs:=kX V.s h1 e.symm;refine .inl ⟨e,?_,hs.s⟩;rw [Is h1 h2,hs.s,if_neg hs.n,if_pos rfl]
 ·obtain ⟨o1,o2⟩:=kZ V.s h1 (by omega);refine .inr ⟨e,?_,o2,o1⟩;rw [Is h1 h2]
  split
  ·decide
  ·rename_i h0;rw [Ao h0] at o2;rw [if_neg (by omega)]; decide
theorem Vt.lowlo (V:Vt P L lo hi):Pu P lo≠0:=(kZ V.s V.l V.v).1
theorem Vt.eq_lo (V:Vt P L lo hi) {q:Rat} (h1:lo<q) (h2:q<=hi) (h:cq P lo hi q=1):vv L q=vv L lo:=by
 rcases V.two h1 h2 with ⟨e,_⟩ | ⟨_,e,_⟩
 ·exact e
 ·exact absurd h e
theorem Vt.eq_hi (V:Vt P L lo hi) {q:Rat} (h1:lo<q) (h2:q<=hi) (h:cq P lo hi q≠1):vv L q=vv L hi:=by
 rcases V.two h1 h2 with ⟨_,e,_⟩ | ⟨e,_⟩
 ·exact absurd e h
 ·exact e
theorem Vt.hi1 (V:Vt P L lo hi):cq P lo hi hi≠1:=λh=>by have:=V.eq_lo V.l Qp h; have:=V.v; omega
theorem Vt.cut (V:Vt P L lo hi):Cut (cq P lo hi) where
 val q:=by unfold cq; split <;> (try split) <;> (try split) <;> (try split) <;> simp
 mono q r h h1:=by
  have hq:lo<q:=by
   rcases Gg q lo with e | e
   ·exact absurd (Ah e) h1
   ·exact e
  rcases Gg r hi with e | e
  ·have e1:=V.eq_hi hq (by grind) h1;rcases V.two (q:=r) (by grind) e with ⟨e2,_⟩ | ⟨e2,_,e3,e4⟩
   ·have:=A4 V.s h; have:=V.v; omega
   ·have hs:=kX V.s h (by omega);rcases V.two hq (by grind) with ⟨e5,_⟩ | ⟨_,_,e5,_⟩
    ·have:=V.v; omega
    ·rw [Is (by grind) e,hs.s,if_neg hs.n,e5,if_neg (by omega)]
  ·exact UN V.l e
 up q h:=by
  rcases Gg q lo with e | e
  ·obtain ⟨d,dp,hd⟩:=Qyg V.lowlo;obtain ⟨f,fp,f1,f2⟩:=min2 (a:=d) (b:=hi-lo) dp (by have:=V.l; grind);have h1:lo<lo+f:=by clear hd; grind
   have h2:lo+f<=hi:=by clear hd; grind
   have:=hd (lo+f) h1 (by clear hd; grind);exact ⟨lo+f,by clear hd; grind,by rw [Is h1 h2,this,if_neg V.lowlo,if_pos rfl]⟩
  ·have hh:q<=hi:=by
    rcases Gg q hi with e' | e'
    ·exact e'
    ·have:=UN (P:=P) V.l e'; omega
   rcases V.two e hh with ⟨e1,_,e2⟩ | ⟨_,e1,_⟩
   ·have hn:q≠hi:=λh=>by rw [h] at e1; have:=V.v; omega
    obtain ⟨d,dp,hd⟩:=UM (p:=P) (x:=q) (by rw [e2]; exact V.lowlo);obtain ⟨f,fp,f1,f2⟩:=min2 (a:=d) (b:=hi-q) dp (by clear hd; grind);have:=hd (q+f) (by rw [Mi]; clear hd; constructor <;> grind);exact ⟨q+f,by clear hd; grind,by rw [Is (by clear hd; grind) (by clear hd; grind),this,e2,if_neg V.lowlo,if_pos rfl]⟩
   ·exact absurd h e1
 dn q h:=by
  have hq:lo<q:=by
   rcases Gg q lo with e | e
   ·have:=Ah (P:=P) (hi:=hi) e; omega
   ·exact e
  rcases Gg q hi with e | e
  ·rw [Is hq e] at h
   split at h
   ·cases h
   rename_i h0
   split at h
   ·cases h
   rename_i h1;obtain ⟨d,dp,hd⟩:=UM h0;obtain ⟨f,fp,f1,f2⟩:=min2 (a:=d) (b:=(q-lo) / 2) dp (Ai (by clear hd; grind) (by decide));have h2:(q-lo) / 2*2=q-lo:=Hf (by decide);have:=hd (q-f) (by rw [Mi]; clear hd; constructor <;> grind);exact ⟨q-f,by clear hd; grind,by rw [Is (by clear hd; grind) (by clear hd; grind),this,if_neg h0,if_neg h1]⟩
  ·have h2:(q-hi) / 2*2=q-hi:=Hf (by decide);exact ⟨q-(q-hi) / 2,by grind,UN V.l (by grind)⟩
 lo:=⟨lo,Ah Qp⟩
 hi:=⟨hi+1,UN V.l (by grind)⟩
theorem Vt.van (V:Vt P L lo hi):I3 P (cq P lo hi):=by
 have hc:=V.cut;rcases YZ hc P with h | ⟨s,hs,h⟩
 ·exact h
 ·exfalso;have e1:s=Pu P lo:=by
   obtain ⟨x,hx,hx1⟩:=iV hc h;obtain ⟨q,q1,q2,q3⟩:=CG hc hx (Ah (P:=P) (hi:=hi) (Qp (a:=lo)));have hq:q<=hi:=by
    rcases Gg q hi with e | e
    ·exact e
    ·have:=UN (P:=P) V.l e; omega
   rcases V.two q3 hq with ⟨_,_,e⟩ | ⟨_,e,_⟩
   ·rw [<-hx1 q q1 (Qt q2),e]
   ·exact absurd q1 e
  rcases hc.val hi with e | e | e
  ·exact V.hi1 e
  ·have h0:=gC hc e h;rw [Is V.l Qp] at e
   split at e
   ·omega
   ·split at e <;> omega
  ·obtain ⟨y,hy,hy1⟩:=zG hc h;obtain ⟨q,q1,q2,q3⟩:=mM hc hy e;have hq:lo<q:=hc.lt (Ah (P:=P) (hi:=hi) (Qp (a:=lo))) q1;have:=hy1 q q1 (Qt q2);rw [Is hq (Qt q3),this,if_neg hs,if_pos e1] at q1;cases q1
def nW (w:Up) (lo hi:Rat):Prop:=Fg (ev w hi)=0\/Fg (ev w hi)≠Pu w lo
theorem Vt.has (V:Vt P L lo hi) {w u:Up} (hf:∀ t,ev P t=ev w t*ev u t) {a b:Rat} (h1:lo<=a) (h2:a<b) (h3:b<=hi):nW w a b↔I3 w (cq P lo hi)/\cq P lo hi a=1/\cq P lo hi b≠1:=by
 have hc:=V.cut;have smno:vv L a=vv L b->¬nW w a b:=λh hh=>by
  have:=KW V.s hf h2 h;rcases hh with e | e
  ·rw [this.s] at e; exact this.n e
  ·exact e this.s
 by_cases ha:cq P lo hi a=1
 ·by_cases hb:cq P lo hi b=1
  ·have e1:=V.eq_lo (by grind) h3 hb;have e2:vv L a=vv L lo:=by
    rcases Classical.em (lo=a) with e | e
    ·rw [e]
    ·exact V.eq_lo (by grind) (by grind) ha
   exact ⟨λh=>absurd h (smno (by omega)),λh=>absurd hb h.2.2⟩
  ·have e1:=V.eq_hi (by grind) h3 hb;have e2:vv L a=vv L lo:=by
    rcases Classical.em (lo=a) with e | e
    ·rw [e]
    ·exact V.eq_lo (by grind) (by grind) ha
   have left:∀ s,LS w (cq P lo hi) s->s=Pu w a:=λs hs=>by
    obtain ⟨x,hx,hx1⟩:=hs;obtain ⟨q,q1,q2,q3⟩:=CG hc hx ha;have hqb:q<b:=by
     rcases Gg b q with e | e
     ·rcases Classical.em (b=q) with e' | e'
      ·rw [e'] at hb; exact absurd q1 hb
      ·have:=hc.mono b q (by clear hx1 smno; grind) hb; omega
     ·exact e
    have:=V.eq_lo (q:=q) (by clear hx1 smno; grind) (by clear hx1 smno; grind) q1;rw [<-(KW V.s hf q3 (by omega)).s,hx1 q q1 (Qt q2)]
   have right:∀ s,RS w (cq P lo hi) s->cq P lo hi b=-1->s=Fg (ev w b):=λs hs hb=>by
    obtain ⟨y,hy,hy1⟩:=hs;obtain ⟨q,q1,q2,q3⟩:=mM hc hy hb;have hqa:=hc.lt ha q1;have:=V.eq_hi (q:=q) (by clear hy1 smno; grind) (by clear hy1 smno; grind) (by omega);have hs:=KW V.s hf q3 (by omega);have hl:=hy1 q q1 (Qt q2);have h0:Fg (ev w q)≠0:=by
     have hs2:=KW V.s hf (x:=q) (y:=b) q3 (by omega);intro h0;obtain ⟨r,r1,r2⟩:=hc.dn q q1;have har:=hc.lt ha r2;have:=V.eq_hi (q:=r) (by clear hy1 smno; grind) (by clear hy1 smno; grind) (by omega);have hs3:=KW V.s hf (x:=r) (y:=q) r1 (by omega);have hs4:=hs3.s;rw [h0] at hs4; exact hs3.n hs4.symm
    rw [hs.s,Ao h0,hl]
   refine ⟨λh=>⟨?_,ha,hb⟩,λ⟨hw,_,_⟩=>?_⟩
   ·rcases YZ hc w with e | ⟨s,AP,hs⟩
    ·exact e
    ·exfalso;have l1:=left s (iV hc hs);have r1:Fg (ev w b)=s:=by
      rcases hc.val b with e | e | e
      ·exact absurd e hb
      ·exact gC hc e hs
      ·exact (right s (zG hc hs) e).symm
     rcases h with h | h
     ·exact AP (by rw [<-r1]; exact h)
     ·exact h (by rw [r1,l1])
   ·rcases hc.val b with e | e | e
    ·exact absurd e hb
    ·exact .inl (Gq.2 (TL hc e hw))
    ·obtain ⟨s,AP,hs⟩:=eD hc V.s hf hw;have l1:=left _ (Qiu hc hw (iV hc hs) AP);have r1:=right _ (vF hc hw (zG hc hs) AP) e;exact .inr (by rw [<-l1,<-r1]; omega)
 ·have hla:lo<a:=by
   rcases Classical.em (lo=a) with e | e
   ·rw [<-e] at ha; exact absurd (Ah Qp) ha
   ·grind
  have hb:cq P lo hi b≠1:=by have:=hc.mono a b h2 ha; omega
  have e1:=V.eq_hi hla (by grind) ha;have e2:=V.eq_hi (q:=b) (by grind) h3 hb;exact ⟨λh=>absurd h (smno (by omega)),λh=>absurd h.2.1 ha⟩
theorem uY {c c':Rat->Int} (hc:Cut c) (hc':Cut c') {q:Rat} (h:c q≠c' q):∃ r,(c r=-1/\c' r=1)\/(c r=1/\c' r=-1):=by
 rcases hc.val q with e | e | e <;> rcases hc'.val q with e' | e' | e'
 ·omega
 ·obtain ⟨r,r1,r2⟩:=hc.up q e;exact ⟨r,.inr ⟨r2,hc'.mono q r r1 (by omega)⟩⟩
 ·exact ⟨q,.inr ⟨e,e'⟩⟩
 ·obtain ⟨r,r1,r2⟩:=hc'.up q e';exact ⟨r,.inl ⟨hc.mono q r r1 (by omega),r2⟩⟩
 ·omega
 ·obtain ⟨r,r1,r2⟩:=hc'.dn q e';exact ⟨r,.inr ⟨hc.mono' r1 (by omega),r2⟩⟩
 ·exact ⟨q,.inl ⟨e,e'⟩⟩
 ·obtain ⟨r,r1,r2⟩:=hc.dn q e;exact ⟨r,.inl ⟨r2,hc'.mono' r1 (by omega)⟩⟩
 ·omega
theorem Vt.uniq (V:Vt P L lo hi) {c:Rat->Int} (hc:Cut c) (h1:c lo=1) (h2:c hi≠1) (hv:I3 P c) (q:Rat):c q=cq P lo hi q:=by
 rcases Classical.em (c q=cq P lo hi q) with e | e
 ·exact e
 ·exfalso;obtain ⟨r,⟨r1,r2⟩ | ⟨r1,r2⟩⟩:=uY hc V.cut e
  ·have hl:=hc.lt h1 r1;have hh:r<=hi:=by
    rcases Gg r hi with e | e
    ·exact e
    ·have:=UN (P:=P) V.l e; omega
   have:=V.eq_lo hl hh r2;exact Qjc V.s (w:=P) (u:=[1]) (λt=>by rw [Te]; grind) (x:=lo) (y:=r) (by omega) hc h1 (by omega) hv
  ·have hl:lo<r:=by
    rcases Gg r lo with e | e
    ·have:=Ah (P:=P) (hi:=hi) e; omega
    ·exact e
   have hh:r<=hi:=by
    rcases Gg r hi with e | e
    ·exact e
    ·have:=hc.mono hi r e h2; omega
   have:=V.eq_hi hl hh (by omega);exact Qjc V.s (w:=P) (u:=[1]) (λt=>by rw [Te]; grind) (x:=r) (y:=hi) (by omega) hc r1 h2 hv
theorem Vt.same (V:Vt P L lo hi) {P':Up} {L':Uq} {lo' hi':Rat} (V':Vt P' L' lo' hi') {g u u' U W:Up} {k:Rat} (hk:k≠0) (h1:∀ t,ev P t=ev g t*ev u t) (h2:∀ t,ev P' t=ev g t*ev u' t) (h3:∀ t,k*ev g t=ev U t*ev P t+ev W t*ev P' t) {a b:Rat} (ha1:lo<=a) (ha2:lo'<=a) (ha:a=lo\/a=lo') (hb1:b<=hi) (hb2:b<=hi') (hb:b=hi\/b=hi'):(a<b/\nW g a b)↔∀ q,cq P lo hi q=cq P' lo' hi' q:=by
 have hc:=V.cut;have hc':=V'.cut;constructor
 ·rintro ⟨hab,hg⟩
  obtain ⟨g1,g2,g3⟩:=(V.has h1 ha1 hab hb1).1 hg;obtain ⟨g4,g5,g6⟩:=(V'.has h2 ha2 hab hb2).1 hg;intro q;refine (V.uniq hc' (by
   rcases Classical.em (lo=a) with e | e
   ·rw [e]; exact g5
   ·exact hc'.mono' (q:=lo) (r:=a) (by grind) (by omega)) (λh=>?_) (Mb hc' h1 g4) q).symm
  rcases Classical.em (b=hi) with e | e
  ·rw [<-e] at h; exact g6 h
  ·have:=hc'.mono b hi (by grind) g6; omega
 ·intro h;have hcc:cq P' lo' hi'=cq P lo hi:=funext λq=>(h q).symm
  have e1:cq P lo hi a=1:=by
   rcases ha with rfl | rfl
   ·exact Ah Qp
   ·rw [h]; exact Ah Qp
  have e2:cq P lo hi b≠1:=by
   rcases hb with rfl | rfl
   ·exact V.hi1
   ·rw [h]; exact V'.hi1
  have hab:a<b:=by
   rcases Gg b a with e | e
   ·rcases Classical.em (b=a) with e' | e'
    ·rw [e'] at e2; exact absurd e1 e2
    ·have:=hc.mono b a (by grind) e2; omega
   ·exact e
  have v1:=V.van;have v2:=V'.van;rw [hcc] at v2;have hg:I3 g (cq P lo hi):=by
   have a1:I3 (G7 U P) (cq P lo hi):=Mb hc (p:=P) (q:=U) (λt=>by rw [Fh]; grind) v1;have a2:I3 (G7 W P') (cq P lo hi):=Mb hc (p:=P') (q:=W) (λt=>by rw [Fh]; grind) v2;have a3:=NP (λt=>Gz t _ _) a1 a2;refine xX hc (k:=1 / k) (λt=>?_) a3;rw [Gz,Fh,Fh,<-h3];have:1 / k*(k*ev g t)=1 / k*k*ev g t:=by grind
   rw [this,show 1 / k*k=1 from Zj hk]; grind
  exact ⟨hab,(V.has h1 ha1 hab hb1).2 ⟨hg,e1,e2⟩⟩
end Orq
namespace Orq
theorem Qjt:∀ (M:Nat) (f:Nat->Nat),(∀ i,i<=M->f i<M)->∃ i j,i<j/\j<=M/\f i=f j
 | 0,f,h=>absurd (h 0 (Ql _)) (Nat.not_lt_zero _)
 |
  M+1,f,h=>by
  rcases Classical.em (∃ i,i<=M/\f i=f (M+1)) with ⟨i,h1,h2⟩ | hn
  ·exact ⟨i,M+1,by omega,Ql _,h2⟩
  ·have hne:∀ i,i<=M->f i≠f (M+1):=λi hi e=>hn ⟨i,hi,e⟩
   obtain ⟨i,j,h1,h2,h3⟩:=Qjt M (λi=>if f i=M then f (M+1) else f i) λi hi=>by
    have a1:=h i (by omega);have a2:=h (M+1) (Ql _);have a3:=hne i hi;show (if f i=M then f (M+1) else f i)<M
    split <;> omega
   refine ⟨i,j,h1,by omega,?_⟩;have a1:=hne i (by omega);have a2:=hne j h2
   split at h3 <;> split at h3 <;> omega
def dg (B k i:Nat):Nat:=k / B^i % B
theorem eM (B k i:Nat):dg B k (i+1)=dg B (k / B) i:=by unfold dg; rw [Nat.pow_succ,Nat.mul_comm,Nat.div_div_eq_div_mul]
theorem Qg2 {B:Nat}:∀ (N:Nat) {k k':Nat},k<B^N->k'<B^N->(∀ i,i<N->dg B k i=dg B k' i)->k=k'
 | 0,k,k',h,h',_=>by rw [Vd] at h h'; omega
 |
  N+1,k,k',h,h',he=>by
  have h0:=he 0 (by omega);unfold dg at h0;rw [Vd,Nat.div_one,Nat.div_one] at h0;have hB:0<B:=by
   rcases Q3 B with e | e
   ·rw [e,Zr,Yz] at h; omega
   ·exact e
  have h1:=Qg2 N (k:=k / B) (k':=k' / B) (X9 (by rw [Zq,<-Zr]; exact h)) (X9 (by rw [Zq,<-Zr]; exact h')) λi hi=>by
   rw [<-eM,<-eM]; exact he (i+1) (by omega)
  rw [<-We k B,<-We k' B,h0,h1]
def cd (B:Nat):Nat->(Nat->Nat)->Nat
 | 0,_=>0
 | E+1,x=>x 0+B*cd B E λe=>x (e+1)
theorem Qr2 {B:Nat}:∀ (E:Nat) {x:Nat->Nat},(∀ e,e<E->x e<B)->cd B E x<B^E
 | 0,_,_=>by simp [cd]
 |
  E+1,x,h=>by
  have h1:=h 0 (by omega);have h2:=Qr2 E (x:=λe=>x (e+1)) λe he=>h (e+1) (by omega)
  simp only [cd];have h3:B*cd B E (λe=>x (e+1))+B<=B*B^E:=by
   rw [<-W4]; exact Zu _ h2
  rw [Zr,Zq (B^E)]; omega
theorem Qgn {B:Nat}:∀ (E:Nat) {x y:Nat->Nat},(∀ e,e<E->x e<B)->(∀ e,e<E->y e<B)->cd B E x=cd B E y->∀ e,e<E->x e=y e
 | 0,_,_,_,_,_,e,he=>by omega
 |
  E+1,x,y,hx,hy,h,e,he=>by
  have h1:=hx 0 (by omega);have h2:=hy 0 (by omega);simp only [cd] at h;have e0:x 0=y 0:=by
   have:=congrArg (· % B) h;simp only [Ka] at this;rwa [Xu h1,Xu h2] at this
  have e1:cd B E (λe=>x (e+1))=cd B E (λe=>y (e+1)):=Nat.eq_of_mul_eq_mul_left (by omega:0<B) (by omega);cases e with
  | zero=>exact e0
  | succ e=>exact Qgn E (λe he=>hx (e+1) (by omega)) (λe he=>hy (e+1) (by omega)) e1 e (by omega)
def sm:Nat->(Nat->Int)->Int
 | 0,_=>0
 | n+1,f=>sm n f+f n
theorem Qk2 (f g:Nat->Int):∀ n,sm n (λi=>f i-g i)=sm n f-sm n g
 | 0=>rfl
 | n+1=>by simp only [sm,Qk2 f g n]; omega
theorem Ls {f g:Nat->Int}:∀ n,(∀ i,i<n->f i=g i)->sm n f=sm n g
 | 0,_=>rfl
 | n+1,h=>by simp only [sm,Ls n (λi hi=>h i (by omega)),h n (by omega)]
theorem Qk1 {f:Nat->Int} {b:Nat}:∀ n,(∀ i,i<n->(f i).natAbs<=b)->(sm n f).natAbs<=n*b
 | 0,_=>by simp [sm]
 |
  n+1,h=>by
  have h1:=Qk1 n λi hi=>h i (by omega)
  have h2:=h n (by omega);simp only [sm];rw [Xa]; omega
theorem VK {f:Nat->Int}:∀ n,(∀ i,i<n->f i=0)->sm n f=0
 | 0,_=>rfl
 | n+1,h=>by simp only [sm,VK n (λi hi=>h i (by omega)),h n (by omega)]; rfl
theorem cL (f:Nat->Int) (m:Nat):∀ n,sm (m+n) f=sm m f+sm n λi=>f (m+i)
 | 0=>by simp [sm]
 | n+1=>by rw [<-Yp]; simp only [sm,cL f m n]; omega
theorem cE (f:Nat->Int) (J:Nat):∀ b,sm (b*J) f=sm b λi=>sm J λj=>f (i*J+j)
 | 0=>by simp [sm]
 | b+1=>by rw [Xa,cL,cE f J b]; rfl
theorem ED {f:Nat->Int} {k:Nat}:∀ n,k<n->(∀ i,i<n->i≠k->f i=0)->sm n f=f k
 | 0,h,_=>by omega
 |
  n+1,h,h1=>by
  simp only [sm];rcases Vl (Nat.le_of_lt_succ h) with e | e
  ·rw [ED n e λi hi=>h1 i (by omega),h1 n (by omega) (by omega)]; omega
  ·subst e; rw [VK k λi hi=>h1 i (by omega) (by omega)]; omega
theorem Qwd {M:Nat->Nat->Int} {h N E H:Nat} (hM:∀ e i,(M e i).natAbs<=h) (hc:(2*(N*(h*H))+1)^E<(H+1)^N) :
 ∃ v:Nat->Int,(∀ i,(v i).natAbs<=H)/\(∃ i,i<N/\v i≠0)/\∀ e,e<E->sm N (λi=>M e i*v i)=0:=by
 obtain ⟨T,hT⟩:=nmE (N*(h*H));rw [<-hT] at hc;have hv:∀ k i,dg (H+1) k i<=H:=λk i=>Nat.le_of_lt_succ (Z4 _ (by omega))
 have hs:∀ k e,(sm N λi=>M e i*(dg (H+1) k i:Int)).natAbs<=T:=λk e=>by
  rw [hT];refine Qk1 N λi _=>?_
  rw [J9,Xh];exact Zc (hM e i) (hv k i)
 have him:∀ k e,((sm N λi=>M e i*(dg (H+1) k i:Int))+T).toNat<2*T+1:=λk e=>by have:=hs k e; omega
 obtain ⟨i,j,h1,h2,h3⟩:=Qjt ((2*T+1)^E) (λk=>cd (2*T+1) E λe=>((sm N λi=>M e i*(dg (H+1) k i:Int))+T).toNat) λk _=>Qr2 E λe _=>him k e
 have h4:=Qgn E (λe _=>him i e) (λe _=>him j e) h3;refine ⟨λn=>(dg (H+1) i n:Int)-dg (H+1) j n,λn=>?_,?_,λe he=>?_⟩
 ·have a1:=hv i n;have a2:=hv j n;show ((dg (H+1) i n:Int)-dg (H+1) j n).natAbs<=H;omega
 ·rcases Classical.em (∃ n,n<N/\(dg (H+1) i n:Int)-dg (H+1) j n≠0) with e | e
  ·exact e
  ·exfalso;have:i=j:=Qg2 (B:=H+1) N (by omega) (by omega) λn hn=>by
    rcases Classical.em (dg (H+1) i n=dg (H+1) j n) with e' | e'
    ·exact e'
    ·exact absurd ⟨n,hn,by omega⟩ e
   omega
 ·have a1:=h4 e he;have a2:=hs i e;have a3:=hs j e;have:(sm N λn=>M e n*(dg (H+1) i n:Int))=sm N λn=>M e n*(dg (H+1) j n:Int):=by omega
  have e1:=Qk2 (λn=>M e n*(dg (H+1) i n:Int)) (λn=>M e n*(dg (H+1) j n:Int)) N;rw [this] at e1;rw [Ls N (g:=λn=>M e n*(dg (H+1) i n:Int)-M e n*(dg (H+1) j n:Int)) λn _=>Int.mul_sub _ _ _,e1]; omega
def U9:Um->Rat->Rat
 | [],_=>0
 | a::p,t=>(a:Rat)+t*U9 p t
def sq:Nat->(Nat->Rat)->Rat
 | 0,_=>0
 | n+1,f=>sq n f+f n
theorem Pv {f g:Nat->Rat}:∀ n,(∀ i,i<n->f i=g i)->sq n f=sq n g
 | 0,_=>rfl
 | n+1,h=>by simp only [sq,Pv n (λi hi=>h i (by omega)),h n (by omega)]
theorem dJ (f g:Nat->Rat):∀ n,sq n (λi=>f i+g i)=sq n f+sq n g
 | 0=>by simp only [sq]; grind
 | n+1=>by simp only [sq,dJ f g n]; grind
theorem JA (c:Rat) (f:Nat->Rat):∀ n,sq n (λi=>c*f i)=c*sq n f
 | 0=>by simp only [sq]; grind
 | n+1=>by simp only [sq,JA c f n]; grind
theorem C6 {f:Nat->Rat}:∀ n,(∀ i,i<n->f i=0)->sq n f=0
 | 0,_=>rfl
 | n+1,h=>by simp only [sq,C6 n (λi hi=>h i (by omega)),h n (by omega)]; grind
theorem O7 (f:Nat->Rat):∀ n,sq (n+1) f=f 0+sq n λi=>f (i+1)
 | 0=>by simp only [sq]; grind
 | n+1=>by rw [sq,O7 f n]; simp only [sq]; grind
theorem Qsw {f:Nat->Rat} {b:Rat}:∀ n,(∀ i,i<n->Fj (f i)<=b)->Fj (sq n f)<=(n:Rat)*b
 | 0,_=>by rw [show ((0:Nat):Rat)=0 from rfl]; simp only [sq,Rj]; grind
 |
  n+1,h=>by
  have h1:=Qsw n λi hi=>h i (by omega)
  have h2:=h n (by omega);have h3:=Sr (sq n f) (f n);have hn':(((n+1:Nat):Rat))=(n:Rat)+1:=by push_cast; rfl
  rw [hn']; simp only [sq]; clear h; grind
def gc:Um->Nat->Nat->Int
 | [],_,_=>0
 | c::B,k,j=>(if k=0/\j=0 then c else 0)+(if k=0 then 0 else gc B (k-1) j)-(if j=0 then 0 else gc B k (j-1))
def gB:Um->Nat
 | []=>0
 | c::B=>max c.natAbs (2*gB B)
theorem MB:∀ (B:Um) (k j:Nat),B.length<=k+j->gc B k j=0
 | [],_,_,_=>rfl
 |
  c::B,k,j,h=>by
  simp only [Q5] at h;simp only [gc];rw [if_neg (by omega)];have e1:(if k=0 then 0 else gc B (k-1) j)=0:=by
   split
   ·rfl
   ·exact MB B _ _ (by omega)
  have e2:(if j=0 then 0 else gc B k (j-1))=0:=by
   split
   ·rfl
   ·exact MB B _ _ (by omega)
  rw [e1,e2]; rfl
theorem Qhw:∀ (B:Um) (k j:Nat),(gc B k j).natAbs<=gB B
 | [],_,_=>Qh _
 |
  c::B,k,j=>by
  have h1:=Qhw B (k-1) j;have h2:=Qhw B k (j-1);simp only [gc,gB];by_cases hk:k=0 <;> by_cases hj:j=0 <;> simp only [hk,hj,true_and,and_true,false_and,and_false,if_true,if_false] <;> (try subst hk) <;> (try subst hj) <;> omega
theorem Qhx:∀ (B:Um) (b:Nat),B.length=b+1->(gc B 0 b).natAbs=(B.getD b 0).natAbs
 | [],_,h=>by simp at h
 | [c],0,_=>by simp [gc]
 | c::d::B,0,h=>by simp at h
 |
  c::B,b+1,h=>by
  have ih:=Qhx B b (by simpa using h);simp only [gc];simp only [Yb,Q4];rw [if_pos trivial,if_neg (Nat.succ_ne_zero b),<-ih]; omega
def E2 (F:Nat->Nat->Int) (K J:Nat) (x y:Rat):Rat:=sq K λk=>sq J λj=>(F k j:Rat)*(y^k*x^j)
theorem mL (F G:Nat->Nat->Int) (K J:Nat) (x y:Rat):E2 (λk j=>F k j+G k j) K J x y=E2 F K J x y+E2 G K J x y:=by
 unfold E2;rw [<-dJ];refine Pv K λk _=>?_
 rw [<-dJ];exact Pv J λj _=>by push_cast; grind
theorem Qha (c:Int) (F:Nat->Nat->Int) (K J:Nat) (x y:Rat):E2 (λk j=>F k j*c) K J x y=(c:Rat)*E2 F K J x y:=by
 unfold E2;rw [<-JA];refine Pv K λk _=>?_
 rw [<-JA];exact Pv J λj _=>by push_cast; grind
theorem Qhb (φ:Nat->Nat->Nat->Int) (v:Nat->Int) (K J:Nat) (x y:Rat):∀ N,E2 (λk j=>sm N λn=>φ n k j*v n) K J x y=sq N λn=>(v n:Rat)*E2 (φ n) K J x y
 |
  0=>by
  simp only [sq,sm];unfold E2;refine C6 K λk _=>C6 J λj _=>?_
  rw [show ((0:Int):Rat)=0 from rfl]; grind
 |
  N+1=>by
  simp only [sq];rw [<-Qhb φ v K J x y N,<-Qha,<-mL];rfl
theorem GU (t:Rat) (i:Nat):∀ k,t^(i+k)=t^i*t^k
 | 0=>by rw [Xm,Xg]; grind
 | k+1=>by rw [<-Yp,Z7,Z7,GU t i k]; grind
theorem EE (f:Nat->Rat):∀ (i n:Nat),sq (i+n) (λk=>if i<=k then f (k-i) else 0)=sq n f
 | i,0=>C6 _ λk hk=>by rw [if_neg (by omega)]
 |
  i,n+1=>by
  rw [<-Yp]; simp only [sq];rw [EE f i n,if_pos (by omega),Jj]
def PI (i j':Nat) (F:Nat->Nat->Int) (k j:Nat):Int:=if i<=k then (if j'<=j then F (k-i) (j-j') else 0) else 0
theorem DZ (F:Nat->Nat->Int) (i j' K J:Nat) (x y:Rat):E2 (PI i j' F) (i+K) (j'+J) x y=y^i*x^j'*E2 F K J x y:=by
 unfold E2;rw [<-JA,<-EE _ i K];refine Pv _ λk _=>?_
 by_cases hk:i<=k
 ·rw [if_pos hk,<-JA,<-EE _ j' J];refine Pv _ λj _=>?_
  unfold PI;rw [if_pos hk];by_cases hj:j'<=j
  ·rw [if_pos hj,if_pos hj];have e1:y^k=y^i*y^(k-i):=by rw [<-GU]; congr 1; omega
   have e2:x^j=x^j'*x^(j-j'):=by rw [<-GU]; congr 1; omega
   rw [e1,e2]; grind
  ·rw [if_neg hj,if_neg hj,show ((0:Int):Rat)=0 from rfl]; grind
 ·rw [if_neg hk];refine C6 _ λj _=>?_
  unfold PI;rw [if_neg hk,show ((0:Int):Rat)=0 from rfl]; grind
def fA (A:Um) (k j:Nat):Int:=if j=0 then A.getD k 0 else 0
theorem Qjs (y:Rat):∀ (A:Um) (K:Nat),A.length<=K->sq K (λk=>((A.getD k 0:Int):Rat)*y^k)=U9 A y
 | [],K,_=>by rw [C6]; rfl; intro i _; simp
 | a::A,0,h=>by simp at h
 |
  a::A,K+1,h=>by
  have ih:=Qjs y A K (by simpa using h);rw [O7];simp only [U9,Zt,Q4,Xg];rw [<-ih,<-JA];have:(sq K λi=>((A.getD i 0:Int):Rat)*y^(i+1))=sq K λi=>y*(((A.getD i 0:Int):Rat)*y^i):=Pv K λi _=>by rw [Z7]; grind
  rw [this]; grind
theorem Qyb (A:Um) (K J:Nat) (x y:Rat) (h:A.length<=K):E2 (fA A) K (J+1) x y=U9 A y:=by
 rw [<-Qjs y A K h];refine Pv K λk _=>?_
 rw [O7,C6]
 ·simp only [fA,if_true,Xg]; grind
 ·intro j _;simp only [fA];rw [if_neg (by omega),show ((0:Int):Rat)=0 from rfl]; grind
theorem Qum (x y:Rat):∀ (B:Um) (K J:Nat),B.length<=K->B.length<=J->E2 (gc B) K J x y=U9 B (y-x)
 |
  [],K,J,_,_=>by
  unfold E2;simp only [gc,U9];exact C6 K λk _=>C6 J λj _=>by rw [show ((0:Int):Rat)=0 from rfl]; grind
 | c::B,0,J,h,_=>by simp at h
 | c::B,K+1,0,_,h=>by simp at h
 |
  c::B,K+1,J+1,h1,h2=>by
  have i1:=Qum x y B K (J+1) (by simpa using h1) (by simp at h2; omega);have i2:=Qum x y B (K+1) J (by simp at h1; omega) (by simpa using h2);have s1:=DZ (gc B) 1 0 K (J+1) x y;have s2:=DZ (gc B) 0 1 (K+1) J x y;rw [Zz,Ju 1 K] at s1;rw [Zz,Ju 1 J] at s2;rw [i1] at s1;rw [i2] at s2;have e0:E2 (fA [c]) (K+1) (J+1) x y=(c:Rat):=by rw [Qyb [c] (K+1) J x y (by simp)]; simp only [U9]; grind
  have e1:gc (c::B)=λk j=>(fA [c] k j+PI 1 0 (gc B) k j)+PI 0 1 (gc B) k j*(-1):=by
   funext k j;simp only [gc,fA,PI];by_cases hk:k=0 <;> by_cases hj:j=0
   ·subst hk; subst hj; simp
   ·subst hk; simp [hj,show 1<=j by omega]
    try omega
   ·subst hj;obtain ⟨m,rfl⟩:∃ m,k=m+1:=⟨k-1,by omega⟩;simp
   ·obtain ⟨m,rfl⟩:∃ m,k=m+1:=⟨k-1,by omega⟩;obtain ⟨i,rfl⟩:∃ i,j=i+1:=⟨j-1,by omega⟩;simp; omega
  rw [e1,mL (λk j=>fA [c] k j+PI 1 0 (gc B) k j) (λk j=>PI 0 1 (gc B) k j*(-1)),mL (fA [c]) (PI 1 0 (gc B)),Qha,e0,s1,s2];simp only [U9,Xg,show y^1=y by rw [Z7,Xg]; grind,show x^1=x by rw [Z7,Xg]; grind];rw [show (((-1:Int)):Rat)=-1 from rfl];grind
def IV (A B:Um) (b J J' n k j:Nat):Int:=if n<b*J then PI (n / J) (n % J) (fA A) k j else PI ((n-b*J) / J') ((n-b*J) % J') (gc B) k j
theorem Qkv {F:Nat->Nat->Int} {h:Nat} (hF:∀ k j,(F k j).natAbs<=h) (i j' k j:Nat):(PI i j' F k j).natAbs<=h:=by
 unfold PI; split
 ·split
  ·exact hF _ _
  ·exact Qh _
 ·exact Qh _
theorem Qsh {i b J j:Nat} (hi:i<b) (hj:j<J):i*J+j<b*J:=by
 have:(i+1)*J<=b*J:=Q0 J hi;rw [Xa] at this; omega
theorem RH {i J j:Nat} (hj:j<J):(i*J+j) / J=i/\(i*J+j) % J=j:=by
 rw [Zq,W9 (by omega),Ua,V2 hj,Xu hj]; exact ⟨by omega,rfl⟩
theorem zE (A B:Um) (a b J J':Nat) (v:Nat->Int) (k j:Nat):sm (b*J+a*J') (λn=>IV A B b J J' n k j*v n) =
 (sm b λi=>sm J λj1=>PI i j1 (fA A) k j*v (i*J+j1))+sm a λi=>sm J' λj1=>PI i j1 (gc B) k j*v (b*J+(i*J'+j1)):=by
 rw [cL,cE,cE];congr 1
 ·refine Ls b λi hi=>Ls J λj1 hj=>?_
  unfold IV;rw [if_pos (Qsh hi hj),(RH hj).1,(RH hj).2]
 ·refine Ls a λi hi=>Ls J' λj1 hj=>?_
  unfold IV;rw [if_neg (by omega),Jj,(RH hj).1,(RH hj).2]
theorem Qx4 (A:Um) (v:Nat->Int) {i J k j:Nat} (hj:j<J):(sm J λj1=>PI i j1 (fA A) k j*v (i*J+j1))=if i<=k then A.getD (k-i) 0*v (i*J+j) else 0:=by
 rw [ED (k:=j) J hj λj1 _ hne=>?_]
 ·unfold PI fA;by_cases h:i<=k
  ·rw [if_pos h,if_pos h,if_pos (Ql _),if_pos (Ki _)]
  ·rw [if_neg h,if_neg h,Yy]
 ·unfold PI fA;by_cases h:i<=k
  ·rw [if_pos h];by_cases h':j1<=j
   ·rw [if_pos h',if_neg (by omega),Yy]
   ·rw [if_neg h',Yy]
  ·rw [if_neg h,Yy]
section
variable {A B:Um} {a b J J':Nat} (hA:A.length=a+1) (hB:B.length=b+1) (lA:A.getD a 0≠0) (lB:B.getD b 0≠0) (hJ:J=J'+b) {v:Nat->Int} (hW:∀ k j,k<a+b->j<J->sm (b*J+a*J') (λn=>IV A B b J J' n k j*v n)=0)
include hA lA hW in
theorem Qr5 {jj:Nat} (hj:jj<J) (hV:∀ k,a<=k->k<a+b->(sm a λi=>sm J' λj1=>PI i j1 (gc B) k jj*v (b*J+(i*J'+j1)))=0):∀ d i,i<b->b-i<=d->v (i*J+jj)=0:=by
 intro d
 induction d with
 | zero=>intro i hi hd; omega
 |
  succ d ih =>
  intro i hi hd;have h1:=hW (i+a) jj (by omega) hj;rw [zE,hV (i+a) (by omega) (by omega)] at h1;rw [Ls b (λi' hi'=>Qx4 A v hj)] at h1;rw [ED (k:=i) b hi λi' hi' hne=>?_] at h1
  ·rw [if_pos (by omega),Jj,Int.add_zero] at h1;rcases Yf.1 h1 with h2 | h2
   ·exact absurd h2 lA
   ·exact h2
  ·rcases Zb i i' with h | h
   ·rw [ih i' hi' (by omega)]; simp
   ·rw [if_pos (by omega),Qi,Qw (by omega)]; simp
include hA hB lA lB hJ hW in
theorem Qx9:∀ d js,js<J'->J'-js<=d->∀ i,i<a->v (b*J+(i*J'+js))=0:=by
 intro d
 induction d with
 | zero=>intro js hi hd; omega
 |
  succ d ih =>
  intro js hjs hd i hi;have hin:∀ i' k,i'<a->(sm J' λj1=>PI i' j1 (gc B) k (js+b)*v (b*J+(i'*J'+j1)))=if i'=k then gc B 0 b*v (b*J+(i'*J'+js)) else 0:=λi' k hi'=>by
   rw [ED (k:=js) J' hjs λj1 hj1 hne=>?_]
   ·unfold PI;by_cases h:i'<=k
    ·rw [if_pos h,if_pos (by omega),Jj];by_cases h':i'=k
     ·rw [if_pos h',h',Ki]
     ·rw [if_neg h',MB B _ _ (by omega),Yy]
    ·rw [if_neg h,if_neg (by omega),Yy]
   ·rcases Zb js j1 with h | h
    ·rw [ih j1 hj1 (by omega) i' hi',Wa]
    ·unfold PI;by_cases h':i'<=k
     ·rw [if_pos h',if_pos (by omega),MB B _ _ (by omega),Yy]
     ·rw [if_neg h',Yy]
  have hU:=Qr5 hA lA hW (jj:=js+b) (by omega) (λk hk hk'=>VK a λi' hi'=>by rw [hin i' k hi',if_neg (by omega)]) (b+1);have h1:=hW i (js+b) (by omega) (by omega);rw [zE,Ls a (λi' hi'=>hin i' i hi')] at h1;rw [VK b λi' hi'=>by
   rw [Qx4 A v (by omega),hU i' hi' (by omega)]; simp] at h1
  rw [ED (k:=i) a hi λi' hi' hne=>if_neg hne,if_pos rfl,Int.zero_add] at h1;rcases Yf.1 h1 with h2 | h2
  ·have:=Qhx B b hB; rw [h2] at this; omega
  ·exact h2
include hA hB lA lB hJ hW in
theorem Qd6:∀ n,n<b*J+a*J'->v n=0:=by
 intro n hn;have hV:=Qx9 hA hB lA lB hJ hW;rcases Zb n (b*J) with h | h
 ·have hJp:0<J:=by
   rcases Q3 J with e | e
   ·rw [e,Yz] at h; omega
   ·exact e
  have e1:=Z4 n hJp;have e2:n / J<b:=X9 (by rw [Zq]; exact h);have:=Qr5 hA lA hW e1 (λk _ _=>VK a λi hi=>VK J' λj1 hj1=>by rw [hV J' j1 hj1 (by omega) i hi,Wa]) (b+1) (n / J) e2 (Qa (Nat.sub_le _ _) (Nat.le_succ _));rwa [Zq,Xe] at this
 ·have hJp:0<J':=by
   rcases Q3 J' with e | e
   ·rw [e,Yz] at hn; omega
   ·exact e
  have e1:=Z4 (n-b*J) hJp;have e2:(n-b*J) / J'<a:=X9 (by rw [Zq J' a]; omega);have:=hV J' _ e1 (by omega) _ e2;rw [Zq ((n-b*J) / J'),Xe] at this;rwa [show b*J+(n-b*J)=n by omega] at this
end
theorem VX {R x:Rat} (h1:1<=R) (hx:Fj x<=R):∀ k:Nat,Fj (x^k)<=R^k/\1<=R^k
 | 0=>by rw [Xg,Xg]; exact ⟨by decide,by decide⟩
 |
  k+1=>by
  obtain ⟨i1,i2⟩:=VX h1 hx k;rw [Z7,Z7];have:=Cu (a:=1) (c:=1) (by decide) i2 (by decide) h1;exact ⟨Hd i1 hx,by grind⟩
theorem oC {R:Rat} (h1:1<=R) {i:Nat}:∀ k,i<=k->R^i<=R^k
 | 0,h=>by rw [show i=0 by omega]; exact Qp
 |
  k+1,h=>by
  rcases Vl h with e | e
  ·have:=oC h1 (i:=i) k (by omega);have h2:=(VX h1 (x:=0) (by rw [Rj]; grind) k).2;rw [Z7];have:=Cu (a:=R^k) (b:=R^k) (c:=1) (d:=R) (by grind) Qp (by decide) h1;grind
  ·rw [e]; exact Qp
theorem Qku {F:Nat->Nat->Int} {i j' K J:Nat} {x y R X:Rat} {K2 J2:Nat} (h1:1<=R) (hx:Fj x<=R) (hy:Fj y<=R) (hK:K=i+K2) (hJ:J=j'+J2) (hF:E2 F K2 J2 x y=X):Fj (E2 (PI i j' F) K J x y)<=R^(K+J)*Fj X:=by
 subst hK; subst hJ;rw [DZ,hF,Im];have a1:=(VX h1 hy i).1;have a2:=(VX h1 hx j').1;have a3:=Hd a1 a2;rw [<-GU] at a3;have a4:=oC h1 (i:=i+j') (i+K2+(j'+J2)) (by omega);exact Cu (Hw _) (Zl a3 a4) (Hw _) Qp
theorem Qv9 {A B:Um} {a b h:Nat} (hA:A.length=a+1) (hB:B.length=b+1) (lA:A.getD a 0≠0) (lB:B.getD b 0≠0) (ha:0<a) (hb:0<b) (h0:1<=h) (bA:∀ k,(A.getD k 0).natAbs<=h) (bB:gB B<=h) {J J' N H:Nat} (hJ:J=2*(a*b)) (hJ':J=J'+b) (hN:N=b*J+a*J') (hH:H=(2*(N*h))^(2*(a+b-1))) :
 ∃ w:Nat->Int,(∃ j,j<J/\w j≠0)/\(∀ j,(w j).natAbs<=N*(h*H))/\∀ R:Rat,1<=R->∃ C:Rat,0<=C/\∀ x y,Fj x<=R->Fj y<=R->Fj (sq J λj=>(w j:Rat)*x^j)<=C*(Fj (U9 A y)+Fj (U9 B (y-x))):=by
 have hab:0<a*b:=J5 ha hb;have hbd:∀ n k j,(IV A B b J J' n k j).natAbs<=h:=λn k j=>by
  unfold IV
  split
  ·exact Qkv (λk j=>by unfold fA; split; exact bA k; exact Nat.zero_le _) _ _ _ _
  ·exact Qkv (λk j=>Qa (Qhw B k j) bB) _ _ _ _
 have hJp:0<J:=by omega
 have hNp:1<=N:=by
  have:0<b*J:=J5 hb hJp;omega
 have hNh:1<=N*h:=J5 hNp h0;obtain ⟨E,hE⟩:=nmE ((a+b-1)*J);have hNE:N=E+a*b:=by
  have e1:(a+b-1)*J+J=(a+b)*J:=by
   rw [<-Xa]; congr 1; omega
  have e2:a*J=a*J'+a*b:=by rw [hJ',Xj]
  rw [X4] at e1;omega
 have hc:(2*(N*(h*H))+1)^E<(H+1)^N:=by
  have c1:2*(N*(h*H))+1<=2*(N*h)*(H+1):=by
   rw [Xj,Yw,Xz 2,Xz N]; omega
  refine Z3 (Nat.pow_le_pow_left c1 E) ?_;rw [Nat.mul_pow,hNE,Xf,Zq];refine Nat.mul_lt_mul_of_pos_left ?_ (Z2 (by omega));have e1:(2*(N*h))^E=H^(a*b):=by
   rw [hH,<-Ks,hE,hJ]; congr 1;rw [Zq 2 (a+b-1),Xz]
  rw [<-hNE,e1];exact Nat.pow_lt_pow_left (by omega) (by omega)
 obtain ⟨v,v1,⟨n0,n1,n2⟩,v3⟩:=Qwd (M:=λe n=>IV A B b J J' n (e / J+1) (e % J)) (h:=h) (N:=N) (E:=E) (H:=H) (λe n=>hbd n _ _) hc;have hW:∀ k j,1<=k->k<a+b->j<J->sm N (λn=>IV A B b J J' n k j*v n)=0:=λk j k1 k2 hj=>by
  have:=v3 ((k-1)*J+j) (by rw [hE]; exact Qsh (by omega) hj);rwa [(RH hj).1,(RH hj).2,show k-1+1=k by omega] at this
 refine ⟨λj=>sm N λn=>IV A B b J J' n 0 j*v n,?_,λj=>?_,λR hR=>?_⟩
 ·rcases Classical.em (∃ j,j<J/\(sm N λn=>IV A B b J J' n 0 j*v n)≠0) with e | e
  ·exact e
  ·exfalso;refine n2 (Qd6 hA hB lA lB hJ' (v:=v) (λk j hk hj=>?_) n0 (by rw [<-hN]; exact n1));rw [<-hN];rcases Q3 k with e' | e'
   ·subst e';rcases Classical.em ((sm N λn=>IV A B b J J' n 0 j*v n)=0) with e2 | e2
    ·exact e2
    ·exact absurd ⟨j,hj,e2⟩ e
   ·exact hW k j e' hk hj
 ·refine Qk1 N λn _=>?_
  rw [J9];exact Zc (hbd n 0 j) (v1 n)
 ·have hRp:∀ k:Nat,1<=R^k:=λk=>(VX hR (x:=0) (by rw [Rj]; grind) k).2
  have hHn:(0:Rat)<=(H:Rat):=Xi;have hNn:(0:Rat)<=(N:Rat):=Xi;refine ⟨(N:Rat)*((H:Rat)*R^(a+b+J)),Bj hNn (Bj hHn (by have:=hRp (a+b+J); grind)),λx y hx hy=>?_⟩;have e1:(sq J λj=>((sm N λn=>IV A B b J J' n 0 j*v n:Int):Rat)*x^j)=E2 (λk j=>sm N λn=>IV A B b J J' n k j*v n) (a+b) J x y:=by
   unfold E2;obtain ⟨m,hm⟩:∃ m,a+b=m+1:=⟨a+b-1,by omega⟩;rw [hm,O7,C6 (n:=m)]
   ·have:(sq J λj=>((sm N λn=>IV A B b J J' n 0 j*v n:Int):Rat)*(y^0*x^j))=sq J λj=>((sm N λn=>IV A B b J J' n 0 j*v n:Int):Rat)*x^j:=Pv J λj _=>by rw [Xg]; grind
    rw [this]; grind
   ·intro k hk;refine C6 J λj hj=>?_
    show ((sm N λn=>IV A B b J J' n (k+1) j*v n:Int):Rat)*_=0;rw [hW (k+1) j (by omega) (by omega) hj,show ((0:Int):Rat)=0 from rfl]; grind
  rw [e1,Qhb];have key:∀ n,n<N->Fj ((v n:Rat)*E2 (IV A B b J J' n) (a+b) J x y)<=(H:Rat)*(R^(a+b+J)*(Fj (U9 A y)+Fj (U9 B (y-x)))):=λn hn=>by
   have hvn:Fj (v n:Rat)<=(H:Rat):=by
    have h1:=v1 n;have h2:(v n)<=(H:Int):=by omega
    have h3:-(H:Int)<=v n:=by omega
    have h2:=Jb.2 h2;have h3:=Jb.2 h3;rw [Vm] at h3;rw [Mi]; exact ⟨h3,h2⟩
   refine Hd hvn ?_;have hRk:=hRp (a+b+J);have n1:=Hw (U9 A y);have n2:=Hw (U9 B (y-x));rcases Zb n (b*J) with h | h
   ·have e:IV A B b J J' n=PI (n / J) (n % J) (fA A):=by funext k j; unfold IV; rw [if_pos h]
    have d1:n / J<b:=X9 (by rw [Zq]; exact h);have d2:=Z4 n hJp;rw [e];refine Zl (Qku (K2:=a+b-n / J) (J2:=J-n % J) hR hx hy (by omega) (by omega) (X:=U9 A y) ?_) (Cu (by grind) Qp n1 (by grind));obtain ⟨m,hm⟩:∃ m,J-n % J=m+1:=⟨J-n % J-1,by omega⟩;rw [hm]; exact Qyb A _ _ x y (by omega)
   ·have e:IV A B b J J' n=PI ((n-b*J) / J') ((n-b*J) % J') (gc B):=by funext k j; unfold IV; rw [if_neg (by omega)]
    have hJp':0<J':=by
     rcases Q3 J' with e | e
     ·rw [e,Yz] at hN; omega
     ·exact e
    have d1:(n-b*J) / J'<a:=X9 (by rw [Zq J' a]; omega);have d2:=Z4 (n-b*J) hJp';rw [e];refine Zl (Qku (K2:=a+b-(n-b*J) / J') (J2:=J-(n-b*J) % J') hR hx hy (by omega) (by omega) (X:=U9 B (y-x)) ?_) (Cu (by grind) Qp n2 (by grind));exact Qum x y B _ _ (by omega) (by omega)
  have:=Qsw N key;refine Zl this ?_;have:(N:Rat)*((H:Rat)*(R^(a+b+J)*(Fj (U9 A y)+Fj (U9 B (y-x)))))=(N:Rat)*((H:Rat)*R^(a+b+J))*(Fj (U9 A y)+Fj (U9 B (y-x))):=by grind
  rw [this]; exact Qp
end Orq
namespace Orq
theorem Qk5 {w:Nat->Int} {x:Rat} {D:Rat} (hx:Fj x*2<=1) (hw:∀ j,Fj (w j:Rat)<=D):∀ J (k:Nat),Fj (sq J λj=>(w (k+j):Rat)*x^j)<=2*D
 | 0,k=>by have:=hw 0; have:=Hw (w 0:Rat); simp only [sq,Rj]; clear hw; grind
 |
  J+1,k=>by
  have ih:=Qk5 hx hw J (k+1);rw [O7];have e:(sq J λi=>(w (k+(i+1)):Rat)*x^(i+1))=x*sq J λi=>(w (k+1+i):Rat)*x^i:=by
   rw [<-JA]; exact Pv J λi _=>by rw [Z7,show k+(i+1)=k+1+i by omega]; grind
  rw [e,Xg,Xm];have h1:=hw k;have h2:=Sr ((w k:Rat)*1) (x*sq J λi=>(w (k+1+i):Rat)*x^i);have h3:=Hd (x:=x) (y:=sq J λi=>(w (k+1+i):Rat)*x^i) Qp ih;have h4:=Ze hx (show (0:Rat)<=D by have:=Hw (w k:Rat); clear hw; grind);have h5:(w k:Rat)*1=w k:=by grind
  rw [h5] at h2 ⊢;clear hw; grind
theorem WW {z:Int} (h:z≠0):1<=Fj (z:Rat):=by
 unfold Fj;rcases Ke h with h | h
 ·have:((z:Int):Rat)<((0:Int):Rat):=Jn.2 h;have h2:((1:Int):Rat)<=((-z:Int):Rat):=Jb.2 (by omega);rw [if_pos (by simpa using this)];rw [Vm] at h2;simpa using h2
 ·have:((0:Int):Rat)<((z:Int):Rat):=Jn.2 h;have h2:((1:Int):Rat)<=((z:Int):Rat):=Jb.2 (by omega);rw [if_neg (by
   have:(0:Rat)<z:=by simpa using this
   grind)]
  simpa using h2
theorem nL {w:Nat->Int} {x:Rat} {D:Rat} (hD:1<=D) (hx0:0<Fj x) (hx:Fj x*(4*D)<=1) (hw:∀ j,Fj (w j:Rat)<=D):∀ J (k:Nat),(∃ j,j<J/\w (k+j)≠0)->Fj x^J / 2<=Fj (sq J λj=>(w (k+j):Rat)*x^j)
 | 0,k,⟨j,h,_⟩=>by omega
 |
  J+1,k,⟨j,h1,h2⟩=>by
  have hx2:Fj x*2<=1:=by
   have:=Cu (a:=Fj x) (c:=2) (Qt hx0) Qp (by decide) (show (2:Rat)<=4*D by clear hw; grind);exact Zl this hx
  have hx1:Fj x<=1:=by clear hw; grind
  have hp:∀ k:Nat,Fj x^k<=1/\0<=Fj x^k:=λk=>by
   induction k with
   | zero=>rw [Xg]; exact ⟨by decide,by decide⟩
   |
    succ k ih =>
    rw [Z7];have:=Cu ih.2 ih.1 (Qt hx0) hx1;have:=Bj ih.2 (Qt hx0);constructor <;> (clear hw; grind)
  rw [O7];have e:(sq J λi=>(w (k+(i+1)):Rat)*x^(i+1))=x*sq J λi=>(w (k+1+i):Rat)*x^i:=by
   rw [<-JA]; exact Pv J λi _=>by rw [Z7,show k+(i+1)=k+1+i by omega]; grind
  rw [e,Xg,Xm k,show (w k:Rat)*1=w k by grind];by_cases h0:w k=0
  ·have hj:j≠0:=λe=>h2 (by rw [e]; exact h0)
   have ih:=nL hD hx0 hx hw J (k+1) ⟨j-1,by omega,by rw [show k+1+(j-1)=k+j by omega]; exact h2⟩;rw [h0,show ((0:Int):Rat)+x*(sq J λi=>(w (k+1+i):Rat)*x^i)=x*sq J λi=>(w (k+1+i):Rat)*x^i by rw [show ((0:Int):Rat)=0 from rfl]; grind,Im,Z7];have:=Z1 ih (Qt hx0);have e2:Fj x*(Fj x^J / 2)=Fj x^J*Fj x / 2:=by rw [J6,J6]; grind
   rw [e2] at this; exact this
  ·have a1:=WW h0;have a2:=Qk5 hx2 hw J (k+1);have a3:=Hd (x:=x) (y:=sq J λi=>(w (k+1+i):Rat)*x^i) Qp a2;have a4:=Sr ((w k:Rat)+x*sq J λi=>(w (k+1+i):Rat)*x^i) (-(x*sq J λi=>(w (k+1+i):Rat)*x^i));rw [Ew,show (w k:Rat)+(x*sq J λi=>(w (k+1+i):Rat)*x^i)+-(x*sq J λi=>(w (k+1+i):Rat)*x^i)=w k by grind] at a4;have a5:=(hp (J+1)).1;have a6:Fj x^(J+1) / 2*2=Fj x^(J+1):=Hf (by decide);have a7:Fj x*(2*D)*2=Fj x*(4*D):=by grind
   clear hw hp; grind
theorem Qu2 {A B:Um} {a b h:Nat} (hA:A.length=a+1) (hB:B.length=b+1) (lA:A.getD a 0≠0) (lB:B.getD b 0≠0) (ha:0<a) (hb:0<b) (h0:1<=h) (bA:∀ k,(A.getD k 0).natAbs<=h) (bB:gB B<=h) {N D:Nat} (hN:b*(2*(a*b))+a*(2*(a*b)-b)=N) (hD:N*(h*(2*(N*h))^(2*(a+b-1)))<=D) {R d:Rat} (hR:1<=R) (dp:0<d)
 (hs:∀ e:Rat,0<e->∃ q r,Fj q<=R/\Fj r<=R/\d<=Fj (q-r)/\Fj (q-r)*(4*(D:Rat))<=1/\Fj (U9 A q)<e/\Fj (U9 B r)<e):False:=by
 have hab:0<a*b:=J5 ha hb;have hbab:b<=a*b:=by
  have:=Q0 b (show 1<=a from ha); omega
 obtain ⟨w,⟨j,hj,hw0⟩,hw,hC⟩:=Qv9 hA hB lA lB ha hb h0 bA bB (J:=2*(a*b)) (J':=2*(a*b)-b) rfl (by omega) hN.symm rfl;obtain ⟨C,hC0,hC⟩:=hC (2*R) (by grind);have hw':∀ j,Fj (w j:Rat)<=(D:Rat):=λj=>by
  have h1:=Qa (hw j) hD;have h2:w j<=(D:Int):=by omega
  have h3:-(D:Int)<=w j:=by omega
  have h2:=Jb.2 h2;have h3:=Jb.2 h3;rw [Vm] at h3;rw [Mi]; exact ⟨h3,h2⟩
 have hD1:(1:Rat)<=(D:Rat):=by
  have:=WW hw0;exact Zl this (hw' j)
 have hdJ:0<d^(2*(a*b)) / 2:=Ai (Rat.pow_pos dp) (by decide);obtain ⟨e,ep,_,he⟩:=Hi (b:=C*2) (d:=d^(2*(a*b)) / 2) (by grind) hdJ;obtain ⟨q,r,q1,r1,d1,d2,aq,br⟩:=hs e ep;have h1:=hC (q-r) q (by
  have:=Sr q (-r); rw [Ew] at this; have:q-r=q+-r:=by grind
  grind) (by grind)
 rw [show q-(q-r)=r by grind] at h1;have h2:=nL (x:=q-r) hD1 (by grind) d2 hw' (2*(a*b)) 0 ⟨j,hj,by rw [Zz]; exact hw0⟩;simp only [Zz] at h2;have h3:C*(Fj (U9 A q)+Fj (U9 B r))<=C*(e+e):=Z1 (by grind) hC0;have h4:d^(2*(a*b))<=Fj (q-r)^(2*(a*b)):=by
  generalize 2*(a*b)=J
  induction J with
  | zero=>rw [Xg,Xg]; exact Qp
  |
   succ J ih =>
   rw [Z7,Z7];exact Cu (Qt (Rat.pow_pos dp)) ih (Qt dp) d1
 have h5:d^(2*(a*b)) / 2*2=d^(2*(a*b)):=Hf (by decide);have h6:Fj (q-r)^(2*(a*b)) / 2*2=Fj (q-r)^(2*(a*b)):=Hf (by decide);clear hC hs hw hw';grind
def HD (p:Up) (n:Nat):Prop:=p.getD n 0≠0/\∀ k,n<k->p.getD k 0=0
theorem Rl:∀ (p q:Up) (k:Nat),(Ss p q).getD k 0=p.getD k 0+q.getD k 0
 | [],q,k=>by simp only [Ss,Kt]; grind
 | a::p,[],k=>by simp only [Ss,Kt]; grind
 | a::p,b::q,0=>by simp only [Ss,Zt]
 | a::p,b::q,k+1=>by simp only [Ss,Q4]; exact Rl p q k
theorem Sl (c:Rat):∀ (p:Up) (k:Nat),(D6 c p).getD k 0=c*p.getD k 0
 | [],k=>by simp only [D6,X7,Kt]; grind
 | a::p,0=>by simp [D6]
 | a::p,k+1=>by have:=Sl c p k; simp only [D6,Z0,Q4] at *; exact this
theorem Qh5 {p:Up} {k:Nat} (h:∀ x∈p,x=0):p.getD k 0=0:=by
 rw [Qi];cases e:p[k]? with
 | none=>rfl
 | some x=>exact h x (Qc e)
theorem Dz {p q:Up} (h:∀ t,ev p t=ev q t) (k:Nat):p.getD k 0=q.getD k 0:=by
 have h1:=Qh5 (k:=k) (WI (p:=Ss p (D6 (-1) q)) λt _ _=>by rw [Gz,Gt,h t]; grind);rw [Rl,Sl] at h1; grind
theorem Lc:∀ {p:Up},(∀ k,p.getD k 0=0)->∀ t,ev p t=0
 | [],_,t=>rfl
 |
  a::p,h,t=>by
  have h0:=h 0;have h1:=Lc (p:=p) (λk=>by have:=h (k+1); rwa [Q4] at this) t;rw [Zt] at h0;simp only [ev,h0,h1]; grind
theorem LQ:∀ (p:Up),(∀ t,ev p t=0)\/∃ n,n<p.length/\HD p n
 | []=>.inl λ_=>rfl
 |
  a::p=>by
  rcases LQ p with h | ⟨n,hn,h1,h2⟩
  ·rcases Classical.em (a=0) with e | e
   ·exact .inl λt=>by simp only [ev,e,h t]; grind
   ·refine .inr ⟨0,by simp,by simpa using e,λk hk=>?_⟩;obtain ⟨m,rfl⟩:∃ m,k=m+1:=⟨k-1,by omega⟩;rw [Q4];exact (Dz (p:=p) (q:=[]) h m).trans (by simp)
  ·refine .inr ⟨n+1,by simp; omega,by rw [Q4]; exact h1,λk hk=>?_⟩;obtain ⟨m,rfl⟩:∃ m,k=m+1:=⟨k-1,by omega⟩;rw [Q4]; exact h2 m (by omega)
theorem Qsf {p q:Up} {n:Nat} (h:∀ t,ev p t=ev q t) (hp:HD p n):HD q n :=
 ⟨by rw [<-Dz h]; exact hp.1,λk hk=>by rw [<-Dz h]; exact hp.2 k hk⟩
theorem Qsg {p:Up} {n m:Nat} (h:HD p n) (h':HD p m):n=m:=by
 rcases Kn n m with e | e | e
 ·exact absurd (h.2 m e) h'.1
 ·exact e
 ·exact absurd (h'.2 n e) h.1
theorem aH {p:Up} {n:Nat} (h:HD p n):¬∀ t,ev p t=0:=λh0=>h.1 ((Dz (p:=p) (q:=[]) h0 n).trans (by simp))
theorem SS {p q:Up} (h:∀ k,p.getD k 0=0) (k:Nat):(G7 p q).getD k 0=0:=by
 have:=Dz (p:=G7 p q) (q:=[]) (λt=>by rw [Fh,Lc h t]; simp only [ev]; grind) k;rw [this]; simp
theorem LZ:∀ {p q:Up} {m n:Nat},HD p m->HD q n->HD (G7 p q) (m+n)
 | [],q,m,n,h,_=>absurd (by simp) h.1
 |
  a::p,q,0,n,h,h'=>by
  have h1:∀ k,p.getD k 0=0:=λk=>by have:=h.2 (k+1) (by omega); rwa [Q4] at this
  have h2:∀ k,(G7 (a::p) q).getD k 0=a*q.getD k 0:=λk=>by
   simp only [G7];rw [Rl,Sl];cases k with
   | zero=>rw [Zt]; grind
   | succ k=>rw [Q4,SS h1]; grind
  have h3:=h.1;rw [Zt] at h3;refine ⟨?_,λk hk=>?_⟩
  ·rw [h2,Zz]; exact λh=>(Y3.1 h).elim h3 h'.1
  ·rw [h2,h'.2 k (by omega)]; grind
 |
  a::p,q,m+1,n,h,h'=>by
  have ih:=LZ (p:=p) (q:=q) (m:=m) ⟨by have:=h.1; rwa [Q4] at this,λk hk=>by have:=h.2 (k+1) (by omega); rwa [Q4] at this⟩ h';refine ⟨?_,λk hk=>?_⟩
  ·simp only [G7];rw [Rl,Sl,show m+1+n=(m+n)+1 by omega,Q4,h'.2 _ (by omega)];have:=ih.1; grind
  ·obtain ⟨j,rfl⟩:∃ j,k=j+1:=⟨k-1,by omega⟩;simp only [G7];rw [Rl,Sl,Q4,h'.2 _ (by omega),ih.2 j (by omega)]; grind
def ZD (g f:Up):Prop:=∃ u,∀ t,ev f t=ev g t*ev u t
theorem dvd_refl (f:Up):ZD f f:=⟨[1],λt=>by rw [Te]; grind⟩
theorem dvd_trans {f g h:Up}:ZD f g->ZD g h->ZD f h
 | ⟨u,hu⟩,⟨v,hv⟩=>⟨G7 u v,λt=>by rw [hv,hu,Fh]; grind⟩
theorem gW {p q:Up} (h:∀ t,ev p t*ev q t=0) (hp:¬∀ t,ev p t=0):∀ t,ev q t=0:=by
 rcases LQ p with h1 | ⟨m,_,h1⟩
 ·exact absurd h1 hp
 ·rcases LQ q with h2 | ⟨n,_,h2⟩
  ·exact h2
  ·exact absurd (λt=>by rw [Fh]; exact h t) (aH (LZ h1 h2))
theorem mH {p q r:Up} (hp:¬∀ t,ev p t=0) (h:∀ t,ev p t*ev q t=ev p t*ev r t) (t:Rat):ev q t=ev r t:=by
 have:=gW (p:=p) (q:=Ss q (D6 (-1) r)) (λt=>by rw [Gz,Gt]; have:=h t; grind) hp t;rw [Gz,Gt] at this; grind
theorem Qg4 {b:Up} {n:Nat} (hb:HD b n):∀ (l:Nat) (a:Up),(∀ k,l<=k->a.getD k 0=0)->∃ q r,(∀ t,ev a t=ev q t*ev b t+ev r t)/\∀ k,n<=k->r.getD k 0=0
 | 0,a,ha=>⟨[],a,λt=>by simp only [ev]; grind,λk _=>ha k (Qh _)⟩
 |
  l+1,a,ha=>by
  rcases Zb l n with h | h
  ·exact ⟨[],a,λt=>by simp only [ev]; grind,λk hk=>ha k (by omega)⟩
  ·-- the leading term is taken away
   obtain ⟨c,hc⟩:=nmE (a.getD l 0 / b.getD n 0);have hcb:c*b.getD n 0=a.getD l 0:=by rw [hc]; exact Zj hb.1
   obtain ⟨m,hm⟩:∃ m:Up,m=List.replicate (l-n) 0++[c]:=⟨_,rfl⟩;have hsh:∀ (i:Nat) (k:Nat),(G7 (List.replicate i 0++[c]) b).getD k 0=if i<=k then c*b.getD (k-i) 0 else 0:=λi=>by
    induction i with
    | zero=>intro k; simp only [Wj,Yj,G7]; rw [Rl,Sl]; cases k <;> simp <;> grind
    |
     succ i ih =>
     intro k;simp only [J4,Xb,G7];rw [Rl,Sl];cases k with
     | zero=>rw [Zt,if_neg (by omega)]; grind
     |
      succ k =>
      rw [Q4,ih k];by_cases h:i<=k
      ·rw [if_pos h,if_pos (by omega),Nat.add_sub_add_right]; grind
      ·rw [if_neg h,if_neg (by omega)]; grind
   obtain ⟨q,r,h1,h2⟩:=Qg4 hb l (Ss a (D6 (-1) (G7 m b))) λk hk=>by
    rw [Rl,Sl,hm,hsh,if_pos (by omega)];rcases Vl hk with e | e
    ·rw [ha k (by omega),hb.2 _ (by omega)]; grind
    ·subst e; rw [show l-(l-n)=n by omega,hcb]; grind
   refine ⟨Ss q m,r,λt=>?_,h2⟩;have:=h1 t;rw [Gz,Gt,Fh] at this;rw [Gz]; grind
theorem nV:∀ (n:Nat) (a b:Up),(∀ k,n<=k->b.getD k 0=0)->∃ g U V,ZD g a/\ZD g b/\∀ t,ev g t=ev U t*ev a t+ev V t*ev b t
 |
  0,a,b,h=>by
  have h0:=Lc λk=>h k (Qh _)
  exact ⟨a,[1],[],dvd_refl a,⟨[],λt=>by rw [h0]; simp only [ev]; grind⟩,λt=>by rw [Te]; simp only [ev]; grind⟩
 |
  n+1,a,b,h=>by
  rcases Classical.em (b.getD n 0=0) with e | e
  ·exact nV n a b λk hk=>by
    rcases Vl hk with e' | e'
    ·exact h k (by omega)
    ·rw [<-e']; exact e
  ·obtain ⟨q,r,h1,h2⟩:=Qg4 (b:=b) (n:=n) ⟨e,λk hk=>h k (by omega)⟩ a.length a λk hk=>by rw [Qi,Qw hk]; rfl
   obtain ⟨g,U,V,⟨u,hu⟩,⟨v,hv⟩,hg⟩:=nV n b r h2;refine ⟨g,V,Ss U (D6 (-1) (G7 V q)),⟨Ss (G7 q u) v,λt=>?_⟩,⟨u,hu⟩,λt=>?_⟩
   ·rw [h1,hv,Gz,Fh,hu]; grind
   ·rw [hg,Gz,Gt,Fh,h1]; grind
theorem Qh0 (a b:Up):∃ g U V,ZD g a/\ZD g b/\∀ t,ev g t=ev U t*ev a t+ev V t*ev b t :=
 nV b.length a b λk hk=>by rw [Qi,Qw hk]; rfl
def Cop (a b:Up):Prop:=∃ U V,∀ t,ev U t*ev a t+ev V t*ev b t=1
theorem jY {c d e:Up} (h:Cop c d) (h1:∃ u,∀ t,ev d t*ev e t=ev c t*ev u t):ZD c e:=by
 obtain ⟨U,V,h⟩:=h;obtain ⟨u,hu⟩:=h1;refine ⟨Ss (G7 U e) (G7 V u),λt=>?_⟩;rw [Gz,Fh,Fh];have a1:=h t;have a2:=hu t;have:ev e t=(ev U t*ev c t+ev V t*ev d t)*ev e t:=by rw [a1]; grind
 rw [this];have:(ev U t*ev c t+ev V t*ev d t)*ev e t=ev U t*ev c t*ev e t+ev V t*(ev d t*ev e t):=by grind
 rw [this,a2]; grind
def EP (d:Up):Nat->Up
 | 0=>[1]
 | k+1=>G7 d (EP d k)
theorem cY (d:Up) (t:Rat):∀ k:Nat,ev d t*dv (EP d k) t=(k:Rat)*(dv d t*ev (EP d k) t)
 | 0=>by simp only [EP,dv,ev]; rw [show ((0:Nat):Rat)=0 from rfl]; grind
 |
  k+1=>by
  have ih:=cY d t k;have hn':(((k+1:Nat):Rat))=(k:Rat)+1:=by push_cast; rfl
  simp only [EP];rw [jF,Fh,hn']; grind
theorem Qj5 {d:Up} {m:Nat} (h:HD d m):∀ k,HD (EP d k) (k*m)
 | 0=>by rw [Yl]; exact ⟨by simp [EP],λk hk=>by simp only [EP]; rw [Qi,Qw (by simp; omega)]; rfl⟩
 | k+1=>by rw [Xa,Ju (k*m) m]; exact LZ h (Qj5 h k)
theorem qO {d g:Up} {m n:Nat} (hd:HD d m) (hg:HD g n) (h:∀ k,ZD (EP d k) g):m=0:=by
 obtain ⟨u,hu⟩:=h (n+1);rcases LQ u with h1 | ⟨j,_,h1⟩
 ·exact absurd (λt=>by rw [hu,h1]; grind) (aH hg)
 ·have:=Qsg (Qsf (λt=>by rw [hu,Fh]) hg) (LZ (Qj5 hd (n+1)) h1);rcases Q3 m with e | e
  ·exact e
  ·have:(n+1)*1<=(n+1)*m:=Zu _ e;omega
theorem sqf {a g q d U V:Up} {k:Rat} (hk:k≠0) (ha:∀ t,ev a t=ev g t*ev q t) (hg:∀ t,k*ev g t=ev U t*ev a t+ev V t*dv a t) (h1:ZD d q) (h2:ZD d (Bp q)):∀ n,ZD (EP d n) g
 | 0=>⟨g,λt=>by simp only [EP]; rw [Te]; grind⟩
 |
  n+1=>by
  obtain ⟨g1,e1⟩:=sqf hk ha hg h1 h2 n;obtain ⟨q1,e2⟩:=h1;obtain ⟨q2,e3⟩:=h2;have d1:=λt=>QP ha t
  have d2:=λt=>QP e1 t
  have d3:=λt=>QP e2 t
  have d4:=cY d;refine ⟨D6 (1 / k) (Ss (G7 U (G7 g1 q1)) (G7 V (Ss (G7 g1 q2) (Ss (D6 n (G7 g1 (Ss q2 (D6 (-1) (Bp q1))))) (G7 (Bp g1) q1))))),λt=>?_⟩;have hkk:1 / k*k=1:=Zj hk;simp only [EP,Gt,Gz,Fh,Tr];have b1:=ha t; have b2:=hg t; have b3:=e1 t; have b4:=e2 t; have b5:=e3 t;have b6:=d1 t; have b7:=d2 t; have b8:=d3 t; have b9:=d4 t n;rw [Tr] at b5;generalize ev d t=x0 at *;generalize ev (EP d n) t=x1 at *;generalize ev g t=x2 at *;generalize ev q t=x3 at *;generalize ev a t=x4 at *;generalize dv a t=x5 at *;generalize dv g t=x6 at *;generalize dv q t=x7 at *;generalize ev g1 t=x8 at *;generalize dv g1 t=x9 at *;generalize ev q1 t=y0 at *;generalize dv q1 t=y1 at *;generalize ev q2 t=y2 at *;generalize dv d t=y3 at *;generalize dv (EP d n) t=y4 at *;generalize ev U t=y5 at *;generalize ev V t=y6 at *;generalize (n:Rat)=y7 at *;have:x2=1 / k*(k*x2):=by grind
  rw [this,b2];have c1:x5=x0*x1*(x8*y2+(y7*(x8*(y2+-1*y1))+x9*y0)):=by
   rw [b6,b7,b4,b3];have:y3*y0=x0*y2-x0*y1:=by grind
   have:x0*y4*(x8*y0)=y7*(x1*x8*(x0*y2-x0*y1)):=by rw [b9,<-this]; grind
   grind
  have c2:x4=x0*x1*(x8*y0):=by rw [b1,b3,b4]; grind
  rw [c1,c2]; grind
theorem Qoe {a b c:Up} (h1:Cop a b) (h2:Cop a c) {d:Up} (hd:∀ t,ev d t=ev b t*ev c t):Cop a d:=by
 obtain ⟨U,V,h1⟩:=h1;obtain ⟨X,Y,h2⟩:=h2;refine ⟨Ss U (G7 (G7 V b) X),G7 V Y,λt=>?_⟩;have a1:=h1 t;have a2:=h2 t;simp only [Gz,Fh,hd];have:ev V t*ev b t*(ev X t*ev a t+ev Y t*ev c t)=ev V t*ev b t:=by rw [a2]; grind
 grind
theorem Qqw {a g q z r X Y:Up} {n:Nat} (ha:∀ t,ev a t=ev g t*ev q t) (hz:∀ t,dv a t=ev g t*ev z t) (hg:HD g n) (hr:∀ t,ev X t*ev r t+ev Y t*dv r t=1) (h:ZD r a):ZD r q:=by
 obtain ⟨b,hb⟩:=h;obtain ⟨e,U,V,⟨r1,e1⟩,⟨q3,e2⟩,e3⟩:=Qh0 r q;have hr0:¬∀ t,ev r t=0:=λh=>by
  have h1:=hr 0;have h2:dv r 0=0:=by have:=Qg9 (p:=r) (q:=[]) h 0; rw [this]; rfl
  rw [h,h2] at h1; grind
 have he0:¬∀ t,ev e t=0:=λh=>hr0 λt=>by rw [e1,h]; grind
 have d1:=λt=>QP e1 t
 have c1:Cop r1 q3:=⟨U,V,λt=>by
  have:=mH (p:=e) (q:=Ss (G7 U r1) (G7 V q3)) (r:=[1]) he0 (λt=>by
   rw [Gz,Fh,Fh,Te];have a1:=e1 t; have a2:=e2 t; have a3:=e3 t;rw [a1,a2] at a3; grind) t
  rw [Gz,Fh,Fh,Te] at this; exact this⟩
 have c2:Cop r1 e:=⟨Ss (G7 X e) (G7 Y (Bp e)),G7 Y (Bp r1),λt=>by
  have a1:=hr t; have a2:=e1 t; have a3:=d1 t;simp only [Gz,Fh,Tr];rw [a2,a3] at a1; grind⟩
 have c3:Cop r1 (Bp r1):=⟨Ss (G7 X e) (G7 Y (Bp e)),G7 Y e,λt=>by
  have a1:=hr t; have a2:=e1 t; have a3:=d1 t;simp only [Gz,Fh,Tr];rw [a2,a3] at a1; grind⟩
 have c4:Cop r1 q:=Qoe c2 c1 e2;have hgz:=aH hg;have hp:∀ k,ZD (EP r1 k) g:=λk=>by
  induction k with
  | zero=>exact ⟨g,λt=>by simp only [EP]; rw [Te]; grind⟩
  |
   succ k ih =>
   obtain ⟨h,eh⟩:=ih;have hpz:¬∀ t,ev (EP r1 k) t=0:=λh0=>hgz λt=>by rw [eh,h0]; grind
   have key:ZD r1 h:=by
    cases k with
    |
     zero =>
     refine jY c4 ⟨G7 e b,λt=>?_⟩;have a1:=ha t; have a2:=hb t; have a3:=e1 t; have a4:=eh t;simp only [EP] at a4;rw [Te] at a4;rw [Fh]; grind
    |
     succ k =>
     have hn:((k+1:Nat):Rat)≠0:=by
      have:(0:Rat)<((k+1:Nat):Rat):=by
       have h1:((0:Nat):Rat)<((k+1:Nat):Rat):=Vo.2 (by omega);simpa using h1
      grind
     have d2:=λt=>QP (f:=a) (w:=EP r1 (k+1)) (u:=G7 h q) (λt=>by rw [ha,eh,Fh]; grind) t
     have d4:=cY r1;have h3:=mH (p:=EP r1 (k+1)) (q:=G7 (Bp r1) (G7 h q)) (r:=G7 r1 (D6 (1 / ((k+1:Nat):Rat)) (Ss (G7 h z) (D6 (-1) (Bp (G7 h q)))))) hpz λt=>by
      simp only [Fh,Gt,Gz,Tr];have a1:=d2 t; have a2:=d4 t (k+1); have a3:=hz t; have a4:=eh t;rw [Fh] at a1;generalize ((k+1:Nat):Rat)=c at *;have hc:1 / c*c=1:=Zj hn;generalize ev (EP r1 (k+1)) t=x0 at *;generalize dv (EP r1 (k+1)) t=x1 at *;generalize dv (G7 h q) t=x2 at *;generalize ev r1 t=x3 at *;generalize dv r1 t=x4 at *;generalize ev h t=x5 at *;generalize ev q t=x6 at *;generalize ev z t=x7 at *;generalize dv a t=x8 at *;generalize ev g t=x9 at *;generalize 1 / c=c' at *;have s1:x0*(x4*(x5*x6))=c'*(c*(x4*x0))*(x5*x6):=by
       have:c'*(c*(x4*x0))=(c'*c)*(x4*x0):=by grind
       rw [this,hc]; grind
      rw [s1,<-a2];have s2:x3*(x1*(x5*x6))=x3*(x0*(x5*x7+-1*x2)):=by
       rw [a3,a4] at a1; grind
      grind
     refine jY c4 ?_;obtain ⟨u,hu⟩:=jY (e:=G7 q h) c3 ⟨D6 (1 / ((k+1:Nat):Rat)) (Ss (G7 h z) (D6 (-1) (Bp (G7 h q)))),λt=>by
      have:=h3 t;simp only [Fh] at this ⊢;rw [<-this]; grind⟩
     exact ⟨u,λt=>by rw [<-hu,Fh]⟩
   obtain ⟨u,hu⟩:=key;exact ⟨u,λt=>by simp only [EP]; rw [Fh,eh,hu]; grind⟩
 rcases LQ r1 with h1 | ⟨m,_,h1⟩
 ·exact absurd (λt=>by rw [e1,h1]; grind) hr0
 ·obtain rfl:=qO h1 hg hp;have h2:∀ t,ev r1 t=r1.getD 0 0:=λt=>by
   cases r1 with
   | nil=>simp [ev]
   |
    cons c l =>
    have:∀ t,ev l t=0:=Lc λk=>by have:=h1.2 (k+1) (by omega); rwa [Q4] at this
    simp only [ev,this,Zt]; grind
  have h3:=h1.1;refine ⟨D6 (1 / r1.getD 0 0) q3,λt=>?_⟩;rw [e2,e1,h2,Gt];have:1 / r1.getD 0 0*r1.getD 0 0=1:=Zj h3;have:ev e t*r1.getD 0 0*(1 / r1.getD 0 0*ev q3 t)=ev e t*ev q3 t*(1 / r1.getD 0 0*r1.getD 0 0):=by grind
  rw [this,Zj h3]; grind
def Oo:Uq->Up
 | []=>[1]
 | w::l=>G7 w (Oo l)
def Lay:Uq->Uq->Prop
 | [],[]=>True
 | [w],[f]=>∀ t,ev w t=ev f t
 | w::v::l,f::fs=>(∀ t,ev w t=ev f t*ev v t)/\Lay (v::l) fs
 | _,_=>False
def PD:Uq->Up
 | []=>[1]
 | [f]=>f
 | f::_::l=>G7 f (PD l)
theorem aE:∀ {ws fs:Uq},Lay ws fs->∃ S,∀ t,ev (Oo ws) t=ev (PD fs) t*(ev S t*ev S t)
 | [],[],_=>⟨[1],λt=>by simp only [Oo,PD]; rw [Te]; grind⟩
 | [w],[f],h=>⟨[1],λt=>by simp only [Oo,PD]; rw [Fh,Te,h t]; grind⟩
 |
  [w,v],[f,f2],h=>⟨v,λt=>by
  have h1:=h.1 t;have h2:ev v t=ev f2 t:=h.2 t;simp only [Oo,PD,Fh]; rw [Te,h1]; grind⟩
 |
  w::v::x::l,f::f2::fs,h=>by
  obtain ⟨S,hS⟩:=aE h.2.2;refine ⟨G7 v S,λt=>?_⟩;have h1:=h.1 t;have h2:=hS t;have e1:ev (Oo (w::v::x::l)) t=ev w t*(ev v t*ev (Oo (x::l)) t):=by simp only [Oo,Fh]
  rw [e1,h2,h1];have e2:ev (PD (f::f2::fs)) t=ev f t*ev (PD fs) t:=by
   cases fs with
   | nil=>cases l <;> exact False.elim h.2.2
   | cons y l=>simp only [PD,Fh]
  rw [e2,Fh]; grind
 | [w],[],h=>h.elim
 | [w],_::_::_,h=>h.elim
 | [],_::_,h=>h.elim
 | [w,v],[f],h=>h.2.elim
 | [w,v],_::_::_::_,h=>h.2.elim
 | w::v::x::l,[f],h=>h.2.elim
 | w::v::l,[],h=>h.elim
end Orq
namespace Orq
open Orr Go
theorem bR (p:Um) (t:Rat):U9 p t=((p.getD 0 0:Int):Rat)+t*U9 p.tail t:=by
 cases p with
 | nil=>show (0:Rat)=((0:Int):Rat)+t*0; grind
 | cons a p=>rfl
theorem RF (p:Um) (k:Nat):p.tail.getD k 0=p.getD (k+1) 0:=by
 cases p <;> simp
theorem Cv (c d:Int) (t:Rat):∀ (n:Nat) (p q r:Um),p.length<=n->q.length<=n->r.length<=n->(∀ k,r.getD k 0=c*p.getD k 0+d*q.getD k 0)->U9 r t=(c:Rat)*U9 p t+(d:Rat)*U9 q t
 |
  0,p,q,r,hp,hq,hr,_=>by
  rw [Qj (Nat.le_zero.1 hp),Qj (Nat.le_zero.1 hq),Qj (Nat.le_zero.1 hr)];show (0:Rat)=_*0+_*0;grind
 |
  n+1,p,q,r,hp,hq,hr,h=>by
  have ih:=Cv c d t n p.tail q.tail r.tail (by rw [Wz]; omega) (by rw [Wz]; omega) (by rw [Wz]; omega) λk=>by
   rw [RF,RF,RF]; exact h (k+1)
  rw [bR p,bR q,bR r,ih,h 0]
  push_cast
  grind
theorem oQ {p q:Um} (h:∀ k,p.getD k 0=q.getD k 0) (t:Rat):U9 p t=U9 q t:=by
 have:=Cv 1 0 t (max p.length q.length) q q p (W3 ..) (W3 ..) (Nat.le_max_left ..) λk=>by rw [h k]; omega
 rw [this]
 push_cast
 grind
theorem Ou (p:Um) (t:Rat):U9 (trim p) t=U9 p t:=oQ (VG p) t
theorem Bf {p:Um} {k:Nat} (h:p.length<=k):p.getD k 0=0:=by
 rw [Qi,Qw h]; rfl
theorem qC (p q:Um) (k:Nat):(A7 p q).getD k 0=p.getD k 0+q.getD k 0:=by
 unfold A7;rw [Pa]
 split
 ·rfl
 ·rename_i h; rw [Bf (p:=p) (by omega),Bf (p:=q) (by omega)]; rfl
theorem O3 (p q:Um) (k:Nat):(M7 p q).getD k 0=p.getD k 0-q.getD k 0:=by
 unfold M7;rw [Pa]
 split
 ·rfl
 ·rename_i h; rw [Bf (p:=p) (by omega),Bf (p:=q) (by omega)]; rfl
theorem Mg (p:Um) (c:Int) (k:Nat):(Fw p c).getD k 0=p.getD k 0*c:=by
 unfold Fw;rw [Pa]
 split
 ·rfl
 ·rename_i h; rw [Bf (p:=p) (by omega),Int.zero_mul]
theorem Qc5 (p:Um) (k:Nat):(Ms p).getD k 0=-(p.getD k 0):=by
 unfold Ms;rw [Pa]
 split
 ·rfl
 ·rename_i h; rw [Bf (p:=p) (by omega)]; rfl
theorem B5 (p:Um) (k:Nat):(Gx p).getD k 0=p.getD (k+1) 0*((k+1:Nat):Int):=by
 unfold Gx;rw [Pa]
 split
 ·rfl
 ·rename_i h; rw [Bf (p:=p) (by omega),Int.zero_mul]
theorem EZ (p q:Um) (t:Rat):U9 (A7 p q) t=U9 p t+U9 q t:=by
 have:=Cv 1 1 t (max (max p.length q.length) (A7 p q).length) p q (A7 p q) (by omega) (by omega) (by omega) λk=>by rw [qC]; omega
 rw [this]; push_cast; grind
theorem Nk (p q:Um) (t:Rat):U9 (M7 p q) t=U9 p t-U9 q t:=by
 have:=Cv 1 (-1) t (max (max p.length q.length) (M7 p q).length) p q (M7 p q) (by omega) (by omega) (by omega) λk=>by rw [O3]; omega
 rw [this]; push_cast; grind
theorem FO (p:Um) (t:Rat):U9 (Ms p) t=-U9 p t:=by
 have:=Cv (-1) 0 t (max p.length (Ms p).length) p p (Ms p) (by omega) (by omega) (by omega) λk=>by rw [Qc5]; omega
 rw [this]; push_cast; grind
theorem Ro (p:Um) (c:Int) (t:Rat):U9 (Fw p c) t=U9 p t*(c:Rat):=by
 have:=Cv c 0 t (max p.length (Fw p c).length) p p (Fw p c) (by omega) (by omega) (by omega) λk=>by rw [Mg,K8]; omega
 rw [this]; push_cast; grind
theorem yD:∀ (l:Um) (j:Nat) (v:Int) (t:Rat),j<l.length->U9 (l.set j v) t=U9 l t+((v:Rat)-((l.getD j 0:Int):Rat))*t^j
 | [],_,_,_,h=>by simp at h
 |
  a::l,0,v,t,_=>by
  show (v:Rat)+t*U9 l t=(a:Rat)+t*U9 l t+((v:Rat)-(a:Rat))*t^0;rw [Xg]; grind
 |
  a::l,j+1,v,t,h=>by
  have ih:=yD l j v t (by simpa using h);show (a:Rat)+t*U9 (l.set j v) t=(a:Rat)+t*U9 l t+((v:Rat)-((l.getD j 0:Int):Rat))*t^(j+1);rw [ih,Z7]; grind
theorem EX:∀ (l:Um) (k:Nat) (t:Rat),k<l.length->U9 (l.take (k+1)) t=U9 (l.take k) t+((l.getD k 0:Int):Rat)*t^k
 | [],_,_,h=>by simp at h
 |
  a::l,0,t,_=>by
  show (a:Rat)+t*U9 (l.take 0) t=0+(a:Rat)*t^0;rw [Xg,Vu];show (a:Rat)+t*0=_;grind
 |
  a::l,k+1,t,h=>by
  have ih:=EX l k t (by simpa using h);show (a:Rat)+t*U9 (l.take (k+1)) t=(a:Rat)+t*U9 (l.take k) t+((l.getD k 0:Int):Rat)*t^(k+1);rw [ih,Z7]; grind
theorem qE (n:Nat) (t:Rat):U9 (List.replicate n 0) t=0:=by
 induction n with
 | zero=>rfl
 |
  succ n ih =>
  show ((0:Int):Rat)+t*U9 (List.replicate n 0) t=0;rw [ih]; push_cast; grind
theorem tU (t:Rat) (i:Nat):∀ k,t^(i+k)=t^i*t^k
 | 0=>by rw [Xm,Xg]; grind
 | k+1=>by rw [<-Yp,Z7,Z7,tU t i k]; grind
theorem rF (x:Int) (b:Um) (i:Nat) (o:Um) (t:Rat):∀ k,k<=b.length->i+k<=o.length->U9 (Ol x b i o k) t=U9 o t+(x:Rat)*t^i*U9 (b.take k) t
 |
  0,_,_=>by
  show U9 o t=U9 o t+(x:Rat)*t^i*0;grind
 |
  k+1,h1,h2=>by
  have ih:=rF x b i o t k (by omega) (by omega);simp only [Ol];rw [yD _ _ _ _ (by rw [Om]; omega),ih,EX b k t (by omega)];have hp:t^(i+k)=t^i*t^k:=tU t i k;rw [hp]
  push_cast
  grind
theorem rU (a b o:Um) (t:Rat):∀ i,i<=a.length->i+b.length<=o.length+1->U9 (Au a b o i) t=U9 o t+U9 (a.take i) t*U9 b t
 |
  0,_,_=>by
  show U9 o t=U9 o t+0*U9 b t;grind
 |
  i+1,h1,h2=>by
  have ih:=rU a b o t i (by omega) (by omega);simp only [Au];rw [rF _ _ _ _ _ b.length (Ql _) (by rw [Lj]; omega),ih,EX a i t (by omega),Q6];grind
theorem Gj (a b:Um) (t:Rat):U9 (Gk a b) t=U9 a t*U9 b t:=by
 unfold Gk
 split
 ·rename_i h;rcases h with h | h
  ·rw [Qj h]; show (0:Rat)=0*_; grind
  ·rw [Qj h]; show (0:Rat)=_*0; grind
 ·rename_i h;rw [Ou,rU a b _ t a.length (Ql _) (by rw [Jd]; omega),qE,Q6];grind
theorem H9 (z d:Int):(z:Rat) / (d:Rat)=Rat.divInt z d:=by
 by_cases h:d=0
 ·subst h; simp; grind
 ·rw [J6]; exact (Rat.divInt_eq_div z d ▸ by rw [J6])
theorem Qaq (a:Um) (n d:Int) (hd:(d:Rat)≠0):∀ k,k<=a.length->(((Ed a n d k).2:Int):Rat)=(d:Rat)^k/\(((Ed a n d k).1:Int):Rat)*d=(d:Rat)^k*U9 (a.drop (a.length-k)) ((n:Rat) / d)
 |
  0,_=>by
  refine ⟨by rw [Xg]; rfl,?_⟩;rw [W5,Yt];show ((0:Int):Rat)*d=(d:Rat)^0*0
  push_cast; grind
 |
  k+1,hk=>by
  obtain ⟨h1,h2⟩:=Qaq a n d hd k (by omega);have hi:a.length-1-k<a.length:=by omega
  have e1:a.drop (a.length-(k+1))=a.getD (a.length-1-k) 0::a.drop (a.length-k):=by
   rw [show a.length-(k+1)=a.length-1-k by omega,Zp hi,show a.length-1-k+1=a.length-k by omega];congr 1;rw [Qi,Qe hi]; rfl
  refine ⟨?_,?_⟩
  ·show (((Ed a n d k).2*d:Int):Rat)=_;rw [X1,h1,Z7]
  ·rw [e1];show (((Ed a n d k).1*n+a.getD (a.length-1-k) 0*(Ed a n d k).2:Int):Rat)*d=_*(((a.getD (a.length-1-k) 0:Int):Rat)+(n:Rat) / d*U9 (a.drop (a.length-k)) ((n:Rat) / d));rw [Kc,X1,X1,h1,Z7];have h3:(n:Rat) / d*d=n:=by rw [Zj hd]
   have h4:(d:Rat)^k*d*((n:Rat) / d*U9 (a.drop (a.length-k)) ((n:Rat) / d))=((n:Rat) / d*d)*((d:Rat)^k*U9 (a.drop (a.length-k)) ((n:Rat) / d)):=by grind
   have h5:(d:Rat)^k*d*(((a.getD (a.length-1-k) 0:Int):Rat)+(n:Rat) / d*U9 (a.drop (a.length-k)) ((n:Rat) / d))=(d:Rat)^k*d*((a.getD (a.length-1-k) 0:Int):Rat)+(d:Rat)^k*d*((n:Rat) / d*U9 (a.drop (a.length-k)) ((n:Rat) / d)):=by grind
   rw [h5,h4,h3,<-h2];grind
theorem oK {d:Rat} (h:0<d):∀ k:Nat,0<d^k
 | 0=>by rw [Xg]; decide
 | k+1=>by rw [Z7]; exact Xs (oK h k) h
theorem C5 {x y:Rat} (h:0<y):Fg (y*x)=Fg x:=by
 unfold Fg;have h1:y*x<0↔x<0:=by
  constructor
  ·intro h2;rcases Vw (a:=0) (b:=x) with h3 | h3
   ·have:=Vx (Qt h) h3; grind
   ·rcases Rat.le_iff_lt_or_eq.1 h3 with h4 | h4
    ·exact h4
    ·rw [h4] at h2; grind
  ·intro h2;have:=Xs h (show 0 < -x by grind);grind
 have h2:0<y*x↔0<x:=by
  constructor
  ·intro h2;rcases Vw (a:=x) (b:=0) with h3 | h3
   ·have:=Vx (Qt h) (show 0<=-x by grind); grind
   ·rcases Rat.le_iff_lt_or_eq.1 h3 with h4 | h4
    ·exact h4
    ·rw [<-h4] at h2; grind
  ·intro h2; exact Xs h h2
 simp only [h1,h2]
theorem Qgu (z:Int):Lb z 0=Fg (z:Rat):=by
 unfold Lb Fg;have h1:((z:Int):Rat)<0↔z<0:=by
  have := @Rat.intCast_lt_intCast z 0; simpa using this
 have h2:0<((z:Int):Rat)↔0<z:=by
  have := @Rat.intCast_lt_intCast 0 z; simpa using this
 simp only [h1,h2]
theorem Nm (p:Um) (q:Rat):Ra p q=Fg (U9 p q):=by
 have hd0:(0:Rat)<((q.den:Int):Rat):=by
  have := @Rat.intCast_lt_intCast 0 (q.den:Int);rw [show ((0:Int):Rat)=0 from rfl] at this;exact this.2 (den_pos q)
 have hd:((q.den:Int):Rat)≠0:=by intro h; rw [h] at hd0; exact absurd hd0 (by decide)
 obtain ⟨_,h⟩:=Qaq p q.num q.den hd p.length (Ql _);rw [Ki,Xy,H9,Z5] at h;unfold Ra;rw [Qgu,<-C5 hd0,W7];show Fg ((((Ed p q.num q.den p.length).1:Int):Rat)*_)=_;rw [h,C5 (oK hd0 _)]
def cz (p:Um):Up:=p.map λz:Int=>(z:Rat)
theorem Fa (t:Rat):∀ p,ev (cz p) t=U9 p t
 | []=>rfl
 | a::p=>by have:=Fa t p; simp only [cz,Z0,ev,U9] at *; rw [this]
theorem Mp:∀ (p:Um) (k:Nat),(cz p).getD k 0=((p.getD k 0:Int):Rat)
 | [],k=>by simp [cz]
 | a::p,0=>by simp [cz]
 | a::p,k+1=>by have:=Mp p k; simp only [cz,Z0,Q4] at *; exact this
theorem Lq {p q:Um} (h:∀ t,U9 p t=U9 q t) (k:Nat):p.getD k 0=q.getD k 0:=by
 have:=Dz (p:=cz p) (q:=cz q) (λt=>by rw [Fa,Fa,h]) k;rw [Mp,Mp] at this
 exact_mod_cast this
theorem Qq4 {p q:Um} (hp:Ff p) (hq:Ff q) (h:∀ k,p.getD k 0=q.getD k 0):p=q:=by
 have key:∀ {p q:Um},Ff p->Ff q->(∀ k,p.getD k 0=q.getD k 0)->p.length<=q.length:=λ{p q} hp hq h=>by
  rcases Zb q.length p.length with e | e
  ·have:=H8 hp (by omega);rw [h,Qi,Qw (by omega)] at this;exact absurd rfl this
  ·exact e
 exact DY (Kb (key hp hq h) (key hq hp λk=>(h k).symm)) λj _=>h j
theorem oZ {p q:Um} (hp:Ff p) (hq:Ff q) (h:∀ t,U9 p t=U9 q t):p=q:=Qq4 hp hq (Lq h)
theorem Qpt {p:Um} (hp:Ff p) (h:∀ t,U9 p t=0):p=[]:=oZ hp rfl λt=>by rw [h]; rfl
theorem D4 {p:Um} (h:p.length=0) (t:Rat):U9 p t=0:=by rw [Qj h]; rfl
theorem iO:∀ (p r:Um) (t:Rat),(∀ k,r.getD k 0=p.getD (k+1) 0*((k+1:Nat):Int))->U9 r t=dv (cz p) t
 |
  [],r,t,h=>by
  rw [oQ (q:=[]) (λk=>by rw [h]; simp) t]; rfl
 |
  a::p,r,t,h=>by
  have ih:=iO p (Gx p) t λk=>B5 p k
  have e:U9 r t=U9 p t+t*U9 (Gx p) t:=by
   have:=Cv 1 1 t (max (max p.length (0::Gx p).length) r.length) p (0::Gx p) r (by omega) (by omega) (by omega) λk=>by
    rw [h,Q4];cases k with
    | zero=>simp
    | succ k=>rw [Q4,B5]; push_cast; grind
   rw [this]; simp only [U9]; push_cast; grind
  rw [e,ih];show _=ev (cz p) t+t*dv (cz p) t;rw [Fa]
theorem Ot (p:Um) (t:Rat):U9 (Gx p) t=dv (cz p) t:=iO p _ t λk=>B5 p k
theorem SR {p:Um} (hp:Ff p) (h:0<p.length):HD (cz p) (p.length-1):=by
 refine ⟨?_,λk hk=>?_⟩
 ·rw [Mp];have:=H8 hp h;exact λe=>this (by exact_mod_cast e)
 ·rw [Mp,Qi,Qw (by omega)]; rfl
theorem SV {p:Um} (hp:Ff p) (h:0<p.length):¬∀ t,U9 p t=0:=λh0=>by
 rw [Qpt hp h0] at h; exact absurd h (by simp)
theorem Mr {a b c:Um} (ha:Ff a) (hb:Ff b) (hc:Ff c) (h:∀ t,U9 c t=U9 a t*U9 b t) (la:0<a.length) (lb:0<b.length):c.length=a.length+b.length-1:=by
 have h1:=LZ (SR ha la) (SR hb lb);have h2:HD (cz c) (a.length-1+(b.length-1)):=Qsf (λt=>by rw [Fh,Fa,Fa,Fa,h]) h1;have lc:0<c.length:=by
  rcases Q3 c.length with e | e
  ·exact absurd (λt=>by rw [Fa]; exact D4 e t) (aH h2)
  ·exact e
 have:=Qsg (SR hc lc) h2;omega
theorem rM:∀ (n m:Nat),m<=n->2<=m->∃ P,2<=P/\P∣m/\∀ d,2<=d->d∣P->d=P
 | 0,m,h,h2=>by omega
 |
  n+1,m,h,h2=>by
  rcases Classical.em (∃ d,2<=d/\d<m/\d∣m) with ⟨d,d1,d2,d3⟩ | h0
  ·obtain ⟨P,p1,p2,p3⟩:=rM n d (by omega) d1;exact ⟨P,p1,Nat.dvd_trans p2 d3,p3⟩
  ·refine ⟨m,h2,Nat.dvd_refl m,λd d1 d2=>?_⟩;rcases Vl (Kv (by omega) d2) with e | e
   ·exact absurd ⟨d,d1,e,d2⟩ h0
   ·exact e
theorem jT {P:Nat} (h2:2<=P) (hP:∀ d,2<=d->d∣P->d=P) {x y:Int} (h:(P:Int)∣x*y):(P:Int)∣x\/(P:Int)∣y:=by
 have h:=X3.2 h;rw [J9,Xh] at h;have hg:=W0 P x.natAbs;rcases Zb (Nat.gcd P x.natAbs) 2 with e | e
 ·right;have h1:Nat.gcd P x.natAbs=1:=by
   have:=Nat.gcd_pos_of_pos_left x.natAbs (show 0<P by omega); omega
  have:=Nat.Coprime.dvd_of_dvd_mul_left h1 h;exact X3.1 (by rwa [Xh])
 ·left;have:=hP _ e hg;have h3:=Nat.gcd_dvd_right P x.natAbs;rw [this] at h3;exact X3.1 (by rwa [Xh])
def pQ (P:Int) (l:Um):Prop:=∀ k,P∣l.getD k 0
theorem HK {P:Nat} (h2:2<=P) (hP:∀ d,2<=d->d∣P->d=P):∀ (n:Nat) (b h c:Um),b.length+h.length<=n->(∀ t,U9 c t=U9 b t*U9 h t)->pQ P c->pQ P b\/pQ P h
 | _,[],h,c,_,_,_=>.inl λk=>by simp
 | _,x::b,[],c,_,_,_=>.inr λk=>by simp
 | 0,x::b,y::h,c,hn,_,_=>by simp at hn
 |
  n+1,x::b,y::h,c,hn,hc,hd=>by
  simp only [Q5] at hn;by_cases hx:(P:Int)∣x
  ·-- x h is taken away
   have e:∀ t,U9 (0::Gk b (y::h)) t=U9 (M7 c (Fw (y::h) x)) t:=λt=>by
    rw [Nk,Ro,hc]; simp only [U9]; rw [Gj]; simp only [U9]; push_cast; grind
   have hd':pQ P (Gk b (y::h)):=λk=>by
    have:=Lq e (k+1);rw [Q4,O3,Mg] at this;rw [this];exact Int.dvd_sub (hd (k+1)) (V5 hx (Y9 _ _))
   rcases HK h2 hP n b (y::h) _ (by simp only [Q5]; omega) (λt=>Gj _ _ t) hd' with h1 | h1
   ·refine .inl λk=>?_
    cases k with
    | zero=>rw [Zt]; exact hx
    | succ k=>rw [Q4]; exact h1 k
   ·exact .inr h1
  ·have h0:(P:Int)∣y:=by
    have e:c.getD 0 0=x*y:=by
     have:=Lq (p:=c) (q:=Gk (x::b) (y::h)) (λt=>by rw [hc,Gj]) 0;have e2:=Lq (p:=Gk (x::b) (y::h)) (q:=A7 (Fw (y::h) x) (0::Gk b (y::h))) (λt=>by
      rw [EZ,Ro,Gj]; simp only [U9]; rw [Gj]; simp only [U9]; push_cast; grind) 0
     rw [this,e2,qC,Mg,Zt,Zt,K8]; omega
    have:=hd 0;rw [e] at this;rcases jT h2 hP this with h1 | h1
    ·exact absurd h1 hx
    ·exact h1
   have e:∀ t,U9 (0::Gk (x::b) h) t=U9 (M7 c (Fw (x::b) y)) t:=λt=>by
    rw [Nk,Ro,hc]; simp only [U9]; rw [Gj]; simp only [U9]; push_cast; grind
   have hd':pQ P (Gk (x::b) h):=λk=>by
    have:=Lq e (k+1);rw [Q4,O3,Mg] at this;rw [this];exact Int.dvd_sub (hd (k+1)) (V5 h0 (Y9 _ _))
   rcases HK h2 hP n (x::b) h _ (by simp only [Q5]; omega) (λt=>Gj _ _ t) hd' with h1 | h1
   ·exact absurd (by have:=h1 0; rwa [Zt] at this) hx
   ·refine .inr λk=>?_
    cases k with
    | zero=>rw [Zt]; exact h0
    | succ k=>rw [Q4]; exact h1 k
def Prm (b:Um):Prop:=∀ d:Int,pQ d b->d∣1
theorem Qhv {a b:Um} (hb:Prm b):∀ (n:Nat) (c:Int) (h:Um),c.natAbs<=n->c≠0->(∀ t,(c:Rat)*U9 a t=U9 b t*U9 h t)->∃ h',∀ t,U9 a t=U9 b t*U9 h' t
 | 0,c,h,hn,h0,_=>absurd (by omega) h0
 |
  n+1,c,h,hn,h0,hc=>by
  rcases Zb c.natAbs 2 with h1 | h1
  ·refine ⟨Fw h c,λt=>?_⟩;have hcc:(c:Rat)*c=1:=by
    have:c*c=1:=by
     rcases (show c=1\/c=-1 by omega) with rfl | rfl <;> rfl
    have:=congrArg (λz:Int=>(z:Rat)) this
    push_cast at this; exact this
   rw [Ro];have:=hc t;have:U9 a t=(c:Rat)*((c:Rat)*U9 a t):=by
    have:(c:Rat)*((c:Rat)*U9 a t)=((c:Rat)*c)*U9 a t:=by grind
    rw [this,hcc]; grind
   rw [this,hc]; grind
  ·obtain ⟨P,p1,p2,p3⟩:=rM c.natAbs c.natAbs (Ql _) h1;obtain ⟨d,hd⟩:∃ d,c=(P:Int)*d:=Wp.2 p2;have hall:pQ P (Fw a c):=λk=>by
    rw [Mg,hd]; exact V5 (Int.dvd_mul_right _ _) (Y9 _ _)
   have hP0:(P:Rat)≠0:=by
    have:((0:Nat):Rat)<(P:Rat):=Vo.2 (by omega);grind
   rcases HK p1 p3 _ b h (Fw a c) (Ql _) (λt=>by rw [Ro,W7,hc]) hall with e | e
   ·have:=hb P e;have:=X3.2 this;rw [Xh] at this;have:=Kv (by decide) this;exact absurd this (by show ¬P<=1; omega)
   ·refine Qhv hb n d (h.map (· / (P:Int))) ?_ (λe0=>h0 (by rw [hd,e0,Wa])) λt=>?_
    ·rw [hd,J9,Xh] at hn h1;have:2*d.natAbs<=P*d.natAbs:=Q0 _ p1;omega
    ·have e1:U9 h t=(P:Rat)*U9 (h.map (· / (P:Int))) t:=by
      have:=Cv P 0 t (max h.length (h.map (· / (P:Int))).length) (h.map (· / (P:Int))) [] h (by omega) (by simp) (by omega) λk=>by
       have:=e k;have e2:(h.map (· / (P:Int))).getD k 0=h.getD k 0 / (P:Int):=by
        rw [Qi,Qi,Q8];cases h[k]? <;> simp
       rw [e2,K9 this]; simp
      rw [this]; simp only [U9]; push_cast; grind
     have:=hc t;rw [hd,e1] at this
     push_cast at this
     have h3:(P:Rat)*((d:Rat)*U9 a t)=(P:Rat)*(U9 b t*U9 (h.map (· / (P:Int))) t):=by grind
     have h4:=Y3.1 (show (P:Rat)*((d:Rat)*U9 a t-U9 b t*U9 (h.map (· / (P:Int))) t)=0 by grind);rcases h4 with h4 | h4
     ·exact absurd h4 hP0
     ·grind
theorem IA:∀ u:Up,∃ c:Int,c≠0/\∃ h:Um,∀ t,(c:Rat)*ev u t=U9 h t
 | []=>⟨1,by decide,[],λt=>by simp only [ev,U9]; grind⟩
 |
  a::u=>by
  obtain ⟨c,hc,h,hh⟩:=IA u;refine ⟨c*(a.den:Int),Jf hc (by have:=a.den_nz; omega),(c*a.num)::Fw h (a.den:Int),λt=>?_⟩;have e:(a.den:Rat)*a=a.num:=by
   rw [W7];have:(a.num:Rat) / (((a.den:Int)):Rat)=a:=by rw [H9,Z5]
   have hd:(a.den:Rat)≠0:=by
    have:((0:Nat):Rat)<(a.den:Rat):=Vo.2 a.den_pos;grind
   have h2:(a.num:Rat) / (a.den:Rat)*(a.den:Rat)=a.num:=Zj hd;rw [show (a.num:Rat) / (a.den:Rat)=a from this] at h2; exact h2
  simp only [ev,U9];rw [Ro,<-hh]
  push_cast
  rw [<-e];have e3:(((a.den:Int)):Rat)=(a.den:Rat):=rfl;grind
theorem Qhu {a b:Um} (hb:Prm b) (h:ZD (cz b) (cz a)):∃ h',Ff h'/\∀ t,U9 a t=U9 b t*U9 h' t:=by
 obtain ⟨u,hu⟩:=h;obtain ⟨c,hc,h,hh⟩:=IA u;obtain ⟨h',e⟩:=Qhv hb c.natAbs c h (Ql _) hc λt=>by
  have:=hu t;rw [Fa,Fa] at this;rw [this,<-hh]; grind
 exact ⟨trim h',Rq _,λt=>by rw [Ou,e]⟩
def sd (x0:Rat):Up->Up
 | []=>[]
 | _::p=>Ss p (D6 x0 (sd x0 p))
theorem Qhm (x0 x:Rat):∀ p,ev (sd x0 p) x=dq p x x0
 | []=>rfl
 | a::p=>by simp only [sd,dq]; rw [Gz,Gt,Qhm x0 x p]
theorem cN (x0:Rat):∀ (g:Up) (n:Nat),(∀ j,n<j->g.getD j 0=0)->∀ j,n<=j->(sd x0 g).getD j 0=0
 | [],n,_,j,_=>by simp [sd]
 |
  a::p,0,h,j,_=>by
  have hp:∀ j,p.getD j 0=0:=λj=>by have:=h (j+1) (by omega); rwa [Q4] at this
  simp only [sd];rw [Rl,Sl,hp,cN x0 p 0 (λj _=>hp j) j (Qh _)]; grind
 |
  a::p,n+1,h,j,hj=>by
  have hp:∀ j,n<j->p.getD j 0=0:=λj hj=>by have:=h (j+1) (by omega); rwa [Q4] at this
  simp only [sd];rw [Rl,Sl,hp j (by omega),cN x0 p n hp j (by omega)]; grind
theorem nG {K:Rat} (hK:0≤K):∀ (e:Nat) (g:Up) (pts:Um) (M:Rat),pts.length=e+1->pts.Nodup->(∀ x∈pts,Fj (x:Rat)≤K)->(∀ k,e<k->g.getD k 0=0)->(∀ x∈pts,Fj (ev g (x:Rat))≤M)->∀ k,Fj (g.getD k 0)≤(2*K+3)^e*M
 | _,_,[],_,h,_,_,_,_=>by simp at h
 |
  0,g,x0::xs,M,_,_,_,hg,hM=>λk=>by
  have h0:=hM x0 (by simp);rw [Xg];cases k with
  |
   zero =>
   have e:ev g (x0:Rat)=g.getD 0 0:=by
    cases g with
    | nil=>rfl
    |
     cons a p =>
     have hp:=Lc (p:=p) λj=>by have:=hg (j+1) (by omega); rwa [Q4] at this
     simp only [ev,hp,Zt]; grind
   rw [<-e]; grind
  |
   succ k =>
   rw [hg (k+1) (by omega),Rj];have:=Hw (ev g (x0:Rat)); grind
 |
  e+1,g,x0::xs,M,hl,hn,hb,hg,hM=>λk=>by
  have hx0:=hb x0 (by simp);have hM0:=hM x0 (by simp);have hMn:0<=M:=Zl (Hw _) hM0;rw [List.nodup_cons] at hn;have ih:=nG hK e (sd x0 g) xs (2*M) (by simpa using hl) hn.2 (λx hx=>hb x (by simp [hx])) (λj hj=>cN _ g (e+1) hg j (by omega)) λx hx=>by
   have h1:=hM x (by simp [hx]);have h2:=OK (x:Rat) (x0:Rat) g;rw [<-Qhm] at h2;have hne:x-x0≠0:=λh=>hn.1 (by rw [show x0=x by omega]; exact hx)
   have h3:=WW hne;rw [Rat.intCast_sub] at h3;have h4:Fj (ev g (x:Rat)-ev g (x0:Rat))<=2*M:=by
    have:=Sr (ev g (x:Rat)) (-ev g (x0:Rat));rw [Ew,show ev g (x:Rat)+-ev g (x0:Rat)=ev g (x:Rat)-ev g (x0:Rat) by grind] at this;clear hM hb hg; grind
   rw [h2,Im] at h4;have h5:=Ze h3 (Hw (ev (sd x0 g) x));clear hM hb hg; grind
  have e1:∀ t,ev g t=ev (Ss [ev g x0] (Ss (D6 (-x0) (sd x0 g)) (0::sd x0 g))) t:=λt=>by
   have:=OK t (x0:Rat) g;rw [<-Qhm] at this;simp only [Gz,Gt,ev];grind
  have hp1:1<=(2*K+3)^e:=(VX (R:=2*K+3) (x:=0) (by grind) (by rw [Rj]; grind) e).2;have hpM:=Bj (x:=(2*K+3)^e) (y:=M) (by grind) hMn;have hpM1:=Ze hp1 hMn;rw [Z7,Dz e1 k,Rl,Rl,Sl];have a1:=ih k;have a2:Fj (-(x0:Rat)*(sd (x0:Rat) g).getD k 0)<=K*((2*K+3)^e*(2*M)):=Hd (by rw [Ew]; exact hx0) a1;have fin:∀ u v w:Rat,Fj u<=M->Fj v<=K*((2*K+3)^e*(2*M))->Fj w<=(2*K+3)^e*(2*M)->Fj (u+(v+w))<=(2*K+3)^e*(2*K+3)*M:=λu v w h1 h2 h3=>by
   have b1:=Sr u (v+w);have b2:=Sr v w;clear ih e1 hM hb hg a1 a2; grind
  refine fin _ _ _ ?_ a2 ?_
  ·cases k with
   | zero=>rw [Zt]; exact hM0
   | succ k=>rw [Q4,Kt,Rj]; exact hMn
  ·cases k with
   | zero=>rw [Zt,Rj]; clear ih e1 hM hb hg a1 a2 fin; grind
   | succ k=>rw [Q4]; exact ih k
theorem Qkf {g:Up} {e:Nat} (hg:∀ k,e<k->g.getD k 0=0) (hz:¬∀ t,ev g t=0) {pts:Um} (hn:pts.Nodup) (hr:∀ x∈pts,ev g (x:Rat)=0):pts.length≤e:=by
 rcases Zb e pts.length with h | h
 ·exfalso;obtain ⟨K,hK,hb⟩:∃ K:Rat,0≤K/\∀ x∈pts,Fj (x:Rat)≤K:=by
   clear hn hr h
   induction pts with
   | nil=>exact ⟨0,by decide,λx hx=>by cases hx⟩
   |
    cons y pts ih =>
    obtain ⟨K,h1,h2⟩:=ih;refine ⟨K+Fj (y:Rat),by have:=Hw (y:Rat); grind,λx hx=>?_⟩;have hy:=Hw (y:Rat);rcases Qm.1 hx with rfl | hx
    ·grind
    ·have:=h2 x hx; grind
  refine hz (Lc λk=>?_);have:=nG hK e g (pts.take (e+1)) 0 (by rw [Qq]; omega) (hn.sublist (List.take_sublist ..)) (λx hx=>hb x (Qo hx)) hg (λx hx=>by rw [hr x (Qo hx),Rj]; exact Qp) k;have h2:=Hw (g.getD k 0);exact Qp4 (by grind)
 ·exact h
def spots:Um:=(List.range 19).map λi:Nat=>(i:Int)-9
theorem spots_nd:spots.Nodup:=by decide
theorem tL:∀ x∈spots,x.natAbs≤9:=by decide
theorem DW {α:Type} (p:α->Bool):∀ l:List α,(l.filter p).length+(l.filter λx => !p x).length=l.length
 | []=>rfl
 |
  x::l=>by
  have:=DW p l;cases h:p x <;> simp [h] <;> omega
def geo:Nat->Nat
 | 0=>0
 | n+1=>1+9*geo n
theorem aY {B:Rat}:∀ (p:Um),(∀ z∈p,Fj (z:Rat)≤B)->uA 9 (cz p)≤B*(geo p.length:Nat)
 | [],_=>by simp only [cz,X7,uA,geo,Xk]; rw [show ((0:Nat):Rat)=0 from rfl]; grind
 |
  a::p,h=>by
  have h1:=aY p λz hz=>h z (Qg _ hz)
  have h2:=h a (Qy ..);simp only [cz,Z0,uA,geo,Q5] at *
  push_cast
  clear h; grind
theorem Qh3 {m n:Nat} (h:m<=n):geo m<=geo n:=by
 induction h with
 | refl=>exact Ql _
 | step h ih=>simp only [geo]; omega
def pz:Um->Int->Int
 | [],_=>0
 | a::p,x=>a+x*pz p x
theorem WG (x:Int):∀ p,U9 p (x:Rat)=((pz p x:Int):Rat)
 | []=>rfl
 | a::p=>by simp only [U9,pz,WG x p]; push_cast; rfl
theorem Sx (z:Int):Fj (z:Rat)=((z.natAbs:Nat):Rat):=by
 unfold Fj;rcases Kd z 0 with h | h
 ·have h1:(z:Rat)<((0:Int):Rat):=Jn.2 h;rw [if_pos (by simpa using h1)];have:(z.natAbs:Int)=-z:=by omega
  have:=congrArg (λu:Int=>(u:Rat)) this
  push_cast at this
  exact this.symm
 ·have h1:((0:Int):Rat)<=(z:Rat):=Jb.2 h;have h1:(0:Rat)<=(z:Rat):=by simpa using h1
  rw [if_neg (by grind)];have:(z.natAbs:Int)=z:=by omega
  have:=congrArg (λu:Int=>(u:Rat)) this;exact this.symm
theorem XG {p g h:Um} {s:Nat} (hp:Bd s p) (hl:p.length<=10) (tp:Ff p) (tg:Ff g) (th:Ff h) (h0:p.length≠0) (e:∀ t,U9 p t=U9 g t*U9 h t):Bd (s+69) g:=by
 have lg:0<g.length:=by
  rcases Q3 g.length with e' | e'
  ·exact absurd (λt=>by rw [e,D4 e']; grind) (SV tp (by omega))
  ·exact e'
 have lh:0<h.length:=by
  rcases Q3 h.length with e' | e'
  ·exact absurd (λt=>by rw [e,D4 e']; grind) (SV tp (by omega))
  ·exact e'
 have hlen:=Mr tg th tp e lg lh;obtain ⟨q,hq⟩:=nmE (spots.filter λx => !decide (pz p x=0));have hr:(spots.filter λx=>decide (pz p x=0)).length<=9:=by
  refine Qkf (g:=cz p) (e:=9) (λk hk=>?_) (λh=>SV tp (by omega) λt=>by rw [<-Fa]; exact h t) (spots_nd.sublist List.filter_sublist) λx hx=>?_
  ·rw [Mp,Qi,Qw (by omega)]; rfl
  ·have:=(Yi.1 hx).2;rw [Fa,WG,of_decide_eq_true this]; rfl
 have hc:=DW (λx=>decide (pz p x=0)) spots;rw [<-hq] at hc;have hsl:spots.length=19:=by decide
 have hB:∀ z∈p,Fj (z:Rat)≤((2^s:Nat):Rat):=λz hz=>by
  rw [Sx];have:=hp z hz;rw [Sw] at this;exact Zm.2 (Yk this)
 have key:=nG (K:=9) (by decide) 9 (cz g) (q.take 10) (((2^s*435848050:Nat)):Rat) (by rw [Qq]; omega) ((spots_nd.sublist (by rw [hq]; exact List.filter_sublist)).sublist (List.take_sublist ..)) (λx hx=>by
  have hx:=Qo hx;rw [hq] at hx;have:=tL x (Yi.1 hx).1;rw [Sx]
  exact_mod_cast Zm.2 this) (λk hk=>by rw [Mp,Qi,Qw (by omega)]; rfl) (λx hx=>by
  have hx:=Qo hx;rw [hq] at hx;obtain ⟨hx1,hx2⟩:=Yi.1 hx;have hne:pz p x≠0:=by simpa using hx2
  have e1:=e (x:Rat);rw [WG,WG,WG] at e1;have e2:pz p x=pz g x*pz h x:=by exact_mod_cast e1
  have hh:1<=(pz h x).natAbs:=by
   rcases Q3 (pz h x).natAbs with e' | e'
   ·exact absurd (by rw [e2,Int.natAbs_eq_zero.1 e',Wa]) hne
   ·exact e'
  have h3:(pz g x).natAbs<=(pz p x).natAbs:=by
   rw [e2,J9];exact Ys _ hh
  rw [Fa,WG,Sx];refine Zl (Zm.2 h3) ?_;rw [<-Sx,<-WG,<-Fa];refine Zl (SU (R:=9) (by
   have:=tL x hx1;rw [Sx]
   exact_mod_cast Zm.2 this) _) ?_
  refine Zl (aY p hB) ?_;have:2^s*geo p.length<=2^s*435848050:=Zu _ (Qa (Qh3 hl) (by decide));have:=Zm.2 this
  push_cast at this ⊢
  exact this)
 refine BZ λk=>?_
 have h1:=key k;rw [Mp,Sx] at h1;have e3:(2*(9:Rat)+3)^9*((2^s*435848050:Nat):Rat)=(((794280046581*(2^s*435848050)):Nat):Rat):=by
  rw [show (2*(9:Rat)+3)^9=794280046581 by grind]
  push_cast; rfl
 rw [e3] at h1;have h2:=Zm.1 h1;rw [Sw];refine Z3 h2 ?_;have:794280046581*(2^s*435848050)=2^s*(794280046581*435848050):=by
  rw [Nat.mul_left_comm]
 rw [this,Xf];exact Nat.mul_lt_mul_of_pos_left (by decide) (Z2 (by decide))
theorem uS {l:Um} {d:Int} (h:∀ z∈l,d∣z):d∣((Rz l:Nat):Int):=by
 have key:∀ (l:Um) (g:Nat),d.natAbs∣g->(∀ z∈l,d∣z)->d.natAbs∣l.foldl (λg z=>Nat.gcd g z.natAbs) g:=by
  intro l
  induction l with
  | nil=>exact λg h _=>h
  | cons z l ih=>exact λg hg h=>ih _ (Nat.dvd_gcd hg (X3.2 (h z (Qy ..)))) λu hu=>h u (Qg _ hu)
 have:=key l 0 (Nat.dvd_zero _) h;exact X3.1 (by rw [Xh]; exact this)
theorem FX (p:Um) (c:Int) (k:Nat):(p.map (· / c)).getD k 0=p.getD k 0 / c:=by
 rw [Qi,Qi,Q8];cases p[k]? <;> simp
theorem WH (p:Um) (c:Int) (k:Nat):(De p c).getD k 0=p.getD k 0 / c:=by
 unfold De; rw [VG,FX]
theorem qL {p:Um} {c:Int} (h:∀ z∈p,c∣z) (t:Rat):U9 p t=(c:Rat)*U9 (De p c) t:=by
 have:=Cv c 0 t (max p.length (De p c).length) (De p c) [] p (by omega) (by simp) (by omega) λk=>by
  rw [WH];have hd:c∣p.getD k 0:=by
   rw [Qi];cases e:p[k]? with
   | none=>exact Int.dvd_zero _
   | some z=>exact h z (Qc e)
  rw [K9 hd]; simp
 rw [this]; simp only [U9]; push_cast; grind
theorem XM {c:Int} (h:c≠0):(c:Rat)≠0:=λe=>h (by exact_mod_cast e)
theorem QA {p q:Um} {c:Rat} (tp:Ff p) (tq:Ff q) (hc:c≠0) (h:∀ t,U9 p t=c*U9 q t):p.length=q.length:=by
 have key:∀ {p q:Um} {c:Rat},Ff p->Ff q->c≠0->(∀ t,U9 p t=c*U9 q t)->p.length<=q.length:=λ{p q c} tp tq hc h=>by
  rcases Zb q.length p.length with e | e
  ·have h1:=H8 tp (by omega);have:=Dz (p:=cz p) (q:=D6 c (cz q)) (λt=>by rw [Fa,Gt,Fa,h]) (p.length-1);rw [Mp,Sl,Mp,Qi (l:=q),Qw (by omega)] at this;have:((p.getD (p.length-1) 0:Int):Rat)=0:=by rw [this]; simp
   exact absurd (by exact_mod_cast this) h1
  ·exact e
 refine Kb (key tp tq hc h) (key (c:=1 / c) tq tp (λe=>?_) λt=>?_)
 ·have:=Zj (a:=1) hc; rw [e] at this; grind
 ·rw [h]; have:=Zj (a:=1) hc; grind
theorem Cx {p:Um} (tp:Ff p) (h:p.length≠0):Ff (Fi p)/\(Fi p).length=p.length/\Prm (Fi p)/\0<Fq (Fi p)/\(∀ s,Bd s p->Bd s (Fi p))/\Ho p≠0/\∀ t,U9 p t=(Ho p:Rat)*U9 (Fi p) t:=by
 have h0:=oJ tp h;have e:Fi p=De p (Ho p):=by unfold Fi; rw [if_neg h]
 have h1:=qL (p:=p) (c:=Ho p) GQ;have hl:=QA tp (ZY p (Ho p)) (XM h0) h1;have hcp:0<Pj p:=by
  have:=JF tp h;unfold Pj at this ⊢; omega
 rw [e];refine ⟨ZY _ _,hl.symm,λd hd=>?_,?_,λs hs=>BX hs _,h0,h1⟩
 ·have h2:∀ z∈p,d*Ho p∣z:=λz hz=>by
   obtain ⟨i,hi⟩:=Zk.1 hz;have h3:=hd i;rw [WH,Qi,hi] at h3;obtain ⟨k,hk⟩:=h3;have h4:=GQ z hz;refine ⟨k,?_⟩;have:z / Ho p*Ho p=z:=Int.ediv_mul_cancel h4;rw [<-this];rw [show z / Ho p=d*k from hk,Int.mul_right_comm]
  have h3:=uS h2;have h4:Ho p∣((Rz p:Nat):Int)/\((Rz p:Nat):Int)∣Ho p:=by
   unfold Ho Pj; split
   ·exact ⟨Uc.2 (K7 _),Int.dvd_neg.2 (K7 _)⟩
   ·exact ⟨K7 _,K7 _⟩
  obtain ⟨k,hk⟩:=V5 h3 h4.2;refine ⟨k,?_⟩;have:Ho p*(d*k)=Ho p*1:=by rw [Ub,<-Int.mul_assoc,K8 (Ho p) d,<-hk]
  exact (Int.eq_of_mul_eq_mul_left h0 this).symm
 ·have h2:Fq (De p (Ho p))=Fq p / Ho p:=by unfold Fq; rw [<-hl,WH]
  have h3:Ho p∣Fq p:=GQ _ (LK h);have h5:Fq p / Ho p*Ho p=Fq p:=Int.ediv_mul_cancel h3;rw [h2];have h6:=Er tp h;rcases Km (Fq p / Ho p) 0 with e1 | e1 | e1
  ·exfalso;by_cases hn:Fq p<0
   ·have:Ho p=-Pj p:=by unfold Ho; rw [if_pos hn]
    have:0<Fq p / Ho p*Ho p:=V9 e1 (by omega);omega
   ·have:Ho p=Pj p:=by unfold Ho; rw [if_neg hn]
    have:Fq p / Ho p*Ho p<0:=Int.mul_neg_of_neg_of_pos e1 (by omega);omega
  ·rw [e1] at h5; omega
  ·exact e1
theorem Qju {r:Um} (tr:Ff r):∃ c:Rat,0<c/\∀ t,U9 r t=c*U9 (KJ r) t:=by
 unfold KJ;by_cases h:r.length=0
 ·rw [if_pos h]; exact ⟨1,by decide,λt=>by rw [D4 h,D4 rfl]; grind⟩
 ·rw [if_neg h];have h1:0<Pj r:=by
   have:=JF tr h;unfold Pj at this ⊢; omega
  have h2:((0:Int):Rat)<(Pj r:Rat):=Jn.2 h1;exact ⟨Pj r,by simpa using h2,qL E9⟩
theorem JG (x:Int) (t:Rat):∀ i,U9 (mono i x) t=(x:Rat)*t^i
 | 0=>by simp only [mono,Wj,Yj,U9,Xg]; grind
 |
  i+1=>by
  have ih:=JG x t i;simp only [mono,J4,Xb,U9] at *;rw [ih,Z7]; push_cast; grind
theorem iW (x:Int) (b:Um) (i k:Nat):(Gk (trim (mono i x)) b).getD k 0=if i<=k then x*b.getD (k-i) 0 else 0:=by
 have e:∀ t,U9 (Gk (trim (mono i x)) b) t=U9 (List.replicate i 0++b.map (x * ·)) t:=λt=>by
  rw [Gj,Ou,JG];have h2:∀ i,U9 (List.replicate i 0++b.map (x * ·)) t=t^i*((x:Rat)*U9 b t):=λi=>by
   induction i with
   |
    zero =>
    simp only [Wj,Yj,Xg];have:=Cv x 0 t (max b.length (b.map (x * ·)).length) b [] (b.map (x * ·)) (by omega) (by simp) (by omega) λk=>by
     rw [Qi,Qi,Q8];cases b[k]? <;> simp
    rw [this]; simp only [U9]; push_cast; grind
   | succ i ih=>simp only [J4,Xb,U9,ih,Z7]; push_cast; grind
  rw [h2]; grind
 rw [Lq e k,Qi,List.getElem?_append,Jd];by_cases h:i<=k
 ·rw [if_neg (by omega),if_pos h,Q8,Qi];cases b[k-i]? <;> simp
 ·rw [if_pos (by omega),if_neg h,Jz,if_pos (by omega)]; rfl
theorem Qin {p:Um} {n:Nat} (tp:Ff p) (h:p.length<=n+1) (h0:p.getD n 0=0):p.length<=n:=by
 rcases Zb n p.length with e | e
 ·have:=H8 tp (by omega);rw [show p.length-1=n by omega] at this;exact absurd h0 this
 ·exact e
theorem Qqz {b r:Um} {i:Nat} (tr:Ff r) (h:r.length<=b.length+i) (hb:b.length≠0) {x:Int} (hx:x=if r.length=b.length+i then Fq r else 0):(str b (Fq b) i x r).length<b.length+i:=by
 have hl:=yQ (c:=Fq b) (x:=x) (i:=i) (b:=b) (r:=r);have:=Qin (p:=str b (Fq b) i x r) (n:=b.length+i-1) (Fy _ _) (by omega) (by
  unfold str;rw [O3,Mg,iW,if_pos (by omega),hx,show b.length+i-1-i=b.length-1 by omega]
  split
  ·rename_i he;unfold Fq;rw [he,Int.sub_eq_zero]
  ·rw [Qi (l:=r),Qw (by omega)]; simp)
 omega
theorem Qwj (b r:Um) (c:Int) (i:Nat) (x:Int) (t:Rat):(c:Rat)*U9 r t=(x:Rat)*t^i*U9 b t+U9 (str b c i x r) t:=by
 unfold str;rw [Nk,Ro,Gj,Ou,JG]; grind
theorem Qjy (b:Um) (c:Int):∀ (i:Nat) (q r:Um),∃ X:Up,∀ t,((c^i:Int):Rat)*U9 r t=ev X t*U9 b t+U9 (rC b c i (q,r)).2 t
 | 0,q,r=>⟨[],λt=>by simp only [rC,ev]; rw [Wy]; push_cast; grind⟩
 |
  i+1,q,r=>by
  obtain ⟨x,hx⟩:=nmE (if r.length=b.length+i then Fq r else 0);obtain ⟨X,hX⟩:=Qjy b c i (stq c i x q) (str b c i x r);obtain ⟨m,hm⟩:∃ m:Up,∀ t,ev m t=(x:Rat)*t^i:=⟨cz (mono i x),λt=>by rw [Fa,JG]⟩;refine ⟨Ss (D6 ((c^i:Int):Rat) m) X,λt=>?_⟩;rw [JP hx,Gz,Gt,hm];have h1:=hX t;have h2:=Qwj b r c i x t;rw [Wx]
  push_cast at h1 ⊢
  have:(c:Rat)^i*c*U9 r t=(c:Rat)^i*((c:Rat)*U9 r t):=by grind
  rw [this,h2]; grind
theorem oG {b:Um} (hb:b.length≠0):∀ (i:Nat) (q r:Um),Ff r->r.length<b.length+i->Ff (rC b (Fq b) i (q,r)).2/\(rC b (Fq b) i (q,r)).2.length<b.length
 | 0,q,r,tr,h=>⟨tr,h⟩
 |
  i+1,q,r,tr,h=>by
  rw [JP rfl];exact oG hb i _ _ (Fy _ _) (Qqz tr (by omega) hb rfl)
theorem Qjx {b:Um} {c:Int} {t:Nat} (hb:Bd t b) (hc:Fe c<=t):∀ (i u:Nat) (q r:Um),i<=64->Bd u r->Bd (u+i*(t+8)) (rC b c i (q,r)).2
 | 0,u,q,r,_,h=>by simpa [rC] using h
 |
  i+1,u,q,r,hi,h=>by
  rw [JP rfl];have hx:Fe (if r.length=b.length+i then Fq r else 0)<=u:=by
   split
   ·exact Nc h
   ·rw [Nf]; exact Qh _
  have:=Qjx hb hc i (u+t+8) (stq c i (if r.length=b.length+i then Fq r else 0) q) (str b c i (if r.length=b.length+i then Fq r else 0) r) (by omega) (pH h hb hc hx (by omega));exact U5 this (by rw [Xa]; omega)
theorem EF {c:Int} (h:c<0):∀ k:Nat,(k % 2=1->c^k<0)/\(k % 2=0->0<c^k)
 | 0=>⟨λh=>by omega,λ_=>by rw [Wy]; decide⟩
 |
  k+1=>by
  obtain ⟨i1,i2⟩:=EF h k;rw [Wx];exact ⟨λhk=>V8 (i2 (by omega)) h,λhk=>V9 (i1 (by omega)) h⟩
theorem NU {a b:Um} (ta:Ff a) (tb:Ff b) (hb:b.length≠0) (hl:a.length<=60):Ff (Ta a b)/\(Ta a b).length<b.length/\(∀ s,Bd s a->Bd s b->Bd (s+(a.length+1-b.length)*(s+8)) (Ta a b)) /\
 ∃ u v:Rat,0<u/\0<v/\∃ X:Up,∀ t,u*U9 a t=ev X t*U9 b t+v*U9 (Ta a b) t:=by
 obtain ⟨k,hk⟩:=nmE (a.length+1-b.length);have h1:Ff (Md a b)/\(Md a b).length<b.length:=oG hb _ _ _ ta (by omega);obtain ⟨X,hX⟩:=Qjy b (Fq b) k [] a;have hX:∀ t,(((Fq b)^k:Int):Rat)*U9 a t=ev X t*U9 b t+U9 (Md a b) t:=by unfold Md; rw [<-hk]; exact hX
 have h2:=GV (a:=a) (b:=b) (r:=Md a b) (n:=(Md a b).length) (s:=(Md a b).foldl (λm z=>m+Fe z) 0) h1.1 (Ql _) (λz hz=>by
  have key:∀ (l:Um) (m:Nat),m≤l.foldl (λm z=>m+Fe z) m/\∀ z∈l,Fe z≤l.foldl (λm z=>m+Fe z) m:=by
   intro l
   induction l with
   | nil=>exact λm=>⟨Ql _,λz hz=>by cases hz⟩
   |
    cons y l ih =>
    intro m;obtain ⟨i1,i2⟩:=ih (m+Fe y);refine ⟨by simp only [Z9]; omega,λz hz=>?_⟩;simp only [Z9];rcases Qm.1 hz with rfl | hz
    ·omega
    ·exact i2 z hz
  exact (key _ 0).2 z hz)
 have h3:=EV (r:=B6 a b (Md a b)) (n:=(Md a b).length) h2.2.1 h2.2.2;refine ⟨h3.1,by unfold Ta; omega,λs ha hbs=>?_,?_⟩
 ·have h4:=Qjx (c:=Fq b) hbs (Nc hbs) k s [] a (by omega) ha;have h5:=GV (a:=a) (b:=b) (n:=(Md a b).length) h1.1 (Nat.le_refl _) (show Bd (s+k*(s+8)) (Md a b) by unfold Md; rw [<-hk]; exact h4);rw [<-hk];exact (EV h5.2.1 h5.2.2).2.2
 ·obtain ⟨v,vp,hv⟩:=Qju h2.1;have hc:=Er tb hb;by_cases ht:k % 2=1/\Fq b<0
  ·have e1:B6 a b (Md a b)=Ms (Md a b):=by unfold B6; rw [<-hk,if_pos ht]
   have hneg:(Fq b)^k<0:=(EF ht.2 k).1 ht.1;have h5:(((Fq b)^k:Int):Rat)<((0:Int):Rat):=Jn.2 hneg;have h5:(((Fq b)^k:Int):Rat)<0:=by simpa using h5
   refine ⟨-(((Fq b)^k:Int):Rat),v,by grind,vp,D6 (-1) X,λt=>?_⟩;have h6:=hX t;have h7:=hv t;rw [e1,FO] at h7;show _=_+v*U9 (KJ (B6 a b (Md a b))) t;rw [e1,<-h7,Gt]; grind
  ·have e1:B6 a b (Md a b)=Md a b:=by unfold B6; rw [<-hk,if_neg ht]
   have hpos:0<(Fq b)^k:=by
    rcases Ke hc with h | h
    ·exact (EF h k).2 (by omega)
    ·exact Int.pow_pos h
   have h5:((0:Int):Rat)<(((Fq b)^k:Int):Rat):=Jn.2 hpos;refine ⟨(((Fq b)^k:Int):Rat),v,by simpa using h5,vp,X,λt=>?_⟩;have h7:=hv t;show _=_+v*U9 (KJ (B6 a b (Md a b))) t;rw [<-h7,e1,hX]
theorem Ag {p:Um} (h1:p.length<=64) (h2:Bd 16777216 p):IE p=some p:=by
 unfold IE;rw [if_pos ⟨h1,Jt.2 λz hz=>Nat.ble_eq_true_of_le (h2 z hz)⟩]
theorem OY {a b:Um} {g:Up} {c:Rat} (hc:c≠0) (h:∀ t,U9 a t=c*U9 b t):ZD g (cz a)↔ZD g (cz b):=by
 constructor
 ·rintro ⟨u,hu⟩
  refine ⟨D6 (1 / c) u,λt=>?_⟩;have h1:=hu t;rw [Fa,h] at h1;rw [Fa,Gt];have h2:1 / c*c=1:=Zj hc;have:U9 b t=1 / c*(c*U9 b t):=by grind
  rw [this,h1]; grind
 ·rintro ⟨u,hu⟩
  refine ⟨D6 c u,λt=>?_⟩;have h1:=hu t;rw [Fa] at h1;rw [Fa,Gt,h,h1]; grind
structure Gc (g a b:List Int):Prop where
 t:Ff g
 da:ZD (cz g) (cz a)
 db:ZD (cz g) (cz b)
 c:∃ U V,∀ t,U9 g t=ev U t*U9 a t+ev V t*U9 b t
 n:g.length≠0
theorem Gc.scale {g a b g' a' b':Um} {x y z:Rat} (h:Gc g a b) (hx:x≠0) (hy:y≠0) (hz:z≠0) (tg:Ff g') (eg:∀ t,U9 g t=x*U9 g' t) (ea:∀ t,U9 a' t=y*U9 a t) (eb:∀ t,U9 b' t=z*U9 b t):Gc g' a' b':=by
 have hx1:1 / x*x=1:=Zj hx;have hy1:1 / y*y=1:=Zj hy;have hz1:1 / z*z=1:=Zj hz;have hg:∀ c,ZD (cz g) c->ZD (cz g') c:=λc ⟨u,hu⟩=>⟨D6 x u,λt=>by rw [hu,Fa,Fa,eg,Gt]; grind⟩
 obtain ⟨U,V,hc⟩:=h.c;refine ⟨tg,hg _ ((OY hy ea).2 h.da),hg _ ((OY hz eb).2 h.db),⟨D6 (1 / x*(1 / y)) U,D6 (1 / x*(1 / z)) V,λt=>?_⟩,?_⟩
 ·have h1:=hc t;have h2:U9 g' t=1 / x*U9 g t:=by rw [eg]; grind
  rw [h2,h1,Gt,Gt,ea,eb];generalize ev U t=u at *;generalize ev V t=v at *;grind
 ·rw [<-QA h.t tg hx eg]; exact h.n
theorem Qvw:∀ d:Nat,1<=d->d+2<=3^d
 | 0,h=>by omega
 | 1,_=>by decide
 | d+2,_=>by have:=Qvw (d+1) (by omega); rw [Zr]; omega
theorem sR {k:Nat} {a b:Um} (ta:Ff a) (tb:Ff b) (hb:b.length≠0) (hl:a.length<=60) (hbl:b.length<=60) (hr:Bd 16777216 (Ta a b)) (ih:∃ g,TB k b (Ta a b)=some g/\Gc g b (Ta a b)):∃ g,TB (k+1) a b=some g/\Gc g a b:=by
 obtain ⟨h1,h2,h3,u,v,up,vp,X,hX⟩:=NU ta tb hb hl;obtain ⟨g,e,hg⟩:=ih;refine ⟨g,?_,?_⟩
 ·simp only [TB];rw [if_neg hb,Ag (by omega) hr]; exact e
 ·obtain ⟨U,V,hc⟩:=hg.c;obtain ⟨y,hy⟩:=hg.da;obtain ⟨z,hz⟩:=hg.db;have hu:1 / u*u=1:=Hf up;have hv:1 / v*v=1:=Hf vp;refine ⟨hg.t,⟨D6 (1 / u) (Ss (G7 X y) (D6 v z)),λt=>?_⟩,hg.da,⟨D6 (u / v) V,Ss U (D6 (-1 / v) (G7 V X)),λt=>?_⟩,hg.n⟩
  ·have a1:=hX t; have a2:=hy t; have a3:=hz t;rw [Fa,Fa] at a2 a3;rw [Fa,Fa,Gt,Gz,Fh,Gt];have:U9 a t=1 / u*(u*U9 a t):=by grind
   rw [this,a1,a2,a3]; grind
  ·have a1:=hX t; have a2:=hc t;rw [Gt,Gz,Gt,Fh,a2];have:U9 (Ta a b) t=1 / v*(v*U9 (Ta a b) t):=by grind
   rw [this,show v*U9 (Ta a b) t=u*U9 a t-ev X t*U9 b t by grind,J6,J6,J6];grind
theorem Qam {k:Nat} {a:Um} (ta:Ff a) (ha:a.length≠0):∃ g,TB (k+1) a []=some g/\Gc g a [] :=
 ⟨a,rfl,ta,dvd_refl _,⟨[],λt=>by simp only [cz,X7,ev]; grind⟩,⟨[1],[],λt=>by rw [Te]; simp only [ev]; grind⟩,ha⟩
theorem TC {s:Nat}:∀ (k:Nat) (a b:Um),Ff a->Ff b->b.length<k->b.length<a.length->a.length<=60->Bd s a->Bd s b->(s+8)*3^(a.length-1)<=16777216->∃ g,TB k a b=some g/\Gc g a b
 | 0,_,_,_,_,h,_,_,_,_,_=>by omega
 |
  k+1,a,b,ta,tb,hk,hab,hl,ba,bb,hs=>by
  by_cases hb:b.length=0
  ·rw [Qj hb]; exact Qam ta (by omega)
  ·obtain ⟨h1,h2,h3,_⟩:=NU ta tb hb hl;have h3:=h3 s ba bb;obtain ⟨m,hm⟩:=nmE (a.length-b.length);have e1:a.length+1-b.length=m+1:=by omega
   rw [e1] at h3;have e2:s+(m+1)*(s+8)+8=(m+2)*(s+8):=by
    rw [show m+2=(m+1)+1 by omega,Xa (m+1)]; omega
   have e3:(m+2)*(s+8)*3^(b.length-1)<=(s+8)*3^(a.length-1):=by
    rw [show a.length-1=m+(b.length-1) by omega,Xf,<-Xz,Zq (s+8)];exact Q0 _ (Q0 _ (Qvw m (by omega)))
   have e4:s+(m+1)*(s+8)<=16777216:=by
    have:(m+2)*(s+8)<=(m+2)*(s+8)*3^(b.length-1):=Ys _ (Z2 (by decide));omega
   refine sR ta tb hb hl (by omega) (U5 h3 e4) (TC (s:=s+(m+1)*(s+8)) k b (Ta a b) tb h1 (by omega) h2 (by omega) (U5 bb (by omega)) h3 ?_);rw [e2]; omega
def Szz (n s:Nat):Prop:=n<=10/\2*(s+8)*3^(n-1)<=16777216
theorem Qlj {n s:Nat} (hz:Szz n s) {a b:Um} (ta:Ff a) (tb:Ff b) (la:a.length<=n) (lb:b.length<=n) (ba:Bd s a) (bb:Bd s b) (h0:a.length≠0\/b.length≠0):∃ g,TB 66 a b=some g/\Gc g a b:=by
 obtain ⟨hn,hz⟩:=hz;have hp:∀ l,l<=n->(s+8)*3^(l-1)<=8388608:=λl hl=>by
  have:(s+8)*3^(l-1)<=(s+8)*3^(n-1):=Zu _ (Zs (by decide) (by omega));rw [Xz] at hz; omega
 rcases Zb b.length a.length with h | h
 ·exact TC 66 a b ta tb (by omega) h (by omega) ba bb (by have:=hp a.length la; omega)
 ·by_cases hb:b.length=0
  ·rw [Qj hb]; exact Qam ta (by omega)
  ·obtain ⟨h1,h2,h3,_⟩:=NU ta tb hb (by omega);have h3:=h3 s ba bb;have h4:(a.length+1-b.length)*(s+8)<=1*(s+8):=Q0 _ (by omega);have h5:=hp b.length lb;have h6:(s+8)*1<=(s+8)*3^(b.length-1):=Zu _ (Z2 (by decide));refine sR ta tb hb (by omega) (by omega) (U5 h3 (by omega)) (TC (s:=2*s+8) 65 b (Ta a b) tb h1 (by omega) h2 (by omega) (U5 bb (by omega)) (U5 h3 (by omega)) ?_);rw [show 2*s+8+8=2*(s+8) by omega,Xz]; omega
theorem zQ:Fi []=[]:=rfl
theorem GY {a:Um} (ta:Ff a):Ff (Fi a)/\(Fi a).length=a.length/\(∀ s,Bd s a->Bd s (Fi a))/\∃ c:Rat,c≠0/\∀ t,U9 a t=c*U9 (Fi a) t:=by
 by_cases h:a.length=0
 ·rw [Qj h];exact ⟨rfl,rfl,λs _=>ZO,1,by decide,λt=>by rw [zQ]; grind⟩
 ·obtain ⟨h1,h2,h3,h4,h5,h6,h7⟩:=Cx ta h;exact ⟨h1,h2,h5,_,XM h6,h7⟩
theorem WA {n s:Nat} (hz:Szz n s) {a b:Um} (ta:Ff a) (tb:Ff b) (la:a.length<=n) (lb:b.length<=n) (ba:Bd s a) (bb:Bd s b) (h0:a.length≠0\/b.length≠0):∃ g,JM a b=some g/\Gc g a b/\Prm g/\0<Fq g:=by
 obtain ⟨a1,a2,a3,x,xn,ax⟩:=GY ta;obtain ⟨b1,b2,b3,y,yn,bx⟩:=GY tb;obtain ⟨g,e,hg⟩:=Qlj hz a1 b1 (by omega) (by omega) (a3 s ba) (b3 s bb) (by omega);obtain ⟨g1,g2,g3,g4,g5,g6,g7⟩:=Cx hg.t hg.n;refine ⟨Fi g,?_,hg.scale (XM g6) xn yn g1 g7 ax bx,g3,g4⟩;unfold JM; rw [e]; rfl
theorem Qdn {a:Um} (ta:Ff a):JM [] a=some (Fi (Fi a)):=by
 unfold JM;rw [zQ];by_cases h:(Fi a).length=0
 ·have e:Fi a=[]:=Qj h;rw [e]; rfl
 ·have e:Ta [] (Fi a)=[]:=by
   have e1:Md [] (Fi a)=[]:=by unfold Md; rw [show ([]:Um).length+1-(Fi a).length=0 by simp; omega]; rfl
   unfold Ta;rw [e1];unfold B6
   split <;> rfl
  have:TB 66 [] (Fi a)=some (Fi a):=by
   show (if (Fi a).length=0 then _ else _)=_;rw [if_neg h,e]; rfl
  rw [this]; rfl
theorem Qh1 {n s:Nat} (hz:Szz n s) {a b:Um} (ta:Ff a) (tb:Ff b) (la:a.length<=n) (lb:b.length<=n) (ba:Bd s a) (bb:Bd s b) (h0:a.length≠0):∃ g,yA a b=some g/\Gc g a b/\Prm g/\0<Fq g:=by
 obtain ⟨a1,a2,a3,x,xn,ax⟩:=GY ta;obtain ⟨b1,b2,b3,y,yn,bx⟩:=GY a1;obtain ⟨g,e,hg,h1,h2⟩:=WA hz b1 tb (by omega) lb (b3 s (a3 s ba)) bb (by omega);refine ⟨g,?_,hg.scale (x:=1) (y:=x*y) (z:=1) (by decide) (λh=>(Y3.1 h).elim xn yn) (by decide) hg.t (λt=>by grind) (λt=>by rw [ax,bx]; grind) (λt=>by grind),h1,h2⟩;unfold yA;rw [Qdn ta]; exact e
theorem Qaj:∀ {p q:Up} {m n:Nat},HD p m->HD q n->(G7 p q).getD (m+n) 0=p.getD m 0*q.getD n 0
 | [],q,m,n,h,_=>absurd (by simp) h.1
 |
  a::p,q,0,n,h,h'=>by
  have h1:∀ k,p.getD k 0=0:=λk=>by have:=h.2 (k+1) (by omega); rwa [Q4] at this
  simp only [G7];rw [Rl,Sl,Zt,Zz];cases n with
  | zero=>rw [Zt]; grind
  | succ n=>rw [Q4,SS h1]; grind
 |
  a::p,q,m+1,n,h,h'=>by
  have ih:=Qaj (p:=p) (q:=q) (m:=m) ⟨by have:=h.1; rwa [Q4] at this,λk hk=>by have:=h.2 (k+1) (by omega); rwa [Q4] at this⟩ h';simp only [G7];rw [Rl,Sl,show m+1+n=(m+n)+1 by omega,Q4,h'.2 _ (by omega),ih,Q4]; grind
theorem fC {a b c:Um} (ta:Ff a) (tb:Ff b) (tc:Ff c) (h:∀ t,U9 c t=U9 a t*U9 b t) (la:0<a.length) (lb:0<b.length):Fq c=Fq a*Fq b:=by
 have h1:=SR ta la;have h2:=SR tb lb;have h3:=Qaj h1 h2;have hl:=Mr ta tb tc h la lb;rw [<-Dz (p:=cz c) (λt=>by rw [Fh,Fa,Fa,Fa,h]),Mp,Mp,Mp,show a.length-1+(b.length-1)=c.length-1 by omega] at h3;unfold Fq; exact_mod_cast h3
theorem Tf {a b c:Um} (tc:Ff c) (hc:c.length≠0) (h:∀ t,U9 c t=U9 a t*U9 b t):0<a.length/\0<b.length:=by
 constructor
 ·rcases Q3 a.length with e | e
  ·exact absurd (λt=>by rw [h,D4 e]; grind) (SV tc (by omega))
  ·exact e
 ·rcases Q3 b.length with e | e
  ·exact absurd (λt=>by rw [h,D4 e]; grind) (SV tc (by omega))
  ·exact e
theorem yE {b:Um} (tb:Ff b) (hb:b.length≠0):∀ (i:Nat) (a q h:Um),Ff a->Ff h->(∀ t,U9 a t=U9 b t*U9 h t)->a.length<b.length+i->i<=q.length->(∀ j,j<i->q.getD j 0=0)->∃ q',yL b i a q=some q'/\q'.length=q.length/\∀ t,U9 q' t=U9 q t+U9 h t
 |
  0,a,q,h,ta,th,e,hl,_,_=>by
  have ha:a.length=0:=by
   rcases Q3 a.length with e' | e'
   ·exact e'
   ·obtain ⟨p1,p2⟩:=Tf ta (by omega) e;have:=Mr tb th ta e p1 p2; omega
  refine ⟨q,by simp only [yL]; rw [if_pos ha],rfl,λt=>?_⟩;have:∀ t,U9 h t=0:=λt=>by
   have:=mH (p:=cz b) (q:=cz h) (r:=[]) (λh0=>SV tb (by omega) λt=>by rw [<-Fa]; exact h0 t) (λt=>by rw [Fa,Fa,<-e,D4 ha]; simp only [ev]; grind) t;rwa [Fa] at this
  rw [this]; grind
 |
  i+1,a,q,h,ta,th,e,hl,hq,h0=>by
  simp only [yL];by_cases hlt:a.length<b.length+i
  ·rw [if_pos hlt];exact yE tb hb i a q h ta th e hlt (by omega) λj hj=>h0 j (by omega)
  ·rw [if_neg hlt];obtain ⟨p1,p2⟩:=Tf ta (by omega) e;have hln:=Mr tb th ta e p1 p2;have hld:=fC tb th ta e p1 p2;have hlb:=Er tb hb;rw [hld,if_pos (Int.mul_emod_right _ _),Jc _ hlb];have hli:h.length=i+1:=by omega
   have e2:∀ t,U9 (M7 a (Gk (trim (mono i (Fq h))) b)) t=U9 b t*U9 (M7 h (mono i (Fq h))) t:=λt=>by
    rw [Nk,Nk,Gj,Ou,e]; grind
   have hl2:(M7 a (Gk (trim (mono i (Fq h))) b)).length<b.length+i:=by
    have hl:=aO (i:=i) (x:=Fq h) (b:=b) (a:=a);unfold sta at hl;have:=Qin (p:=M7 a (Gk (trim (mono i (Fq h))) b)) (n:=b.length+i-1) (Fy _ _) (by omega) (by
     rw [O3,iW,if_pos (by omega),show b.length+i-1-i=b.length-1 by omega,show b.length+i-1=a.length-1 by omega];have:Fq a=a.getD (a.length-1) 0:=rfl;rw [<-this,hld];unfold Fq;rw [K8,Int.sub_eq_zero])
    omega
   obtain ⟨q',h1,h2,h3⟩:=yE tb hb i _ (q.set i (Fq h)) (M7 h (mono i (Fq h))) (Fy _ _) (Fy _ _) e2 hl2 (by simp; omega) λj hj=>by
    rw [Qi,Yn,if_neg (by omega),<-Qi];exact h0 j (by omega)
   refine ⟨q',h1,by rw [h2,Xd],λt=>?_⟩;rw [h3,yD q i _ t (by omega),h0 i (by omega),Nk,JG]
   push_cast; grind
theorem Qj6 {a b h:Um} {s:Nat} (ta:Ff a) (tb:Ff b) (th:Ff h) (ha:a.length≠0) (la:a.length<=10) (ba:Bd s a) (hs:s+69<=16777216) (e:∀ t,U9 a t=U9 b t*U9 h t):JS a b=some h:=by
 obtain ⟨p1,p2⟩:=Tf ta ha e;have hln:=Mr tb th ta e p1 p2;obtain ⟨q,h1,h2,h3⟩:=yE tb (by omega) (a.length+1-b.length) a (List.replicate (a.length+1-b.length) 0) h ta th e (by omega) (by simp) λj _=>Cn _ _
 have h4:trim q=h:=oZ (Rq _) th λt=>by rw [Ou,h3,qE]; grind
 unfold JS;rw [if_neg (by omega),h1];show IE (trim q)=_;rw [h4];exact Ag (by omega) (U5 (XG ba la ta th tb ha λt=>by rw [e]; grind) (by omega))
structure Pr1 (p:List Int):Prop where
 t:Ff p
 m:Prm p
 l:0<Fq p
theorem Pr1.n {p:Um} (h:Pr1 p):p.length≠0:=λe=>by
 have:=h.l;rw [Qj e] at this;exact absurd this (by decide)
theorem Pr1.one {p:Um} (h:Pr1 p) (hl:p.length<2):p=[1]:=by
 have hn:=h.n;obtain ⟨c,rfl⟩:∃ c,p=[c]:=Kr.1 (by omega);have h1:=h.m c λk=>by cases k <;> simp
 have h2:0<c:=h.l;have:=Int.le_of_dvd (by decide) h1;rw [show c=1 by omega]
theorem Qpw {p g h:Um} (hp:Prm p) (e:∀ t,U9 p t=U9 g t*U9 h t):Prm h:=λd hd=>by
 refine hp d λk=>?_
 have:=Lq (p:=p) (q:=Gk g h) (λt=>by rw [e,Gj]) k;rw [this];have e2:∀ t,U9 (Gk g h) t=(d:Rat)*U9 (Gk g (h.map (· / d))) t:=λt=>by
  have h1:U9 h t=(d:Rat)*U9 (h.map (· / d)) t:=by
   have:=Cv d 0 t (max h.length (h.map (· / d)).length) (h.map (· / d)) [] h (by omega) (by simp) (by omega) λk=>by
    rw [FX,K9 (hd k)]; simp
   rw [this]; simp only [U9]; push_cast; grind
  rw [Gj,Gj,h1]; grind
 have:=Lq (p:=Gk g h) (q:=Fw (Gk g (h.map (· / d))) d) (λt=>by rw [e2,Ro]; grind) k;rw [this,Mg]; exact Y9 _ _
theorem Qpv {p g h:Um} (hp:Pr1 p) (hg:0<Fq g) (tg:Ff g) (th:Ff h) (e:∀ t,U9 p t=U9 g t*U9 h t):Pr1 h:=by
 obtain ⟨p1,p2⟩:=Tf hp.t hp.n e;have:=fC tg th hp.t e p1 p2;refine ⟨th,Qpw hp.m e,?_⟩;have hl:=hp.l;rw [this] at hl;rcases Km (Fq h) 0 with h1 | h1 | h1
 ·have:=V8 hg h1; omega
 ·rw [h1] at hl; omega
 ·exact h1
structure Sqp (p g q:List Int):Prop where
 pp:Pr1 p
 pg:Pr1 g
 pq:Pr1 q
 e:∀ t,U9 p t=U9 g t*U9 q t
 c:∃ U V,∀ t,U9 g t=ev U t*U9 p t+ev V t*dv (cz p) t
 d:∃ z,∀ t,dv (cz p) t=U9 g t*ev z t
theorem Sqp.num {p g q:Um} (h:Sqp p g q) {d:Up} (h1:ZD d (cz q)) (h2:ZD d (Bp (cz q))):∃ c:Rat,c≠0/\∀ t,ev d t=c:=by
 obtain ⟨U,V,hc⟩:=h.c;have hpow:=sqf (k:=1) (a:=cz p) (g:=cz g) (q:=cz q) (d:=d) (U:=U) (V:=V) (by decide) (λt=>by rw [Fa,Fa,Fa,h.e]) (λt=>by rw [Fa,Fa,hc]; grind) h1 h2;rcases LQ d with h3 | ⟨m,_,h3⟩
 ·obtain ⟨u,hu⟩:=h1;exact absurd (λt=>by rw [<-Fa,hu,h3]; grind) (SV h.pq.t (by have:=h.pq.n; omega))
 ·obtain rfl:=qO h3 (SR h.pg.t (by have:=h.pg.n; omega)) hpow;refine ⟨d.getD 0 0,h3.1,λt=>?_⟩;cases d with
  | nil=>exact absurd (by simp) h3.1
  |
   cons c l =>
   have:=Lc (p:=l) λk=>by have:=h3.2 (k+1) (by omega); rwa [Q4] at this
   simp only [ev,this,Zt]; grind
theorem Sqp.bez {p g q:Um} (h:Sqp p g q):∃ X Y,∀ t,ev X t*ev (cz q) t+ev Y t*dv (cz q) t=1:=by
 obtain ⟨d,U,V,h1,h2,h3⟩:=Qh0 (cz q) (Bp (cz q));obtain ⟨c,hc,hd⟩:=h.num h1 h2;refine ⟨D6 (1 / c) U,D6 (1 / c) V,λt=>?_⟩;have h5:=h3 t;rw [hd,Tr] at h5;have h4:1 / c*c=1:=Zj hc;rw [Gt,Gt];have:1 / c*ev U t*ev (cz q) t+1 / c*ev V t*dv (cz q) t=1 / c*(ev U t*ev (cz q) t+ev V t*dv (cz q) t):=by grind
 rw [this,<-h5,h4]
theorem Qlc {n s:Nat} (h:Szz n s):s<=8388600:=by
 have:2*(s+8)*1<=2*(s+8)*3^(n-1):=Zu _ (Z2 (by decide));have:=h.2; omega
theorem pG {s:Nat} {p:Um} (h:Bd s p) (hl:p.length<=10):Bd (s+4) (Gx p):=xR h (t:=4) (by omega)
theorem Qaf {n s:Nat} (hz:Szz n (s+73)) {p:Um} (pp:Pr1 p) (l2:2<=p.length) (lp:p.length<=n) (bp:Bd (s+69) p) {p0 h0:Um} (b0:Bd s p0) (l0:p0.length<=10) (t0:Ff p0) (th0:Ff h0) (z0:p0.length≠0) (e0:∀ t,U9 p0 t=U9 h0 t*U9 p t) :
 ∃ g q,IE (Gx p)=some (Gx p)/\JM p (Gx p)=some g/\JS p g=some q/\Sqp p g q/\g.length<p.length:=by
 have hn:=hz.1;have hs:=Qlc hz;have bd:=pG bp (by omega);have ld:=Ng p;have td:Ff (Gx p):=Fy _ _;obtain ⟨g,e1,hg,m,l⟩:=WA hz pp.t td lp (by omega) (U5 bp (by omega)) bd (.inl pp.n);obtain ⟨q,tq,eq⟩:=Qhu m hg.da;have hdnz:(Gx p).length≠0:=λh=>by
  have h1:=B5 p (p.length-2);rw [Qj h,show p.length-2+1=p.length-1 by omega] at h1;have h2:p.getD (p.length-1) 0≠0:=H8 pp.t (by omega);rcases Yf.1 (h1.symm.trans (by simp)) with h3 | h3
  ·exact h2 h3
  ·omega
 have pg:Pr1 g:=⟨hg.t,m,l⟩;have hql:=Qj6 (s:=s+69) pp.t hg.t tq pp.n (by omega) bp (by omega) eq;refine ⟨g,q,Ag (by omega) (U5 bd (by omega)),e1,hql,⟨pp,pg,Qpv pp l hg.t tq eq,eq,?_,?_⟩,?_⟩
 ·obtain ⟨U,V,hc⟩:=hg.c;exact ⟨U,V,λt=>by rw [hc,Ot]⟩
 ·obtain ⟨z,hz⟩:=hg.db;exact ⟨z,λt=>by rw [<-Ot,<-Fa,hz,Fa]⟩
 ·obtain ⟨z,tz,ez⟩:=Qhu m hg.db;obtain ⟨q1,q2⟩:=Tf td hdnz ez;have:=Mr hg.t tz td ez q1 q2;omega
theorem Qpl:Sqp [1] [1] [1]:=by
 have p1:Pr1 [1]:=⟨rfl,λd hd=>by have:=hd 0; rwa [Zt] at this,by decide⟩;have e1:∀ t,U9 [1] t=1:=λt=>by simp only [U9]; push_cast; grind
 exact ⟨p1,p1,p1,λt=>by rw [e1]; grind,⟨[1],[],λt=>by rw [e1,Te]; simp only [ev]; grind⟩,⟨[],λt=>by simp only [cz,Z0,X7,dv,ev]; grind⟩⟩
structure Okp (n s:Nat) (p:List Int):Prop where
 z:Szz n (s+73)
 t:Ff p
 nz:p.length≠0
 l:p.length<=n
 b:Bd s p
theorem Okp.pr {n s:Nat} {p:Um} (h:Okp n s p):Pr1 (Fi p)/\(Fi p).length=p.length/\Bd s (Fi p):=by
 obtain ⟨h1,h2,h3,h4,h5,_⟩:=Cx h.t h.nz;exact ⟨⟨h1,h3,h4⟩,h2,h5 s h.b⟩
theorem VW {n s:Nat} {p:Um} (h:Okp n s p):∃ g q,Pp p=some q/\Sqp (Fi p) g q:=by
 obtain ⟨pp,hl,hb⟩:=h.pr;have hn:=h.z.1;have:=h.l;unfold Pp;by_cases h2:(Fi p).length<2
 ·rw [if_pos h2,pp.one h2]; exact ⟨[1],[1],rfl,Qpl⟩
 ·rw [if_neg h2];obtain ⟨g,q,h3,h4,h5,h6,_⟩:=Qaf h.z pp (by omega) (by omega) (U5 hb (by omega)) (p0:=Fi p) (h0:=[1]) hb (by omega) pp.t rfl pp.n λt=>by simp only [U9]; push_cast; grind
  exact ⟨g,q,by rw [h3]; show (JM (Fi p) (Gx (Fi p))).bind _=_; rw [h4]; exact h5,h6⟩
inductive LW:List Int->List (List Int)->Prop
 | nil:LW [1] []
 | cons {g h w:List Int} {ws:List (List Int)} (hs:Sqp g h w) (hl:LW h ws):LW g (w::ws)
theorem Qvi {g:Um} {ws:Un} (h:LW g ws):∀ t,U9 g t=ev (Oo (ws.map cz)) t:=by
 induction h with
 | nil=>intro t; simp only [X7,Oo,U9]; rw [Te]; push_cast; grind
 | cons hs hl ih=>intro t; simp only [Z0,Oo]; rw [Fh,Fa,hs.e,ih]; grind
theorem iK {g:Um} {w v:Um} {ws:Un} (h:LW g (w::v::ws)):∃ f,Ff f/\∀ t,U9 w t=U9 f t*U9 v t:=by
 cases h with
 |
  @cons _ h _ _ hs hl =>
  cases hl with
  |
   @cons _ h2 _ _ hs2 hl2 =>
   obtain ⟨X,Y,hb⟩:=hs2.bez;obtain ⟨z,hz⟩:=hs.d;have hd:=Qqw (a:=cz g) (g:=cz h) (q:=cz w) (z:=z) (r:=cz v) (X:=X) (Y:=Y) (n:=h.length-1) (λt=>by rw [Fa,Fa,Fa,hs.e]) (λt=>by rw [hz,Fa]) (SR hs.pg.t (by have:=hs.pg.n; omega)) hb
    ⟨G7 (cz h2) (cz w),λt=>by rw [Fh,Fa,Fa,Fa,Fa,hs.e,hs2.e]; grind⟩
   obtain ⟨f,tf,ef⟩:=Qhu hs2.pq.m hd;exact ⟨f,tf,λt=>by rw [ef]; grind⟩
theorem gQ {g w:Um} {ws:Un} (h:LW g (w::ws)):∀ v∈w::ws,Pr1 v/\ZD (cz v) (cz w):=by
 have key:∀ (ws:Un) (g w:Um),LW g (w::ws)->∀ v∈w::ws,Pr1 v/\ZD (cz v) (cz w):=by
  intro ws
  induction ws with
  |
   nil =>
   intro g w h v hv;rw [Qk.1 hv];cases h with
   | cons hs hl=>exact ⟨hs.pq,dvd_refl _⟩
  |
   cons u ws ih =>
   intro g w h v hv;have hn:=iK h;cases h with
   |
    @cons _ h _ _ hs hl =>
    rcases Qm.1 hv with rfl | hv
    ·exact ⟨hs.pq,dvd_refl _⟩
    ·obtain ⟨i1,i2⟩:=ih h u hl v hv;obtain ⟨f,_,hf⟩:=hn;exact ⟨i1,dvd_trans i2 ⟨cz f,λt=>by rw [Fa,Fa,Fa,hf]; grind⟩⟩
 exact key ws g w h
theorem lay_ok {n s:Nat} (hz:Szz n (s+73)) {p0:Um} (b0:Bd s p0) (l0:p0.length<=10) (t0:Ff p0) (z0:p0.length≠0):∀ (k:Nat) (g h0:Um),Pr1 g->g.length<=k->g.length<=n->Ff h0->(∀ t,U9 p0 t=U9 h0 t*U9 g t)->∃ ws,RN k g=some ws/\LW g ws
 | 0,g,_,pg,hk,_,_,_=>absurd pg.n (by omega)
 |
  k+1,g,h0,pg,hk,hn,th0,e0=>by
  simp only [RN];by_cases h2:g.length<2
  ·rw [if_pos h2,pg.one h2]; exact ⟨[],rfl,.nil⟩
  ·rw [if_neg h2];have bg:Bd (s+69) g:=XG b0 l0 t0 pg.t th0 z0 λt=>by rw [e0]; grind
   obtain ⟨h,w,h3,h4,h5,h6,h7⟩:=Qaf hz pg (by omega) hn bg b0 l0 t0 th0 z0 e0;obtain ⟨ws,i1,i2⟩:=lay_ok hz b0 l0 t0 z0 k h (Gk h0 w) h6.pg (by omega) (by omega) (Hz _ _) λt=>by rw [e0,Gj,h6.e]; grind
   refine ⟨w::ws,?_,.cons h6 i2⟩;rw [h3];show (JM g (Gx g)).bind _=_;rw [h4];show (JS g h).bind _=_;rw [h5];show (RN k h).bind _=_;rw [i1]; rfl
theorem Qhn {s:Nat} {p0:Um} (b0:Bd s p0) (l0:p0.length≤10) (t0:Ff p0) (z0:p0.length≠0) (hs:s+69+69≤16777216):∀ (ws:Un) (g h0:Um),LW g ws->Ff h0->(∀ t,U9 p0 t=U9 h0 t*U9 g t)->∃ fs,AA ws=some fs/\Lay (ws.map cz) (fs.map cz)/\∀ f∈fs,Ff f
 | [],g,_,_,_,_=>⟨[],rfl,trivial,λf hf=>by cases hf⟩
 |
  [w],g,_,hl,_,_=>by
  cases hl with
  | cons hs hl=>exact ⟨[w],rfl,λt=>rfl,λf hf=>by rw [Qk.1 hf]; exact hs.pq.t⟩
 |
  w::v::ws,g,h0,hl,th0,e0=>by
  obtain ⟨f,tf,ef⟩:=iK hl;cases hl with
  |
   @cons _ h _ _ hs1 hl =>
   have hpv:=(gQ hl v (Qy ..)).1;obtain ⟨fs,i1,i2,i3⟩:=Qhn b0 l0 t0 z0 hs (v::ws) h (Gk h0 w) hl (Hz _ _) λt=>by rw [e0,Gj,hs1.e]; grind
   have ew:∀ t,U9 p0 t=U9 w t*U9 (Gk h0 h) t:=λt=>by rw [e0,Gj,hs1.e]; grind
   have bw:Bd (s+69) w:=XG b0 l0 t0 hs1.pq.t (Hz _ _) z0 ew;obtain ⟨p1,p2⟩:=Tf t0 z0 ew;have lw:=Mr hs1.pq.t (Hz _ _) t0 ew p1 p2;have hq:=Qj6 (s:=s+69) hs1.pq.t hpv.t tf hs1.pq.n (by omega) bw hs λt=>by rw [ef]; grind
   refine ⟨f::fs,?_,⟨λt=>by rw [Fa,Fa,Fa,ef],i2⟩,λx hx=>?_⟩
   ·show (JS w v).bind _=_;rw [hq];show (AA (v::ws)).bind _=_;rw [i1]; rfl
   ·rcases Qm.1 hx with rfl | hx
    ·exact tf
    ·exact i3 x hx
def Nj:Un->Um
 | []=>[1]
 | [f]=>f
 | f::_::l=>Gk f (Nj l)
theorem gA:∀ (fs:Un) (t:Rat),ev (PD (fs.map cz)) t=U9 (Nj fs) t
 | [],t=>by simp only [X7,PD,Nj,U9]; rw [Te]; push_cast; grind
 | [f],t=>by simp only [Z0,X7,PD,Nj]; rw [Fa]
 | f::g::l,t=>by simp only [Z0,PD,Nj]; rw [Fh,Fa,Gj,gA l]
theorem Nz (t:Rat):U9 [1] t=1:=by simp only [U9]; push_cast; grind
theorem OT:∀ {w:Um} {ws fs:Un},Lay ((w::ws).map cz) (fs.map cz)->(∀ f∈fs,Ff f)->(∀ v∈w::ws,Ff v)->∃ E,Ff E/\∀ t,U9 w t=U9 (Nj fs) t*U9 E t
 |
  w,[],[f],h,_,_=>⟨[1],rfl,λt=>by
  have:=h t;rw [Fa,Fa] at this;rw [this,Nz]; simp only [Nj]; grind⟩
 |
  w,[v],[f,f2],h,_,hw=>⟨v,hw v (by simp),λt=>by
  have:=h.1 t;rw [Fa,Fa,Fa] at this;rw [this]; simp only [Nj]; rw [Gj,Nz]; grind⟩
 |
  w,v::x::l,f::f2::fs,h,hf,hw=>by
  obtain ⟨E,hE,e⟩:=OT (w:=x) (ws:=l) (fs:=fs) h.2.2 (λg hg=>hf g (by simp [hg])) (λg hg=>hw g (by simp at hg ⊢; exact .inr (.inr hg)));refine ⟨Gk f2 E,Hz _ _,λt=>?_⟩;have a1:=h.1 t;have a2:=h.2.1 t;rw [Fa,Fa,Fa] at a1 a2;have e2:U9 (Nj (f::f2::fs)) t=U9 f t*U9 (Nj fs) t:=by simp only [Nj]; rw [Gj]
  rw [a1,a2,e,e2,Gj]; grind
 | w,[],[],h,_,_=>h.elim
 | w,[],_::_::_,h,_,_=>h.elim
 | w,[v],[],h,_,_=>h.elim
 | w,[v],[f],h,_,_=>h.2.elim
 | w,[v],_::_::_::_,h,_,_=>h.2.elim
 | w,v::x::l,[f],h,_,_=>h.2.elim
 | w,v::x::l,[],h,_,_=>h.elim
theorem YO {s:Nat} {p0:Um} (b0:Bd s p0) (l0:p0.length≤10) (t0:Ff p0) (z0:p0.length≠0) (hs:s+69≤16777216):∀ (fs:Un) (i:Nat) (a E:Um),i % 2=0->Ff a->Ff E->(∀ f∈fs,Ff f)->(∀ t,U9 p0 t=U9 a t*U9 (Nj fs) t*U9 E t)->∃ o,FD i a fs=some o/\Ff o/\∀ t,U9 o t=U9 a t*U9 (Nj fs) t
 | [],i,a,E,hi,ta,_,_,_=>⟨a,rfl,ta,λt=>by simp only [Nj]; rw [Nz]; grind⟩
 |
  [f],i,a,E,hi,ta,tE,tf,hE=>by
  have e1:∀ t,U9 p0 t=U9 (Gk a f) t*U9 E t:=λt=>by rw [hE,Gj]; rfl
  have b1:=XG b0 l0 t0 (Hz a f) tE z0 e1;obtain ⟨p1,p2⟩:=Tf t0 z0 e1;have hl:=Mr (Hz a f) tE t0 e1 p1 p2;refine ⟨Gk a f,?_,Hz _ _,λt=>by rw [Gj]; rfl⟩;simp only [FD];rw [if_pos hi,Ag (by omega) (U5 b1 (by omega))]; rfl
 |
  f::g::fs,i,a,E,hi,ta,tE,tf,hE=>by
  have e0:∀ t,U9 (Nj (f::g::fs)) t=U9 f t*U9 (Nj fs) t:=λt=>by simp only [Nj]; rw [Gj]
  have e1:∀ t,U9 p0 t=U9 (Gk a f) t*U9 (Gk (Nj fs) E) t:=λt=>by rw [hE,e0,Gj,Gj]; grind
  have b1:=XG b0 l0 t0 (Hz a f) (Hz _ _) z0 e1;obtain ⟨p1,p2⟩:=Tf t0 z0 e1;have hl:=Mr (Hz a f) (Hz _ _) t0 e1 p1 p2;obtain ⟨o,o1,o2,o3⟩:=YO b0 l0 t0 z0 hs fs (i+2) (Gk a f) E (by omega) (Hz _ _) tE (λx hx=>tf x (by simp [hx])) λt=>by rw [hE,e0,Gj]; grind
  refine ⟨o,?_,o2,λt=>by rw [o3,e0,Gj]; grind⟩;have h1:FD (i+1) (Gk a f) (g::fs)=FD (i+2) (Gk a f) fs:=by
   show (if (i+1) % 2=0 then _ else _)=_;rw [if_neg (by omega)]
  show (if i % 2=0 then (IE (Gk a f)).bind λq=>FD (i+1) q (g::fs) else _)=_;rw [if_pos hi,Ag (by omega) (U5 b1 (by omega))];exact h1.trans o1
structure Parts (p q o:List Int):Prop where
 sq:∃ g,Sqp (Fi p) g q
 ws:∃ ws:List (List Int),(∀ w∈ws,Pr1 w/\ZD (cz w) (cz q))/\∀ t,U9 (Fi p) t=ev (Oo (ws.map cz)) t
 oq:ZD (cz o) (cz q)
 ot:Ff o
 oh:∃ h,Ff h/\∀ t,U9 (Fi p) t=U9 o t*U9 h t
 os:∃ S,∀ t,U9 (Fi p) t=U9 o t*(ev S t*ev S t)
theorem Qjf {n s:Nat} {p:Um} (h:Okp n s p):∃ q o,Pp p=some q/\bN p=some o/\Parts p q o:=by
 obtain ⟨pp,hl,hb⟩:=h.pr;have hn:=h.z.1;have hpl:=h.l;have hs:=Qlc h.z;obtain ⟨g,q,hq,sq⟩:=VW h;obtain ⟨ws,w1,w2⟩:=lay_ok h.z hb (by omega) pp.t pp.n 66 (Fi p) [1] pp (by omega) (by omega) rfl λt=>by rw [Nz]; grind
 obtain ⟨fs,f1,f2,f3⟩:=Qhn hb (by omega) pp.t pp.n (by omega) ws (Fi p) [1] w2 rfl λt=>by rw [Nz]; grind
 have hw:=Qvi w2;have hfirst:(∀ w∈ws,Pr1 w/\ZD (cz w) (cz q))/\∃ E,Ff E/\∀ t,U9 q t=U9 (Nj fs) t*U9 E t:=by
  cases ws with
  |
   nil =>
   have e:fs=[]:=by
    cases fs with
    | nil=>rfl
    | cons f l=>exact f2.elim
   subst e;exact ⟨(λw hw=>by cases hw),q,sq.pq.t,λt=>by simp only [Nj]; rw [Nz]; grind⟩
  |
   cons w ws =>
   have hwq:w=q:=by
    have w3:(if (Fi p).length<2 then some [] else (IE (Gx (Fi p))).bind λd=>(JM (Fi p) d).bind λh=>(JS (Fi p) h).bind λw=>(RN 65 h).bind λl=>some (w::l))=some (w::ws):=w1;have hlen:¬(Fi p).length<2:=λh2=>by
     rw [if_pos h2] at w3;injection w3 with w3;cases w3
    rw [if_neg hlen] at w3;unfold Pp at hq;rw [if_neg hlen] at hq;obtain ⟨d,d1,w3⟩:=Qd.1 w3;obtain ⟨h,d2,w3⟩:=Qd.1 w3;obtain ⟨w',d3,w3⟩:=Qd.1 w3;obtain ⟨l,d4,w3⟩:=Qd.1 w3;rw [d1] at hq;have hq:(JM (Fi p) d).bind (λg=>JS (Fi p) g)=some q:=hq;rw [d2] at hq;have hq:JS (Fi p) h=some q:=hq;rw [d3] at hq;injection hq with hq;injection w3 with w3;injection w3 with w3 _;rw [<-w3,hq]
   subst hwq;have hall:=gQ w2;exact ⟨hall,OT f2 f3 λv hv=>(hall v hv).1.t⟩
 obtain ⟨ha,E,tE,hE⟩:=hfirst;obtain ⟨o,o1,o2,o3⟩:=YO hb (by omega) pp.t pp.n (by omega) fs 0 [1] (Gk E g) rfl rfl (Hz _ _) f3 λt=>by rw [Nz,Gj,sq.e,hE]; grind
 have o3:∀ t,U9 o t=U9 (Nj fs) t:=λt=>by rw [o3,Nz]; grind
 refine ⟨q,o,hq,?_,⟨g,sq⟩,⟨ws,ha,hw⟩,⟨cz E,λt=>by rw [Fa,Fa,Fa,hE,o3]⟩,o2,⟨Gk E g,Hz _ _,λt=>by rw [sq.e,hE,o3,Gj]; grind⟩,?_⟩
 ·unfold bN;rw [if_neg pp.n,w1];show (AA ws).bind _=_;rw [f1]; exact o1
 ·obtain ⟨S,hS⟩:=aE f2;exact ⟨S,λt=>by rw [hw,hS,gA,o3]⟩
theorem eJ {s:Nat}:∀ (k:Nat) (a b:Um),Ff a->Ff b->b.length≠0->b.length<k->b.length<a.length->a.length<=60->Bd s a->Bd s b->(s+8)*3^(a.length-1)<=16777216->(∀ d,ZD d (cz a)->ZD d (cz b)->∃ c:Rat,c≠0/\∀ t,ev d t=c)->∃ l,sE k a b=some (b::l)/\SCl (cz a) (cz b) (l.map cz)
 | 0,_,_,_,_,_,h,_,_,_,_,_,_=>by omega
 |
  k+1,a,b,ta,tb,hb,hk,hab,hl,ba,bb,hs,hd=>by
  obtain ⟨h1,h2,h3,u,v,up,vp,X,hX⟩:=NU ta tb hb hl;have h3:=h3 s ba bb;obtain ⟨m,hm⟩:=nmE (a.length-b.length);have e1:a.length+1-b.length=m+1:=by omega
  rw [e1] at h3;have e2:s+(m+1)*(s+8)+8=(m+2)*(s+8):=by
   rw [show m+2=(m+1)+1 by omega,Xa (m+1)]; omega
  have e3:(m+2)*(s+8)*3^(b.length-1)<=(s+8)*3^(a.length-1):=by
   rw [show a.length-1=m+(b.length-1) by omega,Xf,<-Xz,Zq (s+8)];exact Q0 _ (Q0 _ (Qvw m (by omega)))
  have e4:s+(m+1)*(s+8)<=16777216:=by
   have:(m+2)*(s+8)<=(m+2)*(s+8)*3^(b.length-1):=Ys _ (Z2 (by decide));omega
  simp only [sE];rw [if_neg hb,Ag (by omega) (U5 h3 e4)];show ∃ l,((sE k b (Ms (Ta a b))).bind λl=>some (b::l))=some (b::l)/\_;have lneg:(Ms (Ta a b)).length<=(Ta a b).length:=XA _;by_cases hr:(Ta a b).length=0
  ·have e:Ms (Ta a b)=[]:=Qj (by omega);rw [e];refine ⟨[],?_,?_⟩
   ·obtain ⟨j,rfl⟩:∃ j,k=j+1:=⟨k-1,by omega⟩;rfl
   ·obtain ⟨c,hc,hcc⟩:=hd (cz b) ⟨D6 (1 / u) X,λt=>by
     have:=hX t;rw [D4 hr] at this;have hu:1 / u*u=1:=Hf up;rw [Fa,Fa,Gt];have:U9 a t=1 / u*(u*U9 a t):=by grind
     rw [this,hX,D4 hr]; grind⟩ (dvd_refl _)
    exact .base hc hcc
  ·have tn:Ff (Ms (Ta a b)):=Fy _ _;have hn0:(Ms (Ta a b)).length≠0:=λh0=>by
    have:=QA (c:=-1) h1 tn (by decide) λt=>by rw [FO]; grind
    omega
   obtain ⟨l,i1,i2⟩:=eJ (s:=s+(m+1)*(s+8)) k b (Ms (Ta a b)) tb tn hn0 (by omega) (by omega) (by omega) (U5 bb (by omega)) (MJ h3) (by rw [e2]; omega) λd d1 d2=>by
    refine hd d ?_ d1;obtain ⟨y,hy⟩:=d1;obtain ⟨z,hz⟩:=d2;have hu:1 / u*u=1:=Hf up;refine ⟨D6 (1 / u) (Ss (G7 X y) (D6 (-v) z)),λt=>?_⟩;have a1:=hX t; have a2:=hy t; have a3:=hz t;rw [Fa] at a2 a3;rw [FO] at a3;rw [Fa,Gt,Gz,Fh,Gt];have:U9 a t=1 / u*(u*U9 a t):=by grind
    rw [this,a1,a2,show U9 (Ta a b) t=-(ev d t*ev z t) by grind]; grind
   refine ⟨Ms (Ta a b)::l,by rw [i1]; rfl,?_⟩;rw [Z0];exact .step (q:=X) up vp (λt=>by rw [Fa,Fa,Fa,hX,FO]; clear i2 i1 hd h3 hs; grind) i2
theorem WE (x:Rat):∀ (l:Un) (n:Nat) (s:Int),(l.foldl (Pw λp=>Ra p x) (n,s)).1=n+tc x s (l.map cz)
 | [],n,s=>rfl
 |
  p::l,n,s=>by
  simp only [Z9,Z0,tc,Pw];rw [Nm,Fa]
  split
  ·exact WE x l n s
  ·rw [WE x l]
   split <;> omega
theorem ZK (l:Un) (x:Rat):C9 l x=vv (l.map cz) x:=by
 have:=WE x l 0 0;unfold C9 C7 vv;rw [this]; omega
theorem Qgq {n s:Nat} (hz:Szz n (s+73)) {P g q:Um} (sq:Sqp P g q) (lq:q.length<=n) (bq:Bd (s+69) q):∃ d,IE (Gx q)=some d/\∃ l,sE 66 q (Fi d)=some l/\HV (cz q) ((q::l).map cz)/\(q.length<2->l=[]):=by
 have hn:=hz.1;have hs:=Qlc hz;have bd:=pG bq (by omega);have ld:=Ng q;refine ⟨Gx q,Ag (by omega) (U5 bd (by omega)),?_⟩;have hq0:=sq.pq.n;by_cases h2:q.length<2
 ·have e:Fi (Gx q)=[]:=by rw [Qj (l:=Gx q) (by omega)]; rfl
  rw [e];refine ⟨[],rfl,.inl ⟨1,by decide,λt=>?_,rfl⟩,λ_=>rfl⟩;rw [Fa,sq.pq.one h2,Nz]
 ·have hdnz:(Gx q).length≠0:=λh=>by
   have h1:=B5 q (q.length-2);rw [Qj h,show q.length-2+1=q.length-1 by omega] at h1;have h3:q.getD (q.length-1) 0≠0:=H8 sq.pq.t (by omega);rcases Yf.1 (h1.symm.trans (by simp)) with h4 | h4
   ·exact h3 h4
   ·omega
  obtain ⟨p1,p2,p3,p4,p5,p6,p7⟩:=Cx (p:=Gx q) (Fy _ _) hdnz;have hdl:Fq (Gx q)=Fq q*((q.length-1:Nat):Int):=by
   have hld:(Gx q).length=q.length-1:=by
    rcases Zb (Gx q).length (q.length-1) with h | h
    ·have h1:=B5 q (q.length-2);rw [Qi,Qw (by omega),show q.length-2+1=q.length-1 by omega] at h1;have h3:q.getD (q.length-1) 0≠0:=H8 sq.pq.t (by omega);rcases Yf.1 (h1.symm.trans (by simp)) with h4 | h4
     ·exact absurd h4 h3
     ·omega
    ·omega
   unfold Fq;rw [hld,B5,show q.length-1-1+1=q.length-1 by omega]
  have hfac:0<Ho (Gx q):=by
   have hlp:0<Fq (Gx q):=by rw [hdl]; exact Int.mul_pos sq.pq.l (by omega)
   have hc:=JF (p:=Gx q) (Fy _ _) hdnz;unfold Ho;rw [if_neg (by omega)];unfold Pj at hc ⊢; omega
  have hfq:((0:Int):Rat)<(Ho (Gx q):Rat):=Jn.2 hfac;have hfq:(0:Rat)<(Ho (Gx q):Rat):=by simpa using hfq
  have hff:1 / (Ho (Gx q):Rat)*(Ho (Gx q):Rat)=1:=Hf hfq;have hz2:=hz.2;have hp3:(s+73+8)*3^(q.length-1)<=16777216:=by
   have:(s+73+8)*3^(q.length-1)<=(s+73+8)*3^(n-1):=Zu _ (Zs (by decide) (by omega));rw [Xz] at hz2; omega
  obtain ⟨l,h3,h4⟩:=eJ (s:=s+73) 66 q (Fi (Gx q)) sq.pq.t p1 (by omega) (by omega) (by omega) (by omega) (U5 bq (by omega)) (p5 _ bd) hp3 λd d1 d2=>sq.num d1 (by
   obtain ⟨z,hz⟩:=d2;exact ⟨D6 (Ho (Gx q)) z,λt=>by
    have:=hz t;rw [Fa] at this;rw [Tr,<-Ot,p7,this,Gt]; grind⟩)
  refine ⟨Fi (Gx q)::l,h3,.inr ⟨cz (Fi (Gx q)),l.map cz,1 / (Ho (Gx q):Rat),Ai (by decide) hfq,λt=>?_,h4,rfl⟩,λh=>absurd h h2⟩;rw [Fa,<-Ot,p7 t]; grind
theorem chain_ok {n s:Nat} {p:Um} (h:Okp n s p):∃ q l,Pp p=some q/\Ee p=some (q::l)/\HV (cz q) ((q::l).map cz)/\(q.length<2->l=[]):=by
 obtain ⟨pp,hl,hb⟩:=h.pr;have hn:=h.z.1;have hpl:=h.l;obtain ⟨g,q,hq,sq⟩:=VW h;have e1:∀ t,U9 (Fi p) t=U9 q t*U9 g t:=λt=>by rw [sq.e]; grind
 obtain ⟨p1,p2⟩:=Tf pp.t pp.n e1;have hll:=Mr sq.pq.t sq.pg.t pp.t e1 p1 p2;obtain ⟨d,d1,l,d2,d3⟩:=Qgq h.z sq (by omega) (XG hb (by omega) pp.t sq.pq.t sq.pg.t pp.n e1);refine ⟨q,l,hq,?_,d3⟩;unfold Ee;rw [hq];show (if q.length=0 then none else _)=_;rw [if_neg sq.pq.n,d1];show (sE 66 q (Fi d)).bind _=_;rw [d2]; rfl
end Orq
