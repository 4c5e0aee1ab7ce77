/- PairN PairQ SplitL PW1 R21 NewsN PW2 SD1 SC1 W1 W2 WR18 WS18 X21 B21 A21 WS21 Z1 Z2 Z3 Z4 Z5 HullG TurnL DetL H1 HullQ Z6 Z7 HoP K5 Z8 R27 R28 Hal21 WH21 ReadN LastN -/
import Derived.Test.YtkkhemmhhedniaaGreatPart05
import Derived.Test.YtkkhemmhhedniaaGreatPart00
import Derived.Test.YtkkhemmhhedniaaGreatPart08
import Derived.Test.YtkkhemmhhedniaaGreatPart04
import Derived.Test.YtkkhemmhhedniaaGreatPart07
import Derived.Test.YtkkhemmhhedniaaGreatPart06
import Derived.Deep.Slices
import Derived.ProofKit
import Derived.OpenShut
import Derived.WideKeyArgs
import Derived.SizedLaws
set_option linter.all false
namespace Orr
def Fq (a b:Crv):List Int:=Qat (Ff (Gf a b) (Gf a b)) (Ff (Ge a b) (Ge a b))
def Uz (a b c d:Crv):List Int:=To (Ut (Fq c d) ((a.d*b.d)*(a.d*b.d))) (Ut (Fq a b) ((c.d*d.d)*(c.d*d.d)))
theorem Qse {a b:Crv} (ha:Cb a) (hb:Cb b):Ue (Fq a b)/\(Fq a b).length<=31/\Bd 4194312 (Fq a b):=by
 obtain ⟨_,l1,b1⟩:=Qsf ha hb;obtain ⟨_,l2,b2⟩:=Qsd ha hb;have m1:=Pz (Gf a b) (Gf a b);have m2:=Pz (Ge a b) (Ge a b);have q1:=Bi (u:=5) b1 b1 (by omega);have q2:=Bi (u:=5) b2 b2 (by omega);refine ⟨Us _ _,?_,W8 (Qb0 q1 q2) (by omega)⟩;have:=I9 (Ff (Gf a b) (Gf a b)) (Ff (Ge a b) (Ge a b));unfold Fq;omega
theorem Qu9 {a b:Crv} (ha:Cb a) (hb:Cb b):Uj (a.d*b.d)<=2097152:=by
 have:=Uw a.d b.d; have:=ha.d; have:=hb.d; omega
theorem Qyw {a b:Crv} (ha:Cb a) (hb:Cb b):Uj ((a.d*b.d)*(a.d*b.d))<=4194304:=by
 have:=Uw (a.d*b.d) (a.d*b.d); have:=Qu9 ha hb; omega
def Rt (sg:List Int->Int) (a b c d:Pt):Ct:=⟨5,a.id,b.id,c.id,d.id,Uz a.c b.c c.c d.c,Ms sg (Uz a.c b.c c.c d.c)⟩
theorem Qco (sg:List Int->Int) (a b c d:Pt):(Rt sg a b c d).p=Uz a.c b.c c.c d.c:=by rw [Rt]
def Hd:Nat->List Pt->List (Pt×Pt)
 | 0,_=>[]
 | _+1,[]=>[]
 | k+1,x::l=>l.map (λy=>(x,y))++Hd k l
def Uv (l:List Pt):List (Pt×Pt):=Hd l.length l
theorem Qfu:∀ (l:List Pt) (i:Nat) (x:Pt),l[i]? = some x->Hd (i+1) l=Hd i l++(l.drop (i+1)).map (λy=>(x,y))
 | [],i,x,h=>by simp at h
 |
  y::l,0,x,h=>by
  simp at h; subst h;simp [Hd]
 |
  y::l,i+1,x,h=>by
  have h:l[i]? = some x:=by simpa using h
  have ih:=Qfu l i x h;show l.map (λz=>(y,z))++Hd (i+1) l=(l.map (λz=>(y,z))++Hd i l)++_;rw [ih,Zu];rfl
theorem Hh:∀ (k:Nat) (l:List Pt),∀ m∈Hd k l,m.1∈l/\m.2∈l
 | 0,l,m,h=>by simp [Hd] at h
 | k+1,[],m,h=>by simp [Hd] at h
 |
  k+1,x::l,m,h=>by
  rcases Qz.1 h with h | h
  ·obtain ⟨y,hy,rfl⟩:=Zk.1 h;exact ⟨Qr ..,Qj _ hy⟩
  ·obtain ⟨h1,h2⟩:=Hh k l m h;exact ⟨Qj _ h1,Qj _ h2⟩
theorem Dv:∀ (k:Nat) (l:List Pt),(Hd k l).length<=k*l.length
 | 0,l=>by simp [Hd]
 | k+1,[]=>by simp [Hd]
 |
  k+1,x::l=>by
  have:=Dv k l;simp only [Hd,Zc,Q4,Q9];have e:(k+1)*(l.length+1)=k*l.length+k+l.length+1:=by rw [Jj,Xo]; omega
  omega
def Tg (sg:List Int->Int) (s m:Pt×Pt):Pt×Pt:=if Ms sg (Uz s.1.c s.2.c m.1.c m.2.c)<0 then m else s
def Ux (sg:List Int->Int) (s:Pt×Pt) (ps:List (Pt×Pt)):Pt×Pt:=ps.foldl (Tg sg) s
theorem Qae (sg:List Int->Int) (s m:Pt×Pt):Tg sg s m=m\/Tg sg s m=s:=by
 unfold Tg
 split
 ·exact .inl rfl
 ·exact .inr rfl
theorem Cv (sg:List Int->Int) (s m:Pt×Pt) (ps:List (Pt×Pt)):Ux sg s (m::ps)=Ux sg (Tg sg s m) ps:=by unfold Ux; rw [List.foldl_cons]
theorem Qcp (sg:List Int->Int) (s:Pt×Pt) (ps:List (Pt×Pt)) (m:Pt×Pt):Ux sg s (ps++[m])=Tg sg (Ux sg s ps) m:=by simp [Ux]
theorem Rz (sg:List Int->Int) {l:List Pt}:∀ (ps:List (Pt×Pt)) (s:Pt×Pt),s.1∈l/\s.2∈l->(∀ m∈ps,m.1∈l/\m.2∈l)->(Ux sg s ps).1∈l/\(Ux sg s ps).2∈l
 | [],s,hs,_=>hs
 |
  m::ps,s,hs,h=>by
  have hn:(Tg sg s m).1∈l/\(Tg sg s m).2∈l:=by
   rcases Qae sg s m with e | e
   ·rw [e]; exact h m (Qr ..)
   ·rw [e]; exact hs
  rw [Cv];exact Rz sg ps (Tg sg s m) hn λx hx=>h x (Qj _ hx)
def Cf (s m:Pt×Pt):Bool:=decide (m.1.id≠s.1.id) || decide (m.2.id≠s.2.id)
def H9 (sg:List Int->Int) (s:Pt×Pt) (ps:List (Pt×Pt)):List Ct:=(ps.filter (Cf s)).map λm=>Rt sg s.1 s.2 m.1 m.2
theorem Qni {sg:List Int->Int} {s m:Pt×Pt} {ps:List (Pt×Pt)} (h:Cf s m=true):H9 sg s (ps++[m])=H9 sg s ps++[Rt sg s.1 s.2 m.1 m.2]:=by simp [H9,List.filter_append,h]
theorem Qnh {sg:List Int->Int} {s m:Pt×Pt} {ps:List (Pt×Pt)} (h:Cf s m=false):H9 sg s (ps++[m])=H9 sg s ps:=by simp [H9,List.filter_append,h]
theorem Qd3 {sg:List Int->Int} {s:Pt×Pt} {ps:List (Pt×Pt)} {c:Ct} (h:c∈H9 sg s ps):∃ x∈ps,Rt sg s.1 s.2 x.1 x.2=c:=by
 unfold H9 at h;obtain ⟨x,hx,e⟩:=Zk.1 h;exact ⟨x,(Y3.1 hx).1,e⟩
theorem Eh (sg:List Int->Int) (s:Pt×Pt) (ps:List (Pt×Pt)):(H9 sg s ps).length<=ps.length:=by
 unfold H9;rw [Q4];exact List.length_filter_le _ _
def Ie (sg:List Int->Int):List Pt->List Pt
 | a::b::l=>[(Ux sg (a,b) (Uv (a::b::l))).1,(Ux sg (a,b) (Uv (a::b::l))).2]
 | _=>[]
def P4 (sg:List Int->Int):List Pt->List Ct
 | a::b::l=>H9 sg (Ux sg (a,b) (Uv (a::b::l))) (Uv (a::b::l))
 | _=>[]
theorem Qes (sg:List Int->Int) {l:List Pt} (h:l.length<2):Ie sg l=[]/\P4 sg l=[]:=by
 match l,h with
 | [],_=>exact ⟨rfl,rfl⟩
 | [a],_=>exact ⟨rfl,rfl⟩
theorem Qpk {l:List Pt} (h:¬l.length<2):∃ a b m,l=a::b::m:=by
 match l,h with
 | [],h=>simp at h
 | [a],h=>simp at h
 | a::b::m,_=>exact ⟨a,b,m,rfl⟩
theorem Ql1 (sg:List Int->Int) (l:List Pt):(P4 sg l).length<=l.length*l.length:=by
 match l with
 | []=>simp [P4]
 | [a]=>simp [P4]
 | a::b::m=>exact Qa (Eh _ _ _) (Dv _ _)
end Orr
namespace Orq
open Orr Go
theorem Qa8 {a b c d:Crv} (ha:Sc a) (hb:Sc b) (hc:Sc c) (hd:Sc d):Cp (Uz a b c d):=by
 have lr:∀ {a b:Crv},Sc a->Sc b->(Gf a b).length<=3/\(Ge a b).length<=3:=λ{a b} ha hb=>by
  have:=Ry (Ut b.x a.d) (Ut a.x b.d); have:=Ul b.x a.d; have:=Ul a.x b.d;have:=Ry (Ut b.y a.d) (Ut a.y b.d); have:=Ul b.y a.d; have:=Ul a.y b.d;have:=ha.c.lx; have:=hb.c.lx; have:=ha.c.ly; have:=hb.c.ly;unfold Gf Ge; omega
 have ap:∀ {a b:Crv},Sc a->Sc b->(Fq a b).length<=5/\Bd 365 (Fq a b):=λ{a b} ha hb=>by
  obtain ⟨l1,l2⟩:=lr ha hb;have b1:Bd 181 (Gf a b):=Pg (Ur hb.c.x ha.c.d) (Ur ha.c.x hb.c.d);have b2:Bd 181 (Ge a b):=Pg (Ur hb.c.y ha.c.d) (Ur ha.c.y hb.c.d);have q1:=Bi (u:=2) b1 b1 (by omega);have q2:=Bi (u:=2) b2 b2 (by omega);refine ⟨?_,W8 (Qb0 q1 q2) (by omega)⟩;have:=I9 (Ff (Gf a b) (Gf a b)) (Ff (Ge a b) (Ge a b));have:=Pz (Gf a b) (Gf a b); have:=Pz (Ge a b) (Ge a b);unfold Fq; omega
 have dd:∀ {a b:Crv},Sc a->Sc b->Uj ((a.d*b.d)*(a.d*b.d))<=360:=λ{a b} ha hb=>by
  have:=Uw a.d b.d; have:=Uw (a.d*b.d) (a.d*b.d); have:=ha.c.d; have:=hb.c.d; omega
 obtain ⟨l1,b1⟩:=ap hc hd;obtain ⟨l2,b2⟩:=ap ha hb;refine ⟨Us _ _,?_,W8 (Pg (Ur b1 (dd ha hb)) (Ur b2 (dd hc hd))) (by omega)⟩;have:=Ry (Ut (Fq c d) ((a.d*b.d)*(a.d*b.d))) (Ut (Fq a b) ((c.d*d.d)*(c.d*d.d)));have:=Ul (Fq c d) ((a.d*b.d)*(a.d*b.d)); have:=Ul (Fq a b) ((c.d*d.d)*(c.d*d.d));unfold Uz; omega
def dsq (m:Pt×Pt) (q:Rat):Rat:=(px m.2 q-px m.1 q)*(px m.2 q-px m.1 q)+(py m.2 q-py m.1 q)*(py m.2 q-py m.1 q)
theorem Zca {a b c d:Pt} (ha:Sc a.c) (hb:Sc b.c) (hc:Sc c.c) (hd:Sc d.c) (q:Rat):Uo (Uf (Uz a.c b.c c.c d.c) q)=Uo (dsq (c,d) q-dsq (a,b) q):=by
 have pos:∀ {z:Int},0<z->(0:Rat)<(z:Rat):=λ{z} h=>by exact_mod_cast h
 have pa:=pos ha.n.2.2.1;have pb:=pos hb.n.2.2.1;have pc:=pos hc.n.2.2.1;have pd:=pos hd.n.2.2.1;have xx:∀ {p:Pt},0<(p.c.d:Rat)->Uf p.c.x q=px p q*(p.c.d:Rat)/\Uf p.c.y q=py p q*(p.c.d:Rat):=λ{p} h=>by
  unfold px py;exact ⟨(Zf (by grind)).symm,(Zf (by grind)).symm⟩
 obtain ⟨xa,ya⟩:=xx pa;obtain ⟨xb,yb⟩:=xx pb;obtain ⟨xc,yc⟩:=xx pc;obtain ⟨xd,yd⟩:=xx pd;have e:Uf (Uz a.c b.c c.c d.c) q=(((a.c.d:Rat)*b.c.d)*((a.c.d:Rat)*b.c.d))*(((c.c.d:Rat)*d.c.d)*((c.c.d:Rat)*d.c.d))*(dsq (c,d) q-dsq (a,b) q):=by
  unfold Uz Fq Gf Ge dsq;simp only [Dx,Rm,Qsi,U9,Xv];rw [xa,xb,xc,xd,ya,yb,yc,yd];grind
 rw [e,A1];have h1:=J9 pa pb;have h2:=J9 pc pd;exact J9 (J9 h1 h1) (J9 h2 h2)
def Qj3 (l:List Pt):List (List Int):=l.flatMap λa=>l.flatMap λb=>l.flatMap λc=>l.map λd=>Uz a.c b.c c.c d.c
theorem Qhe {l:List Pt} {a b c d:Pt} (ha:a∈l) (hb:b∈l) (hc:c∈l) (hd:d∈l):Uz a.c b.c c.c d.c∈Qj3 l :=
 Xs.2 ⟨a,ha,Xs.2 ⟨b,hb,Xs.2 ⟨c,hc,Zk.2 ⟨d,hd,rfl⟩⟩⟩⟩
theorem Qby {l:List Pt} (hl:∀ p∈l,Sc p.c):∀ p∈Qj3 l,Cp p:=λp hp=>by
 obtain ⟨a,ha,hp⟩:=Xs.1 hp;obtain ⟨b,hb,hp⟩:=Xs.1 hp;obtain ⟨c,hc,hp⟩:=Xs.1 hp;obtain ⟨d,hd,rfl⟩:=Zk.1 hp;exact Qa8 (hl a ha) (hl b hb) (hl c hc) (hl d hd)
theorem Qyl {l:List Pt} (hl:∀ p∈l,Sc p.c) {a:Tm} (ha:Va a):∃ y,Uq a y=-1/\∀ q,Uq a q=-1->q≤y->∀ s m:Pt×Pt,s.1∈l->s.2∈l->m.1∈l->m.2∈l->Ms (Hq a) (Uz s.1.c s.2.c m.1.c m.2.c)=Uo (dsq m q-dsq s q):=by
 obtain ⟨y,y1,y2⟩:=Qra ha (Qj3 l) λp hp=>(Qby hl p hp).dp
 refine ⟨y,y1,λq q1 q2 s m h1 h2 h3 h4=>?_⟩;rw [y2 q q1 q2 _ (Qhe h1 h2 h3 h4),Zca (hl _ h1) (hl _ h2) (hl _ h3) (hl _ h4)]
def Bt (f:Pt×Pt->Rat) (P:List (Pt×Pt)) (r:Pt×Pt):Prop:=∃ P1 P2,P=P1++r::P2/\(∀ m∈P1,f r<f m)/\∀ m∈P2,f r≤f m
theorem Qk8 {f:Pt×Pt->Rat}:∀ {P:List (Pt×Pt)} {r r':Pt×Pt},Bt f P r->Bt f P r'->r=r'
 | [],r,r',⟨P1,P2,h,_⟩,_=>by simp at h
 |
  x::P,r,r',⟨P1,P2,h,h1,h2⟩,⟨Q1,Q2,h',h1',h2'⟩=>by
  cases P1 with
  |
   nil =>
   simp at h;cases Q1 with
   | nil=>simp at h'; exact h.1.symm.trans h'.1
   |
    cons y Q1 =>
    simp at h';exfalso;obtain ⟨rfl,rfl⟩:=h;obtain ⟨rfl,rfl⟩:=h';have a1:=h1' x (by simp);have a2:=h2 r' (by simp);grind
  |
   cons y P1 =>
   simp at h;cases Q1 with
   |
    nil =>
    simp at h';exfalso;obtain ⟨rfl,rfl⟩:=h;obtain ⟨rfl,rfl⟩:=h';have a1:=h1 x (by simp);have a2:=h2' r (by simp);grind
   |
    cons z Q1 =>
    simp at h h';exact Qk8 (P:=P) ⟨P1,P2,h.2,λm hm=>h1 m (by simp [hm]),h2⟩ ⟨Q1,Q2,h'.2,λm hm=>h1' m (by simp [hm]),h2'⟩
theorem Zcb {f:Pt×Pt->Rat} {P:List (Pt×Pt)} {r m:Pt×Pt} (h:Bt f P r):Bt f (P++[m]) (if f m<f r then m else r):=by
 obtain ⟨P1,P2,rfl,h1,h2⟩:=h;by_cases e:f m<f r
 ·rw [if_pos e];refine ⟨P1++r::P2,[],rfl,λx hx=>?_,λx hx=>by cases hx⟩;rcases Qz.1 hx with hx | hx
  ·have:=h1 x hx; grind
  ·rcases Qo.1 hx with rfl | hx
   ·exact e
   ·have:=h2 x hx; grind
 ·rw [if_neg e];refine ⟨P1,P2++[m],by simp,h1,λx hx=>?_⟩;rcases Qz.1 hx with hx | hx
  ·exact h2 x hx
  ·rw [Qt.1 hx]; grind
theorem Qyo {f:Pt×Pt->Rat} {sg:List Int->Int} {l:List Pt} (hg:∀ s m:Pt×Pt,s.1∈l->s.2∈l->m.1∈l->m.2∈l->Ms sg (Uz s.1.c s.2.c m.1.c m.2.c)=Uo (f m-f s)):∀ (ps P:List (Pt×Pt)) (s:Pt×Pt),s.1∈l/\s.2∈l->(∀ m∈ps,m.1∈l/\m.2∈l)->Bt f P s->Bt f (P++ps) (Ux sg s ps)
 | [],P,s,_,_,h=>by rw [Xh]; exact h
 |
  m::ps,P,s,hs,hp,h=>by
  rw [Cv];have hm:=hp m (by simp);have e:Tg sg s m=if f m<f s then m else s:=by
   unfold Tg;rw [hg s m hs.1 hs.2 hm.1 hm.2];have:=Fh (f m-f s);by_cases h:f m<f s
   ·rw [if_pos h,if_pos (by grind)]
   ·rw [if_neg h,if_neg (by grind)]
  have hn:(Tg sg s m).1∈l/\(Tg sg s m).2∈l:=by
   rcases Qae sg s m with e | e <;> rw [e] <;> assumption
  have:=Qyo hg ps (P++[m]) (Tg sg s m) hn (λx hx=>hp x (Qj _ hx)) (by rw [e]; exact Zcb h);rwa [Zu] at this
theorem Qvp (a b:Pt) (l:List Pt):∃ P,Uv (a::b::l)=(a,b)::P:=⟨_,rfl⟩
theorem Qzf {f:Pt×Pt->Rat} {sg:List Int->Int} {a b:Pt} {l:List Pt} (hg:∀ s m:Pt×Pt,s.1∈a::b::l->s.2∈a::b::l->m.1∈a::b::l->m.2∈a::b::l->Ms sg (Uz s.1.c s.2.c m.1.c m.2.c)=Uo (f m-f s)):Bt f (Uv (a::b::l)) (Ux sg (a,b) (Uv (a::b::l))):=by
 obtain ⟨P,hP⟩:=Qvp a b l;have hm:=Hh (a::b::l).length (a::b::l);have hm:∀ m∈Uv (a::b::l),m.1∈a::b::l/\m.2∈a::b::l:=hm;rw [hP] at hm ⊢;have h:=Qyo hg P [(a,b)] (a,b) (hm (a,b) (by simp)) (λm h=>hm m (by simp [h])) ⟨[],[],rfl,λm h=>(by cases h),λm h=>(by cases h)⟩;rw [Cv];have e:Tg sg (a,b) (a,b)=(a,b):=by rcases Qae sg (a,b) (a,b) with e | e <;> exact e
 rw [e]; exact h
theorem Q0b {l:List Pt} (hd:l.Pairwise λx y=>x.id≠y.id) {u v:Pt} (hu:u∈l) (hv:v∈l) (h:u.id=v.id):u=v:=by
 by_cases e:u=v
 ·exact e
 ·rcases Zfq hd hu hv e with h' | h'
  ·exact absurd h h'
  ·exact absurd h.symm h'
theorem Q15 {l:List Pt} (hl:∀ p∈l,Sc p.c) (hd:l.Pairwise λx y=>x.id≠y.id) {a b:Tm} (ha:Va a) (hb:Va b) (h:∀ x∈P4 (Hq a) l,Ms (Hq b) x.p=Ms (Hq a) x.p):Ie (Hq b) l=Ie (Hq a) l/\P4 (Hq b) l=P4 (Hq a) l:=by
 match l,hl,hd,h with
 | [],_,_,_=>exact ⟨rfl,rfl⟩
 | [x],_,_,_=>exact ⟨rfl,rfl⟩
 |
  u::v::l',hl,hd,h =>
  obtain ⟨y,y1,y2⟩:=Qyl hl ha;obtain ⟨z,z1,z2⟩:=Qyl hl hb;have ga:=y2 y y1 Ql;have gb:=z2 z z1 Ql;have fa:=Qzf (f:=λm=>dsq m y) ga;have fb:=Qzf (f:=λm=>dsq m z) gb;simp only [Ie,P4] at h ⊢;have hm:∀ m∈Uv (u::v::l'),m.1∈u::v::l'/\m.2∈u::v::l':=Hh _ _;generalize u::v::l'=l at *;obtain ⟨r,hr⟩:=nmE (Ux (Hq a) (u,v) (Uv l));rw [<-hr] at fa h ⊢;obtain ⟨P1,P2,hP,h1,h2⟩:=fa;have hrm:r∈Uv l:=by rw [hP]; simp
  have hrl:=hm r hrm;have key:∀ m∈Uv l,m=r\/Ms (Hq b) (Uz r.1.c r.2.c m.1.c m.2.c)=Ms (Hq a) (Uz r.1.c r.2.c m.1.c m.2.c):=λm hmm=>by
   have hml:=hm m hmm;by_cases e:Cf r m=true
   ·right;have h0:=h (Rt (Hq a) r.1 r.2 m.1 m.2) (by unfold H9; exact List.mem_map.2 ⟨m,List.mem_filter.2 ⟨hmm,e⟩,rfl⟩);rw [Qco] at h0; exact h0
   ·left;unfold Cf at e;simp at e;have e1:=Q0b hd hml.1 hrl.1 e.1;have e2:=Q0b hd hml.2 hrl.2 e.2;exact Prod.ext e1 e2
  have fb':Bt (λm=>dsq m z) (Uv l) r:=by
   refine ⟨P1,P2,hP,λm hmm=>?_,λm hmm=>?_⟩
   ·have hmp:m∈Uv l:=by rw [hP]; simp [hmm]
    have hlt:=h1 m hmm;have hml:=hm m hmp;rcases key m hmp with e | e
    ·exfalso; rw [e] at hlt; dsimp only at hlt; grind
    ·rw [ga r m hrl.1 hrl.2 hml.1 hml.2,gb r m hrl.1 hrl.2 hml.1 hml.2] at e;dsimp only at hlt ⊢;rw [Gy.2 (by grind:0<dsq m y-dsq r y)] at e;have:=Gy.1 e; grind
   ·have hmp:m∈Uv l:=by rw [hP]; simp [hmm]
    have hlt:=h2 m hmm;have hml:=hm m hmp;rcases key m hmp with e | e
    ·rw [e]; exact Ql
    ·rw [ga r m hrl.1 hrl.2 hml.1 hml.2,gb r m hrl.1 hrl.2 hml.1 hml.2] at e;dsimp only at hlt ⊢;have t1:=Fh (dsq m y-dsq r y);have t2:=Fh (dsq m z-dsq r z);grind
  have er:=Qk8 fb fb';rw [er];refine ⟨rfl,?_⟩;unfold H9;refine Yx λm hmm=>?_
  have hmp:=(Y3.1 hmm).1;rcases key m hmp with e | e
  ·exfalso;have:=(Y3.1 hmm).2;rw [e] at this; unfold Cf at this; simp at this
  ·unfold Rt; rw [e]
theorem Zkz {l:List Pt} (hl:∀ p∈l,Sc p.c) (hn:l.length≤10) (hd:l.Pairwise λx y=>x.id≠y.id):Stab (λa=>P4 (Hq a) l) (λa=>Uy (Ie (Hq a) l)):=by
 have hcp:∀ a,∀ x∈P4 (Hq a) l,x.p∈Qj3 l:=λa x hx=>by
  match l,hx with
  |
   u::v::l',hx =>
   simp only [P4] at hx;obtain ⟨h3,h4⟩:=Rz (Hq a) (l:=u::v::l') (Uv (u::v::l')) (u,v) ⟨by simp,by simp⟩ (Hh _ _);obtain ⟨m,hm,rfl⟩:=Qd3 hx;obtain ⟨h1,h2⟩:=Hh _ _ m hm;rw [Qco];exact Qhe h3 h4 h1 h2
 refine ⟨⟨λa _ x hx=>Qby hl _ (hcp a x hx),λa _=>?_⟩,⟨Qj3 l,Qby hl,λa _=>hcp a⟩,λa b ha hb h=>?_⟩
 ·have:=Ql1 (Hq a) l;have:l.length*l.length<=10*10:=Zi hn hn;show (P4 (Hq a) l).length<=1000;omega
 ·obtain ⟨h1,h2⟩:=Q15 hl hd ha hb h;exact ⟨h2,by show Uy _=Uy _; rw [h1]⟩
theorem Zis {a b:Tm} (ha:Cut (Uq a)) (hb:Cut (Uq b)) (h:¬Pn a b) (h':¬Pn b a):∀ q,Uq a q=Uq b q:=by
 rcases tri ha hb with h1 | h1 | h1
 ·exact absurd h1 h
 ·exact h1
 ·exact absurd h1 h'
theorem Zef {a b b':Tm} (h:∀ q,Uq b q=Uq b' q):Pn a b↔Pn a b':=by
 unfold Pn; simp only [h]
theorem Q9m {a b b':Tm} (h:∀ q,Uq b q=Uq b' q):Pn b a↔Pn b' a:=by
 unfold Pn; simp only [h]
theorem Q7e {p:List Int} {a:Tm} (ha:Va a) {t t':Tm} (h:Tk p a (some t)) (h':Tk p a (some t')):∀ q,Uq t q=Uq t' q:=by
 obtain ⟨_,v,l,s,s0,h4,h5⟩:=h;obtain ⟨_,v',l',s',s0',h4',h5'⟩:=h';have es:s=s':=Qc8 (h4 _ ha.cut (λ_ h=>h) l) (h4' _ ha.cut (λ_ h=>h) l');refine Zis v.cut v'.cut (λhlt=>?_) λhlt=>?_
 ·have:=Qc8 (h4' _ v.cut (Qbf ha.cut v.cut (Qoa ha.cut v.cut l)) hlt) h5;omega
 ·have:=Qc8 (h4 _ v'.cut (Qbf ha.cut v'.cut (Qoa ha.cut v'.cut l')) hlt) h5';omega
theorem Qr5 {p:List Int} {a:Tm} (ha:Va a) {t:Tm} (h:Tk p a (some t)) (h':Tk p a none):False:=by
 obtain ⟨h1,v,l,s,s0,h4,h5⟩:=h;rcases h' with h' | ⟨s',s0',h'⟩
 ·exact h1 h'
 ·have e1:=Qc8 (h' _ ha.cut λ_ h=>h) (h4 _ ha.cut (λ_ h=>h) l);have e2:=Qc8 (h' _ v.cut (Qbf ha.cut v.cut (Qoa ha.cut v.cut l))) h5;omega
structure Quiet {β:Type} (Bc:Tm->List Ct) (Br:Tm->β) (a b:Tm):Prop where
 va:Va a
 vb:Va b
 le:¬Pn b a
 n:∀ x∈Bc a,∃ o,Tk x.p a o/\∀ u,o=some u->Pn b u
section
variable {β:Type} {Bc:Tm->List Ct} {Br:Tm->β} (S:Stab Bc Br)
include S
theorem Quiet.same {a b:Tm} (h:Quiet Bc Br a b):Bc b=Bc a/\Br b=Br a:=by
 refine S.st a b h.va h.vb λx hx=>?_
 obtain ⟨o,o1,o2⟩:=h.n x hx;exact Qed (S.ok.p _ h.va _ hx).dp h.va h.vb h.le o1 o2
end
theorem Zeh {p:List Int} (h:Cp p):(tms p).length<=67:=by
 obtain ⟨l,l1,l2,_⟩:=Ox h;unfold tms; rw [l1]; exact l2
theorem Q0h:∀ {Ps:List (List Int)},(∀ p∈Ps,Cp p)->(Ps.flatMap tms).length≤67*Ps.length
 | [],_=>Qi _
 |
  p::Ps,h=>by
  have h1:=Zeh (h p (by simp));have h2:=Q0h (Ps:=Ps) λq hq=>h q (Qj _ hq)
  rw [Wh,Zc,Q9]; omega
theorem Zkj (T:List Tm) (a:Tm):mu T a<=T.length:=List.length_filter_le _ _
theorem Zf3 {β:Type} {Bc:Tm->List Ct} {Br:Tm->β} (S:Stab Bc Br) {Ps:List (List Int)} (hP:∀ p∈Ps,Cp p) (hPs:∀ a,Va a->∀ x∈Bc a,x.p∈Ps) (hl:Ps.length≤1000000) {t:Rat} (ht:Qs 400000 t) {c:Cr} {r:β} (hS:KSt Bc Br c r) (h:Uq c.now t≤0) :
 ∃ (K:Nat) (c':Cr) (E:List Tm),K<=67000001/\goF Bc Br t K c r 0=some (c',Br (tq t),((E.length:Nat):Int))/\c'.now=tq t/\KSt Bc Br c' (Br (tq t))/\c'.ev=c.ev+((E.length:Nat):Int)/\E.length<=67000000/\Evs Bc t c.now E:=by
 have hm:=Q0h hP;have hmu:=Zkj (Ps.flatMap tms) c.now;have hv:=hS.inv.ok.n;obtain ⟨c',r',E,g1,g2,g3,g4,g5,g6⟩:=Zj4 S ht hP hPs (mu (Ps.flatMap tms) c.now) c r 0 (Qk _) hS λh'=>by
  have:=(Iw hv.cut).2 h'; omega
 have hr:r'=Br (tq t):=by rw [g3.r,g2]
 rw [hr] at g1 g3;rw [Int.zero_add] at g1;exact ⟨_,c',E,by omega,g1,g2,g3,g4,by omega,g6⟩
theorem Zgb {β:Type} {Bc:Tm->List Ct} {Br:Tm->β} (S:Stab Bc Br) {a:Tm} (ha:Va a):KSt Bc Br ⟨a,(Gv (Bc a)).map fresh,0⟩ (Br a):=by
 refine ⟨⟨⟨ha,λw hw=>?_,?_⟩,λw hw hk=>?_⟩,?_,rfl⟩
 ·obtain ⟨x,hx,rfl⟩:=Zk.1 hw;exact ⟨S.ok.p _ ha x (Qe4 hx),λt ht=>by cases ht⟩
 ·show ((Gv (Bc a)).map fresh).length<=1000;rw [Q4,Da]; exact S.ok.n _ ha
 ·obtain ⟨x,hx,rfl⟩:=Zk.1 hw;cases hk
 ·show ((Gv (Bc a)).map fresh).map (·.c)=Gv (Bc a);rw [List.map_map];show (Gv (Bc a)).map (λx=>x)=_;rw [List.map_id']
end Orq
namespace Orr
open Go Go.Proofs Orq
set_option maxRecDepth 10000
def Oe:Nat->List LV->List LV
 | _,[]=>[]
 | 0,x::l=>Qcq x::l
 | k+1,x::l=>x::Oe k l
theorem Qlx:∀ (k:Nat) (l:List LV),(Oe k l).length=l.length
 | _,[]=>by cases ‹Nat› <;> rfl
 | 0,x::l=>rfl
 | k+1,x::l=>by simp only [Oe,Q9,Qlx k l]
theorem Qlw:∀ (k:Nat) (l:List LV) {j:Nat} {y:LV},(Oe k l)[j]? = some y->∃ x,l[j]? = some x/\(y=x\/y=Qcq x)
 | 0,[],_,_,h=>by simp [Oe] at h
 | _+1,[],_,_,h=>by simp [Oe] at h
 | 0,x::l,0,y,h=>by simp [Oe] at h; exact ⟨x,rfl,.inr h.symm⟩
 | 0,x::l,j+1,y,h=>by simp [Oe] at h; exact ⟨y,by simpa using h,.inl rfl⟩
 | k+1,x::l,0,y,h=>by simp [Oe] at h; exact ⟨x,rfl,.inl h.symm⟩
 |
  k+1,x::l,j+1,y,h=>by
  simp only [Oe,Jm] at h;obtain ⟨z,h1,h2⟩:=Qlw k l h;exact ⟨z,by simpa using h1,h2⟩
theorem nlc {P:Program} [Mo P] {n:Nat} {Q:Exit->Sg->List OB->Prop} {L:Sg} {B B':List OB} (i d:Nat) {T:TypeId} {xs:List LV} {it:List It} (hs:H6 it=true) (hb:E7 B i=some (.blk T xs)) (hB:L9 B i (.blk T (Oe d xs))=some B') (k:AK P n Q it L B'):AK P n Q it L B:=by
 obtain ⟨rfl,hl⟩:=Ng hB;have hbi:B[i]? = some (.blk T xs):=Sf ▸ hb;refine AK.sub (λF E M a w h=>⟨E,M,?_,h.size,h.defers,h.slots⟩) hs k;rw [Qer,Qbk hbi];refine h.hs.re (λj=>?_) (λj=>?_) (λj=>?_) λj hj=>?_
 ·by_cases e:j=i
  ·subst e;rw [Up];obtain ⟨g,c,m,h1,cs,h2,h3⟩:=h.blk hb;refine ⟨g,c,m,h1,cs,h2,F2.of (by rw [Qlx]; exact h3.len) λk v x hv hx=>?_⟩;obtain ⟨y,hy,hyx⟩:=Qlw _ _ hx;rcases hyx with rfl | rfl
   ·exact h3.get' hv hy
   ·exact Qzi (h3.get' hv hy)
  ·rw [U5 _ _ e]; exact h.hs.blk j
 ·by_cases e:j=i
  ·subst e; rw [Up,Ra hbi]; rfl
  ·rw [U5 _ _ e]
 ·by_cases e:j=i
  ·subst e; rw [Up,Ra hbi]; rfl
  ·rw [U5 _ _ e]
 ·by_cases e:j=i
  ·subst e; rw [Ra hbi] at hj; cases hj
  ·rw [U5 _ _ e]; exact hj
theorem Zfe {l m:List (List LV)} (h:l=m):TV.one (LV.row l)=.one (.row m):=h ▸ rfl
theorem Qqc {a b:Crv} (ha:Nml a) (hb:Nml b) (ca:Cb a) (cb:Cb b):Ua Tryz.prog 232 [.agg (cl a),.agg (cl b)] [pr (Fq a b)]:=by
 obtain ⟨p1,l1,b1⟩:=Qsf ca cb;obtain ⟨p2,l2,b2⟩:=Qsd ca cb;have m1:=Pz (Gf a b) (Gf a b);have m2:=Pz (Ge a b) (Ge a b);have q1:=Bi (u:=5) b1 b1 (by omega);have q2:=Bi (u:=5) b2 b2 (by omega);exact w tt Tryz.func232 rfl [.c [] (Za3 ha hb ca cb),.c [] (Zar ha hb ca cb),.c [] (Qt9 p1.t p1.t (by omega) (by omega) b1 b1 (by omega)),.c [] (Qt9 p2.t p2.t (by omega) (by omega) b2 b2 (by omega)),.c [] (Q3x (by omega) (by omega) (W8 q1 (by omega)) (W8 q2 (by omega)))] rfl rfl trivial
theorem Q0v {a b c d:Crv} (ha:Nml a) (hb:Nml b) (hc:Nml c) (hd:Nml d) (ca:Cb a) (cb:Cb b) (cc:Cb c) (cd:Cb d):Ua Tryz.prog 177 [.agg (cl a),.agg (cl b),.agg (cl c),.agg (cl d)] [pr (Uz a b c d)]:=by
 have na:=D9 ha (ca.mono (by omega) (by omega));have nb:=D9 hb (cb.mono (by omega) (by omega));have nc:=D9 hc (cc.mono (by omega) (by omega));have nd:=D9 hd (cd.mono (by omega) (by omega));have s1:=Qu9 ca cb;have s2:=Qu9 cc cd;have s3:=Qyw ca cb;have s4:=Qyw cc cd;have da:=ca.d;have db:=cb.d;have dc:=cc.d;have dd:=cd.d;obtain ⟨t1,l1,b1⟩:=Qse cc cd;obtain ⟨t2,l2,b2⟩:=Qse ca cb;have k1:=Ul (Fq c d) ((a.d*b.d)*(a.d*b.d));have k2:=Ul (Fq a b) ((c.d*d.d)*(c.d*d.d));have w1:=Mw (Ub a.d) (Ub b.d) (by omega) (by omega);have w2:=Mw (Ub c.d) (Ub d.d) (by omega) (by omega);have w3:=Mw (Ub (a.d*b.d)) (Ub (a.d*b.d)) (by omega) (by omega);have w4:=Mw (Ub (c.d*d.d)) (Ub (c.d*d.d)) (by omega) (by omega);have p1:=Bv (p:=Fq c d) (c:=(a.d*b.d)*(a.d*b.d)) (by omega) (W8 b1 (by omega)) (by omega);have p2:=Bv (p:=Fq a b) (c:=(c.d*d.d)*(c.d*d.d)) (by omega) (W8 b2 (by omega)) (by omega);have p3:=Qhq (p:=Ut (Fq c d) ((a.d*b.d)*(a.d*b.d))) (q:=Ut (Fq a b) ((c.d*d.d)*(c.d*d.d))) (by omega) (by omega) (W8 (Ur b1 s3) (by omega)) (W8 (Ur b2 s4) (by omega));exact w tt Tryz.func177 rfl [.c [] na,.c [] nb,.c [] w1,.c [] nc,.c [] nd,.c [] w2,.c [] (Qqc hc hd cc cd),.c [] w3,.c [] p1,.c [] (Qqc ha hb ca cb),.c [] w4,.c [] p2,.c [] p3] rfl rfl trivial
theorem Qhn {a b c d:Pt} (ha:Sc a.c) (hb:Sc b.c) (hc:Sc c.c) (hd:Sc d.c):Ua Tryz.prog 177 [.agg (cl a.c),.agg (cl b.c),.agg (cl c.c),.agg (cl d.c)] [pr (Uz a.c b.c c.c d.c)]:=Q0v ha.n hb.n hc.n hd.n ha.cb hb.cb hc.cb hd.cb
set_option maxHeartbeats 1000000 in
theorem Zaz {a b c d:Pt} {t:Tm} (ha:Sc a.c) (hb:Sc b.c) (hc:Sc c.c) (hd:Sc d.c) (ht:Va t):Ua Tryz.prog 179 [.one (.int .i64 5),.agg (ta t),.one (.row [Gp a,Gp b,Gp c,Gp d])] [.agg (Qga (Rt (Hq t) a b c d)),.one (.int .i64 0)]:=by
 have hp:=(Qa8 ha hb hc hd).dp;have e:Qga (Rt (Hq t) a b c d)=[.int .i64 5,.int .i64 a.id,.int .i64 b.id,.int .i64 c.id,.int .i64 d.id,pl (Uz a.c b.c c.c d.c),.int .i64 (Ms (Hq t) (Uz a.c b.c c.c d.c))]:=by rw [Rt]
 rw [e];have cg:=Ze4 hp ht;have cf:=Qhn ha hb hc hd;generalize Uz a.c b.c c.c d.c=F at *;refine Gu Tryz.func179 rfl ?_;refine go tt [.c [] Q03,.f rfl] rfl trivial ?_;refine lp (S:=Nat) 3 (λL1 i=>(22,.v (.one (.int .i64 (i:Int))))::L1) (λi=>[.blk 74 (ta t),.blk 90 zCt,.blk 90 [.int .i64 5,.int .i64 (if 1<=i then a.id else 0),.int .i64 (if 2<=i then b.id else 0),.int .i64 (if 3<=i then c.id else 0),.int .i64 (if 4<=i then d.id else 0),.nils,.int .i64 0]]) (λi=>4-i) (λi=>i<=4) 0 (Qi _) rfl (λ_ _=>rfl) rfl λi hi=>?_
 rcases (show i=0\/i=1\/i=2\/i=3\/i=4 by omega) with rfl | rfl | rfl | rfl | rfl
 ·refine go tt [.t rfl,.x (i:=0) (xs:=Gp a) rfl,.i 0] rfl (by simp [W9]) ?_;exact rd 1 (by omega) (by omega) rfl
 ·refine go tt [.t rfl,.x (i:=1) (xs:=Gp b) rfl,.i 1] rfl (by simp [W9]) ?_;exact rd 2 (by omega) (by omega) rfl
 ·refine go tt [.t rfl,.x (i:=2) (xs:=Gp c) rfl,.i 2] rfl (by simp [W9]) ?_;exact rd 3 (by omega) (by omega) rfl
 ·refine go tt [.t rfl,.x (i:=3) (xs:=Gp d) rfl,.i 3] rfl (by simp [W9]) ?_;exact rd 4 (by omega) (by omega) rfl
 ·exact en tt [.f rfl,.f rfl,.f rfl,.f rfl,.f rfl,.x (i:=0) (xs:=Gp a) rfl,.x (i:=1) (xs:=Gp b) rfl,.x (i:=2) (xs:=Gp c) rfl,.x (i:=3) (xs:=Gp d) rfl,.c [] cf,.c [] cg] rfl rfl trivial
theorem Zgs {s m:Pt×Pt} {t:Tm} (h1:Sc s.1.c) (h2:Sc s.2.c) (h3:Sc m.1.c) (h4:Sc m.2.c) (ht:Va t):G6 Tryz.prog 175 [.agg (Gp m.1),.agg (Gp m.2),.one (.ow 0 0),.one (.ow 1 0),.one (.ow 2 0)] [.blk 135 (Gp s.1),.blk 135 (Gp s.2),.blk 74 (ta t)] [] [.blk 135 (Gp (Tg (Hq t) s m).1),.blk 135 (Gp (Tg (Hq t) s m).2),.blk 74 (ta t)]:=by
 have cf:=Qhn h1 h2 h3 h4;have cg:=Ze4 (Qa8 h1 h2 h3 h4).dp ht;unfold Tg;refine Gu Tryz.func175 rfl ?_;by_cases h:Ms (Hq t) (Uz s.1.c s.2.c m.1.c m.2.c)<0
 ·rw [if_pos h];exact ed tt [] [0,1,2] [.c [] cf,.c [] cg,.t (decide_eq_true h)] rfl trivial
 ·rw [if_neg h];exact ed tt [] [0,1,2] [.c [] cf,.c [] cg,.f (decide_eq_false h)] rfl trivial
theorem Zgo {s m:Pt×Pt} {t:Tm} {L:List Ct} (h1:Sc s.1.c) (h2:Sc s.2.c) (h3:Sc m.1.c) (h4:Sc m.2.c) (ht:Va t) (hL:L.length<=1000000):G6 Tryz.prog 178 [.agg (Gp m.1),.agg (Gp m.2),.one (.ow 0 0),.one (.ow 1 0),.one (.ow 2 0),.one (.ow 3 0)] [.blk 135 (Gp s.1),.blk 135 (Gp s.2),.blk 74 (ta t),.blk 83 [.orow 4 7 none],.row false 90 7 (Gj L)] [] [.blk 135 (Gp s.1),.blk 135 (Gp s.2),.blk 74 (ta t),.blk 83 [.orow 4 7 none],.row false 90 7 (Gj (if Cf s m=true then L++[Rt (Hq t) s.1 s.2 m.1 m.2] else L))]:=by
 have cm:=Zaz h1 h2 h3 h4 ht;have hq:∀ y∈[Qga (Rt (Hq t) s.1 s.2 m.1 m.2)],y.length=7:=λy hy=>by rw [Qt.1 hy]; rfl
 have hcl:=Dh L;have hsn:Gj (L++[Rt (Hq t) s.1 s.2 m.1 m.2])=Gj L++[Qga (Rt (Hq t) s.1 s.2 m.1 m.2)]:=by simp [Gj]
 refine Gu Tryz.func178 rfl ?_;by_cases e1:m.1.id=s.1.id
 ·by_cases e2:m.2.id=s.2.id
  ·rw [if_neg (by simp [Cf,e1,e2])];exact ed tt [] [0,1,2,3,4] [.g 15 false (by simp [e1]),.f (by simp [e2])] rfl trivial
  ·rw [if_pos (by simp [Cf,e2]),hsn];exact ed tt [] [0,1,2,3,4] [.g 15 false (by simp [e1]),.t (by simp [e2]),.c [] cm,.s (sz:=7) hq] rfl (by simp [W9,hcl]; omega)
 ·rw [if_pos (by simp [Cf,e1]),hsn];exact ed tt [] [0,1,2,3,4] [.g 15 true (by simp [e1]),.t rfl,.c [] cm,.s (sz:=7) hq] rfl (by simp [W9,hcl]; omega)
theorem Lm (M:List Pt):Hd 0 M=[]:=by cases M <;> rfl
def prs (M:List Pt) (x:Pt) (i j:Nat):List (Pt×Pt):=Hd i M++((M.drop (i+1)).take j).map (λy=>(x,y))
theorem Qc1 (M:List Pt) (x:Pt) (i:Nat):prs M x i 0=Hd i M:=by rw [prs,Yv,Jb,Xh]
theorem Qc0 {M:List Pt} {i j:Nat} {x y:Pt} (hy:(M.drop (i+1))[j]? = some y):prs M x i (j+1)=prs M x i j++[(x,y)]:=by
 unfold prs;rw [Xk,hy,V9,Jz,Zu]; rfl
theorem Qg1 {M:List Pt} {i j:Nat} {x:Pt} (hx:M[i]? = some x) (hj:(M.drop (i+1)).length<=j):prs M x i j=Hd (i+1) M:=by
 unfold prs;rw [Qn hj,Qfu M i x hx]
theorem Qzt {M:List Pt} {i j:Nat} {x:Pt} (hx:M[i]? = some x):∀ m∈prs M x i j,m.1∈M/\m.2∈M:=λm hm=>by
 rcases Qz.1 hm with h | h
 ·exact Hh _ _ m h
 ·obtain ⟨y,hy,rfl⟩:=Zk.1 h;exact ⟨Qc hx,Zh (Qq hy)⟩
theorem Qqa {l:List Pt} {t:Tm} {s0:Pt×Pt} (hl:∀ p∈l,Sc p.c) (hs:s0.1∈l/\s0.2∈l) (hn:l.length≤1000) (ht:Va t):G6 Tryz.prog 174 [.one (pts l),.one (.ofn 175 [] [.ow 0 0,.ow 1 0,.ow 2 0])] [.blk 135 (Gp s0.1),.blk 135 (Gp s0.2),.blk 74 (ta t)] [] [.blk 135 (Gp (Ux (Hq t) s0 (Uv l)).1),.blk 135 (Gp (Ux (Hq t) s0 (Uv l)).2),.blk 74 (ta t)]:=by
 have hcl:=Bb l;have hsc:∀ ps:List (Pt×Pt),(∀ m∈ps,m.1∈l/\m.2∈l)->Sc (Ux (Hq t) s0 ps).1.c/\Sc (Ux (Hq t) s0 ps).2.c:=λps h=>by
  obtain ⟨h1,h2⟩:=Rz (Hq t) ps s0 hs h;exact ⟨hl _ h1,hl _ h2⟩
 show G6 Tryz.prog 174 [.one (.row (Uy l)),.one (.ofn 175 [] [.ow 0 0,.ow 1 0,.ow 2 0])] _ _ _;refine Gu Tryz.func174 rfl ?_;refine go tt [] rfl trivial ?_;refine lp (S:=Nat) 3 (λL1 i=>(10,.v (.one (.int .i64 (i:Int))))::L1) (λi=>[.blk 135 (Gp (Ux (Hq t) s0 (Hd i l)).1),.blk 135 (Gp (Ux (Hq t) s0 (Hd i l)).2),.blk 74 (ta t)]) (λi=>l.length-i) (λi=>i<=l.length) 0 (Qi _) rfl (λ_ _=>rfl) (by rw [Lm]; rfl) λi hi=>?_
 by_cases hlt:i<l.length
 ·obtain ⟨x,hx⟩:=gxE (l:=l) (i:=i) hlt;have ed1:(Uy l).drop (i+1)=Uy (l.drop (i+1)):=by simp [Uy,Kg]
  have hdl:=Bb (l.drop (i+1));have hdl2:(l.drop (i+1)).length<=1000:=by rw [Jf]; omega
  rw [<-Qc1 l x i];refine go tt [.t (by simp [hcl]; omega),.x (B9 hx),.r 17 (eI (b:=((i+1:Nat):Int)) (by simp)),.i (i+1),.r 18 (Zfe ed1)] rfl (by simp [W9,Bb,eq_true (p:=∀ z,z∈Uy l->z.length=ti135.sz) (Qz6 l)]; omega) ?_;refine lp (S:=Nat) 4 (λL1 j=>(20,.v (.one (.int .i64 (j:Int))))::L1) (λj=>[.blk 135 (Gp (Ux (Hq t) s0 (prs l x i j)).1),.blk 135 (Gp (Ux (Hq t) s0 (prs l x i j)).2),.blk 74 (ta t),.blk 135 (Gp x)]) (λj=>(l.drop (i+1)).length-j) (λj=>j<=(l.drop (i+1)).length) 0 (Qi _) rfl (λ_ _=>rfl) rfl λj hj=>?_
  by_cases hltj:j<(l.drop (i+1)).length
  ·obtain ⟨y,hy⟩:=gxE (l:=(l.drop (i+1))) (i:=j) hltj;obtain ⟨s1,s2⟩:=hsc (prs l x i j) (Qzt hx);have cn:=Zgs (s:=Ux (Hq t) s0 (prs l x i j)) (m:=(x,y)) s1 s2 (hl x (Qc hx)) (hl y (Zh (Qc hy))) ht;rw [<-Qcp,<-Qc0 hy] at cn;refine go tt [.t (decide_eq_true (by omega)),.x (B9 hy),.c [0,1,2] cn] rfl (by simp [W9,-List.length_drop]; omega) ?_;exact rd (j+1) (by omega) hltj rfl
  ·have e:=Qg1 hx (Jg hltj);rw [e];refine go tt [.f (decide_eq_false (by omega))] rfl (by simp [W9,-List.length_drop]; omega) ?_;exact rd (i+1) (by omega) hlt rfl
 ·obtain rfl:i=l.length:=by omega
  exact ed tt [] [0,1,2] [.f (by simp [hcl])] rfl trivial
theorem Qqb {l:List Pt} {t:Tm} {s:Pt×Pt} (hl:∀ p∈l,Sc p.c) (hs:s.1∈l/\s.2∈l) (hn:l.length≤10) (ht:Va t):G6 Tryz.prog 174 [.one (pts l),.one (.ofn 178 [] [.ow 0 0,.ow 1 0,.ow 2 0,.ow 3 0])] [.blk 135 (Gp s.1),.blk 135 (Gp s.2),.blk 74 (ta t),.blk 83 [.orow 4 7 none],.row false 90 7 []] [] [.blk 135 (Gp s.1),.blk 135 (Gp s.2),.blk 74 (ta t),.blk 83 [.orow 4 7 none],.row false 90 7 (Gj (H9 (Hq t) s (Uv l)))]:=by
 have hcl:=Bb l;have hpk:∀ i,i<=l.length->(Hd i l).length<=100:=λi hi=>by
  have:=Dv i l;have:i*l.length<=10*10:=Zi (by omega) hn;omega
 show G6 Tryz.prog 174 [.one (.row (Uy l)),.one (.ofn 178 [] [.ow 0 0,.ow 1 0,.ow 2 0,.ow 3 0])] _ _ _;refine Gu Tryz.func174 rfl ?_;refine go tt [] rfl trivial ?_;refine lp (S:=Nat) 5 (λL1 i=>(10,.v (.one (.int .i64 (i:Int))))::L1) (λi=>[.blk 135 (Gp s.1),.blk 135 (Gp s.2),.blk 74 (ta t),.blk 83 [.orow 4 7 none],.row false 90 7 (Gj (H9 (Hq t) s (Hd i l)))]) (λi=>l.length-i) (λi=>i<=l.length) 0 (Qi _) rfl (λ_ _=>rfl) (by rw [Lm]; rfl) λi hi=>?_
 by_cases hlt:i<l.length
 ·obtain ⟨x,hx⟩:=gxE (l:=l) (i:=i) hlt;have ed1:(Uy l).drop (i+1)=Uy (l.drop (i+1)):=by simp [Uy,Kg]
  have hdl:=Bb (l.drop (i+1));have hdl2:(l.drop (i+1)).length<=10:=by rw [Jf]; omega
  rw [<-Qc1 l x i];refine go tt [.t (by simp [hcl]; omega),.x (B9 hx),.r 17 (eI (b:=((i+1:Nat):Int)) (by simp)),.i (i+1),.r 18 (Zfe ed1)] rfl (by simp [W9,Bb,eq_true (p:=∀ z,z∈Uy l->z.length=ti135.sz) (Qz6 l)]; omega) ?_;refine lp (S:=Nat) 6 (λL1 j=>(20,.v (.one (.int .i64 (j:Int))))::L1) (λj=>[.blk 135 (Gp s.1),.blk 135 (Gp s.2),.blk 74 (ta t),.blk 83 [.orow 4 7 none],.row false 90 7 (Gj (H9 (Hq t) s (prs l x i j))),.blk 135 (Gp x)]) (λj=>(l.drop (i+1)).length-j) (λj=>j<=(l.drop (i+1)).length) 0 (Qi _) rfl (λ_ _=>rfl) rfl λj hj=>?_
  by_cases hltj:j<(l.drop (i+1)).length
  ·obtain ⟨y,hy⟩:=gxE (l:=(l.drop (i+1))) (i:=j) hltj;have hdn:(H9 (Hq t) s (prs l x i j)).length<=1000000:=by
    refine Qa (Eh _ _ _) ?_;unfold prs;rw [Zc,Q4,Qy];have:=hpk i hi; omega
   have cn:=Zgo (s:=s) (m:=(x,y)) (L:=H9 (Hq t) s (prs l x i j)) (hl _ hs.1) (hl _ hs.2) (hl x (Qc hx)) (hl y (Zh (Qc hy))) ht hdn;have en1:(if Cf s (x,y)=true then H9 (Hq t) s (prs l x i j)++[Rt (Hq t) s.1 s.2 x y] else H9 (Hq t) s (prs l x i j))=H9 (Hq t) s (prs l x i (j+1)):=by
    rw [Qc0 hy];cases h:Cf s (x,y) with
    | true=>rw [if_pos rfl,Qni h]
    | false=>rw [if_neg (by decide),Qnh h]
   dsimp only at cn;rw [en1] at cn;refine go tt [.t (decide_eq_true (by omega)),.x (B9 hy),.c [0,1,2,3,4] cn] rfl (by simp [W9,-List.length_drop]; omega) ?_;exact rd (j+1) (by omega) hltj rfl
  ·have e:=Qg1 hx (Jg hltj);rw [e];refine go tt [.f (decide_eq_false (by omega))] rfl (by simp [W9,-List.length_drop]; omega) ?_;exact rd (i+1) (by omega) hlt rfl
 ·obtain rfl:i=l.length:=by omega
  exact ed tt [] [0,1,2,3,4] [.f (by simp [hcl])] rfl trivial
theorem Q0y {l:List Pt} {a:Tm} {c:Cr} {r1:List (List LV)} (hl:∀ p∈l,Sc p.c) (hn:l.length≤10) (ha:Va a):G6 Tryz.prog 99 [.one (.ow 0 0),.agg (ta a)] [.blk 82 (Ce c (Uy l) r1)] [.one (.row (Gj (P4 (Hq a) l)))] [.blk 82 (Ce c (Uy l) (Uy (Ie (Hq a) l)))]:=by
 have hcl:=Bb l;refine Gu Tryz.func99 rfl ?_;by_cases h2:l.length<2
 ·obtain ⟨e1,e2⟩:=Qes (Hq a) h2;rw [e1,e2];refine go tt [.c [] Qm0] rfl trivial ?_;refine nlc 0 13 rfl rfl rfl ?_;have hml:(l.map Gp).length=l.length:=Q4 _;exact ed tt [] [0] [.t (decide_eq_true (by omega))] rfl trivial
 ·obtain ⟨x,y,l',rfl⟩:=Qpk h2;obtain ⟨l,hle⟩:=nmE (x::y::l');have hx0:(Uy l)[0]? = some (Gp x):=by rw [hle]; rfl
  have hy0:(Uy l)[1]? = some (Gp y):=by rw [hle]; rfl
  have hxl:x∈l:=by rw [hle]; simp
  have hyl:y∈l:=by rw [hle]; simp
  have eB:Ie (Hq a) (x::y::l')=[(Ux (Hq a) (x,y) (Uv l)).1,(Ux (Hq a) (x,y) (Uv l)).2]:=by rw [hle]; rfl
  have eC:P4 (Hq a) (x::y::l')=H9 (Hq a) (Ux (Hq a) (x,y) (Uv l)) (Uv l):=by rw [hle]; rfl
  rw [eB,eC];rw [<-hle] at hl hn h2 hcl ⊢;have c1:=Qqa (t:=a) (s0:=(x,y)) hl ⟨hxl,hyl⟩ (by omega) ha;obtain ⟨n1,n2⟩:=Rz (Hq a) (l:=l) (Uv l) (x,y) ⟨hxl,hyl⟩ (Hh _ _);generalize Ux (Hq a) (x,y) (Uv l)=s at *;have c2:=Qqb (t:=a) (s:=s) hl ⟨n1,n2⟩ hn ha;have hml:(l.map Gp).length=l.length:=Q4 _;exact ed tt [5] [0] [.c [] Qm0,.f (decide_eq_false (by omega)),.x hx0,.x hy0,.c [2,3,1] c1,.oc 8 0 90 7,.c [2,3,1,4,5] c2] rfl trivial
theorem Q0x {l:List Pt} {a:Tm} (hl:∀ p∈l,Sc p.c) (hn:l.length≤10) (ha:Va a):G6 Tryz.prog 99 [.one (.ow 0 0),.agg (ta a)] [.blk 82 (crz (.row (Uy l)) .nils)] [.one (.row (Gj (P4 (Hq a) l)))] [.blk 82 (crz (.row (Uy l)) (.row (Uy (Ie (Hq a) l))))]:=by
 have hcl:=Bb l;refine Gu Tryz.func99 rfl ?_;by_cases h2:l.length<2
 ·obtain ⟨e1,e2⟩:=Qes (Hq a) h2;rw [e1,e2];refine go tt [.c [] Qm0] rfl trivial ?_;refine nlc 0 13 rfl rfl rfl ?_;have hml:(l.map Gp).length=l.length:=Q4 _;exact ed tt [] [0] [.t (decide_eq_true (by omega))] rfl trivial
 ·obtain ⟨x,y,l',rfl⟩:=Qpk h2;obtain ⟨l,hle⟩:=nmE (x::y::l');have hx0:(Uy l)[0]? = some (Gp x):=by rw [hle]; rfl
  have hy0:(Uy l)[1]? = some (Gp y):=by rw [hle]; rfl
  have hxl:x∈l:=by rw [hle]; simp
  have hyl:y∈l:=by rw [hle]; simp
  have eB:Ie (Hq a) (x::y::l')=[(Ux (Hq a) (x,y) (Uv l)).1,(Ux (Hq a) (x,y) (Uv l)).2]:=by rw [hle]; rfl
  have eC:P4 (Hq a) (x::y::l')=H9 (Hq a) (Ux (Hq a) (x,y) (Uv l)) (Uv l):=by rw [hle]; rfl
  rw [eB,eC];rw [<-hle] at hl hn h2 hcl ⊢;have c1:=Qqa (t:=a) (s0:=(x,y)) hl ⟨hxl,hyl⟩ (by omega) ha;obtain ⟨n1,n2⟩:=Rz (Hq a) (l:=l) (Uv l) (x,y) ⟨hxl,hyl⟩ (Hh _ _);generalize Ux (Hq a) (x,y) (Uv l)=s at *;have c2:=Qqb (t:=a) (s:=s) hl ⟨n1,n2⟩ hn ha;have hml:(l.map Gp).length=l.length:=Q4 _;exact ed tt [5] [0] [.c [] Qm0,.f (decide_eq_false (by omega)),.x hx0,.x hy0,.c [2,3,1] c1,.oc 8 0 90 7,.c [2,3,1,4,5] c2] rfl trivial
theorem Zgg {T:Nat} {t:Rat} {Bc:Tm->List Ct} {Br:Tm->List (List LV)} {r0:List (List LV)} (ht:Qs 400000 t) (hB:BuildOk Bc)
 (hb:∀ a c r1,Va a->CrOk c->G6 Tryz.prog 99 [.one (.ow 0 0),.agg (ta a)] [.blk T (Ce c r0 r1)] [.one (.row (Gj (Bc a)))] [.blk T (Ce c r0 (Br a))])
 {K:Nat} {c c':Cr} {r1 r1':List (List LV)} {n:Int} (hc:CrOk c) (hev:0<=c.ev/\c.ev+K<=1000000000000000000) (h:Uq c.now t<=0) (hg:goF Bc Br t K c r1 0=some (c',r1',n)) :
 G6 Tryz.prog 97 [.one (.ow 0 0),.agg (rl t),.one (.ofn 99 [.ow 0 0] [])] [.blk T (Ce c r0 r1)] [.one (.int .i64 n),.one (.int .i64 0)] [.blk T (Ce c' r0 r1')]:=by
 have qt:Qb t:=ht.mono (by decide);have c1:=Qhm hc.n.tb qt;refine Gu Tryz.func97 rfl ?_;refine go tt [.c [0] (Qt6 hc.n),.c [] c1,.f (by simpa using h)] rfl trivial ?_;refine lp (S:=Nat×Cr×List (List LV)×Int) 2 (λL1 s=>(8,.v (.one (.int .i64 s.2.2.2)))::L1) (λs=>[.blk T (Ce s.2.1 r0 s.2.2.1),.blk 72 (rl t)]) (λs=>s.1) (λs=>CrOk s.2.1/\(0<=s.2.1.ev/\s.2.1.ev+s.1<=1000000000000000000)/\(0<=s.2.2.2/\s.2.2.2+s.1<=1000000000000000000)/\goF Bc Br t s.1 s.2.1 s.2.2.1 s.2.2.2=some (c',r1',n)) (K,c,r1,0) ⟨hc,hev,⟨Int.le_refl 0,by dsimp only; omega⟩,hg⟩ rfl (λ_ _=>rfl) rfl λ⟨k,x,r,m⟩ ⟨j1,j2,j3,j4⟩=>?_
 dsimp only at j1 j2 j3 j4 ⊢;cases k with
 | zero=>cases j4
 |
  succ k =>
  simp only [goF] at j4;obtain ⟨ws,w1,j4⟩:=Qe.1 j4;obtain ⟨o,o1,j4⟩:=Qe.1 j4;have cn:=Qmz (T:=T) (r0:=r0) (r1:=r) j1 w1 o1;have ca:=Ze3 (Ub t.num) (Ub (t.den:Int)) (Qa ht.1 (by decide)) (Qa ht.2 (by decide)) (by rw [Az]; exact ht.mono (by decide));rw [Az] at ca;cases o with
  |
   none =>
   injection j4 with j4; injection j4 with e1 j4; injection j4 with e2 e3;subst e1; subst e2; subst e3;exact ed tt [] [0] [.c [0] cn,.g 25 true rfl,.t rfl,.c [] ca] rfl trivial
  |
   some a =>
   have ha:=Zhx j1 w1 o1;dsimp only at j4;have cc:=Qhm ha.tb qt;by_cases h0:0<Uq a t
   ·rw [if_pos h0] at j4;injection j4 with j4; injection j4 with e1 j4; injection j4 with e2 e3;subst e1; subst e2; subst e3;exact ed tt [] [0] [.c [0] cn,.g 25 false rfl,.c [] cc,.t (by simpa using h0),.c [] ca] rfl trivial
   ·rw [if_neg h0] at j4;obtain ⟨w2,l1,j4⟩:=Qe.1 j4;have j1':=Qac j1 w1;have cl:=Ee (b:=a) (l:=[]) ha.tb (λt ht=>by cases ht) (by decide) rfl;have cb:=hb a { x with l:=ws } r ha j1';have cy:=Zax (T:=T) (r0:=r0) (r1:=Br a) j1' ha (hB.p a ha) (hB.n a ha) l1;have hf:decide (0<Uq a t)=false:=by simpa using h0
    refine go tt [.c [0] cn,.g 25 false rfl,.c [] cc,.f hf,.c [] cl,.c [0] cb,.c [0] cy] rfl (by simp [W9]; omega) ?_;exact rd (k,⟨a,w2,x.ev+1⟩,Br a,m+1) (by dsimp only; omega) ⟨lay_ok _ j1' ha (hB.p a ha) (hB.n a ha) l1,by dsimp only; omega,by dsimp only; omega,j4⟩ rfl
end Orr
namespace Orr
open Go Go.Proofs
set_option maxRecDepth 10000
theorem Zbe {p q:List Int} (hp:Bd 19000000 p) (hq:Bd 19000000 q) (hlp:p.length<=1000000) (hlq:q.length<=1000000):Ua Tryz.prog 143 [.one (rp (zp p)),.one (rp (zp q))] [.one (rp (zp (Qat p q)))]:=by
 have h:=Quh (Ig (W8 hp (by decide)) (by decide)) (Ig (W8 hq (by decide)) (by decide)) (by rw [Tq]; exact hlp) (by rw [Tq]; exact hlq);rwa [Qz1] at h
theorem Qag {a b:Crv} (ha:Rs a) (hb:Rs b):Bd 400008 (Fq a b)/\(Fq a b).length<=31:=by
 have h1:=Ql9 ha hb;have h2:=Qlz ha hb;have:=Qn4 h1.2; have:=Qn4 h2.2;exact ⟨W8 (Qb0 (Qxd h1.1 h1.2) (Qxd h2.1 h2.2)) (by omega),Qa (I9 _ _) (by omega)⟩
theorem Qqi {a b:Crv} (ha:Rs a) (hb:Rs b):Ua Tryz.prog 339 [.agg (rcl a),.agg (rcl b)] [.one (rp (zp (Fq a b)))]:=by
 have h1:=Ql9 ha hb;have h2:=Qlz ha hb;have l1:=Qn4 h1.2;have l2:=Qn4 h2.2;exact w tt Tryz.func339 rfl [.c [] (Q4y ha hb),.c [] (Q4t ha hb),.c [] (Qm8 (p:=Gf a b) (q:=Gf a b) (by omega) (by omega) h1.1 h1.1 (by decide)),.c [] (Qm8 (p:=Ge a b) (q:=Ge a b) (by omega) (by omega) h2.1 h2.1 (by decide)),.c [] (Zbe (p:=Ff (Gf a b) (Gf a b)) (q:=Ff (Ge a b) (Ge a b)) (W8 (Qxd h1.1 h1.2) (by decide)) (W8 (Qxd h2.1 h2.2) (by decide)) (by omega) (by omega))] rfl rfl trivial
theorem Q9p {x:Int} (h:x≠0):Ue [x]:=by unfold Ue; simp [trim,h]
theorem Q7u {x y:Int} (hx:x≠0) (hy:y≠0):Ut [x] y=[x*y]:=by
 have h:=Q9p (Xp hx hy);exact h
theorem Qgh {x y:Int} (hx:x≠0) (hy:y≠0) (bx:Uj x<=9000000) (b_y:Uj y<=9000000):Ua Tryz.prog 141 [.one (rp (zp [x])),.one (rp (zp [y]))] [.one (rp (zp [x*y]))]:=by
 have h:=Qa6 (p:=[x]) (d:=y) (Q9p hx) hy (Zjf bx) b_y (by show 1<=1000; decide);rwa [Q7u hx hy] at h
theorem Qgt {a b:Int} (ha:Uj a<=100000) (hb:Uj b<=100000):Uj (a*b)<=200000/\Uj ((a*b)*(a*b))<=400000:=by
 have h1:=Uw a b; have h2:=Uw (a*b) (a*b); omega
theorem Qsj {a b c d:Crv} (ha:Rs a) (hb:Rs b) (hc:Rs c) (hd:Rs d):Bd 800009 (Uz a b c d)/\(Uz a b c d).length<=31:=by
 have h1:=Qag hc hd;have h2:=Qag ha hb;have e1:=(Qgt ha.c.d hb.c.d).2;have e2:=(Qgt hc.c.d hd.c.d).2;have:=Ul (Fq c d) ((a.d*b.d)*(a.d*b.d)); have:=Ul (Fq a b) ((c.d*d.d)*(c.d*d.d));exact ⟨W8 (Pg (Ur h1.1 e1) (Ur h2.1 e2)) (by omega),Qa (Ry _ _) (by omega)⟩
theorem Qf3 (a b:Crv):Ue (Fq a b):=Us _ _
theorem Qhz {a b c d:Crv} (ha:Rs a) (hb:Rs b) (hc:Rs c) (hd:Rs d):Ua Tryz.prog 325 [.agg (rcl a),.agg (rcl b),.agg (rcl c),.agg (rcl d)] [.one (rp (zp (Uz a b c d)))]:=by
 have h1:=Qag hc hd;have h2:=Qag ha hb;have e1:=Qgt ha.c.d hb.c.d;have e2:=Qgt hc.c.d hd.c.d;have n1:=Xp ha.dn hb.dn;have n2:=Xp hc.dn hd.dn;have m1:=Qgh ha.dn hb.dn (Qa ha.c.d (by decide)) (Qa hb.c.d (by decide));have m2:=Qgh hc.dn hd.dn (Qa hc.c.d (by decide)) (Qa hd.c.d (by decide));obtain ⟨x,hx⟩:=nmE (a.d*b.d);obtain ⟨y,hy⟩:=nmE (c.d*d.d);have eF:Uz a b c d=To (Ut (Fq c d) (x*x)) (Ut (Fq a b) (y*y)):=by rw [hx,hy]; rfl
 rw [eF];rw [<-hx] at e1 n1 m1;rw [<-hy] at e2 n2 m2;have l1:=Ul (Fq c d) (x*x);have l2:=Ul (Fq a b) (y*y);have m3:=Qgh n1 n1 (Qa e1.1 (by decide)) (Qa e1.1 (by decide));have m4:=Qgh n2 n2 (Qa e2.1 (by decide)) (Qa e2.1 (by decide));have m5:=Qa6 (p:=Fq c d) (d:=x*x) (Qf3 c d) (Xp n1 n1) (W8 h1.1 (by decide)) (Qa e1.2 (by decide)) (by omega);have m6:=Qa6 (p:=Fq a b) (d:=y*y) (Qf3 a b) (Xp n2 n2) (W8 h2.1 (by decide)) (Qa e2.2 (by decide)) (by omega);have m7:=Qm7 (p:=Ut (Fq c d) (x*x)) (q:=Ut (Fq a b) (y*y)) (W8 (Ur h1.1 e1.2) (by decide)) (W8 (Ur h2.1 e2.2) (by decide)) (by omega) (by omega);exact w tt Tryz.func325 rfl [.c [] (Iv ha),.c [] (Iv hb),.c [] (Iv hc),.c [] (Iv hd),.c [] m1,.c [] m2,.c [] (Qqi hc hd),.c [] m3,.c [] m5,.c [] (Qqi ha hb),.c [] m4,.c [] m6,.c [] m7] rfl rfl trivial
theorem Qko {a b c d:Crv} {q:Rat} {cs:List (List Int)} (ha:Rs a) (hb:Rs b) (hc:Rs c) (hd:Rs d) (hq:Qs 1000000 q):Ua Tryz.prog 15 [.one (rp (zp (Uz a b c d))),.agg (aq q cs)] [.one (.int .i64 (Lx (Uz a b c d) q))]:=by
 have h:=Qsj ha hb hc hd;exact Qqd (W8 h.1 (by decide)) (Qa h.2 (by decide)) hq
theorem Qu4 (p:List Int) (q:Rat):Ms (Im q) p=Lx p q:=rfl
theorem Q4w {a b u v:Pt} {q:Rat} {c:List (List Int)} (ha:Rs a.c) (hb:Rs b.c) (hu:Rs u.c) (hv:Rs v.c) (hq:Qs 1000000 q):Ua Tryz.prog 321 [.one (.int .i64 5),.agg (aq q c),.one (.row [D6 a,D6 b,D6 u,D6 v])] [.agg (rct (Rt (Im q) a b u v)),.one (.bool true)]:=by
 have x0:[D6 a,D6 b,D6 u,D6 v][0]? = some (D6 a):=rfl;have x1:[D6 a,D6 b,D6 u,D6 v][1]? = some (D6 b):=rfl;have x2:[D6 a,D6 b,D6 u,D6 v][2]? = some (D6 u):=rfl;have x3:[D6 a,D6 b,D6 u,D6 v][3]? = some (D6 v):=rfl;have cf:=Qhz ha hb hu hv;have cg:=Qko (cs:=c) ha hb hu hv hq;have e:rct (Rt (Im q) a b u v)=[.int .i64 5,.int .i64 a.id,.int .i64 b.id,.int .i64 u.id,.int .i64 v.id,rp (zp (Uz a.c b.c u.c v.c)),.int .i64 (Lx (Uz a.c b.c u.c v.c) q),.row [],.bool false]:=by simp only [Rt,rct,Qu4]
 rw [e];generalize Uz a.c b.c u.c v.c=F at *;refine Gu Tryz.func321 rfl ?_;refine go tt [.g 14 false rfl,.g 18 false rfl,.x (l:=[[.int .i64 0],[.int .i64 2],[.int .i64 2],[.int .i64 3],[.int .i64 4],[.int .i64 4]]) (i:=5) (xs:=[.int .i64 4]) rfl,.f rfl] rfl trivial ?_;refine lp (S:=Nat) 3 (λL1 i=>(33,.v (.one (.int .i64 (i:Int))))::L1) (λi=>[.blk 37 (aq q c),.blk 272 rzc,.blk 272 [.int .i64 5,.int .i64 (if 0<i then a.id else 0),.int .i64 (if 1<i then b.id else 0),.int .i64 (if 2<i then u.id else 0),.int .i64 (if 3<i then v.id else 0),.nils,.int .i64 0,.nils,.bool false]]) (λi=>4-i) (λi=>i<=4) 0 (by decide) rfl (λ_ _=>rfl) rfl λi hi=>?_
 rcases (show i=0\/i=1\/i=2\/i=3\/i=4 by omega) with rfl | rfl | rfl | rfl | rfl
 ·exact go tt [.t rfl,.x x0,.i 0] rfl (by simp [W9]) (rd 1 (by omega) (by omega) rfl)
 ·exact go tt [.t rfl,.x x1,.i 1] rfl (by simp [W9]) (rd 2 (by omega) (by omega) rfl)
 ·exact go tt [.t rfl,.x x2,.i 2] rfl (by simp [W9]) (rd 3 (by omega) (by omega) rfl)
 ·exact go tt [.t rfl,.x x3,.i 3] rfl (by simp [W9]) (rd 4 (by omega) (by omega) rfl)
 exact en tt [.f rfl,.f rfl,.f rfl,.f rfl,.f rfl,.x x0,.x x1,.x x2,.x x3,.c [] cf,.c [] cg] rfl rfl trivial
theorem Zbn {a b u v:Pt} {q:Rat} {c:List (List Int)} (ha:Rs a.c) (hb:Rs b.c) (hu:Rs u.c) (hv:Rs v.c) (hq:Qs 1000000 q):Ua Tryz.prog 292 [.one (.int .i64 5),.agg (aq q c),.one (.row [D6 a,D6 b,D6 u,D6 v])] [.agg (rct (Rt (Im q) a b u v))] :=
 w tt Tryz.func292 rfl [.c [] (Q4w ha hb hu hv hq)] rfl rfl trivial
abbrev Q0a:List LV:=[.nils,.nils,.nils,.nils,.bool false,.nils,.int .i64 0]
abbrev Q8v:List LV:=[.row [],.row [],.row [],.row [],.bool false,.row [],.int .i64 0]
theorem Qqh {l:List Pt} {q:Rat} {cs:List (List Int)} (hn:l.length<=1000) (h:l.length<2):Ua Tryz.prog 296 [.one (.row (Fg l)),.agg (aq q cs)] [.agg Q8v,.agg Q8v,.one (.bool false)]:=by
 have c1:=Qgi (l:=l) (by omega);have hML:(Fg (Gg Sx l)).length=l.length:=by rw [S9,Pm]
 exact w tt Tryz.func296 rfl [.c [] c1,.t (decide_eq_true (by omega))] rfl rfl trivial
theorem Qum {l:List Pt} {q:Rat} {cs:List (List Int)} {a b:Pt} {M':List Pt} (hl:∀ p∈l,Rs p.c) (hn:l.length≤1000) (hq:Qs 1000000 q) (hM:Gg Sx l=a::b::M'):Ua Tryz.prog 296 [.one (.row (Fg l)),.agg (aq q cs)] [.agg (D6 (Ux (Im q) (a,b) (Uv (a::b::M'))).1),.agg (D6 (Ux (Im q) (a,b) (Uv (a::b::M'))).2),.one (.bool true)]:=by
 have c1:=Qgi (l:=l) (by omega);have hML:(Gg Sx l).length=l.length:=Pm _ _;have hMl:∀ p∈Gg Sx l,Rs p.c:=λp hp=>hl p (E3.1 hp)
 have hx0:(Gg Sx l)[0]? = some a:=by rw [hM]; rfl
 have hx1:(Gg Sx l)[1]? = some b:=by rw [hM]; rfl
 have hM2:2<=(Gg Sx l).length:=by rw [hM]; simp
 rw [<-hM];obtain ⟨M,hM⟩:=nmE (Gg Sx l);rw [<-hM] at c1 hML hMl hx0 hx1 hM2 ⊢;have hcl:=S9 M;have hs:(a,b).1∈M/\(a,b).2∈M:=⟨Qc hx0,Qc hx1⟩;have hsc:∀ ps:List (Pt×Pt),(∀ m∈ps,m.1∈M/\m.2∈M)->Rs (Ux (Im q) (a,b) ps).1.c/\Rs (Ux (Im q) (a,b) ps).2.c:=λps h=>by
  obtain ⟨h1,h2⟩:=Rz (Im q) ps (a,b) hs h;exact ⟨hMl _ h1,hMl _ h2⟩
 refine Gu Tryz.func296 rfl ?_;refine go tt [.c [] c1,.f (decide_eq_false (by omega)),.x (G5 hx0),.x (G5 hx1)] rfl (by simp [W9] <;> omega) ?_;refine lp (S:=Nat) 5 (λL1 i=>(26,.v (.one (.int .i64 (i:Int))))::L1) (λi=>[.blk 37 (aq q cs),.blk 57 Q0a,.blk 57 Q0a,.blk 57 (D6 (Ux (Im q) (a,b) (Hd i M)).1),.blk 57 (D6 (Ux (Im q) (a,b) (Hd i M)).2)]) (λi=>M.length-i) (λi=>i<=M.length) 0 (Qi _) rfl (λ_ _=>rfl) (by rw [Lm]; rfl) λi hi=>?_
 by_cases hlt:i<M.length
 ·obtain ⟨x,hx⟩:=gxE (l:=M) (i:=i) hlt;rw [<-Qc1 M x i];refine go tt [.t (decide_eq_true (by omega)),.r 30 (eI (b:=((i+1:Nat):Int)) (by simp))] rfl (by simp [W9] <;> omega) ?_;refine lp (S:=Nat) 5 (λL1 j=>(10,.v (.one (.int .i64 ((i+1+j:Nat):Int))))::L1) (λj=>[.blk 37 (aq q cs),.blk 57 Q0a,.blk 57 Q0a,.blk 57 (D6 (Ux (Im q) (a,b) (prs M x i j)).1),.blk 57 (D6 (Ux (Im q) (a,b) (prs M x i j)).2)]) (λj=>(M.drop (i+1)).length-j) (λj=>j<=(M.drop (i+1)).length) 0 (Qi _) rfl (λ_ _=>rfl) rfl λj hj=>?_
  have hdl:(M.drop (i+1)).length=M.length-(i+1):=Jf;by_cases hltj:j<(M.drop (i+1)).length
  ·obtain ⟨y,hy⟩:=gxE (l:=(M.drop (i+1))) (i:=j) hltj;have hy':M[i+1+j]? = some y:=by rw [<-hy,Z9]
   obtain ⟨s1,s2⟩:=hsc (prs M x i j) (Qzt hx);have hxs:=hMl x (Qc hx);have hys:=hMl y (Qc hy');have ef:=Qc0 (x:=x) hy;have en1:=Qcp (Im q) (a,b) (prs M x i j) (x,y);rw [<-ef] at en1;obtain ⟨s,hs'⟩:=nmE (Ux (Im q) (a,b) (prs M x i j));rw [<-hs'] at s1 s2 en1 ⊢;have cF:=Qhz s1 s2 hxs hys;have cA:=Qko (cs:=cs) s1 s2 hxs hys hq;have ep:Lx (Uz s.1.c s.2.c x.c y.c) q<0->Tg (Im q) s (x,y)=(x,y):=λh=>if_pos h
   have en:¬Lx (Uz s.1.c s.2.c x.c y.c) q<0->Tg (Im q) s (x,y)=s:=λh=>if_neg h
   generalize Uz s.1.c s.2.c x.c y.c=F at *;by_cases hg:Lx F q<0
   ·have e:=ep hg;rw [e] at en1;refine go tt [.t (decide_eq_true (by omega)),.x (G5 hx),.x (G5 hy'),.c [] cF,.c [] cA,.t (decide_eq_true hg),.x (G5 hx),.x (G5 hy')] rfl (by simp [W9] <;> omega) ?_;exact rd (j+1) (by omega) hltj (by rw [en1]; rfl)
   ·have e:=en hg;rw [e] at en1;refine go tt [.t (decide_eq_true (by omega)),.x (G5 hx),.x (G5 hy'),.c [] cF,.c [] cA,.f (decide_eq_false hg)] rfl (by simp [W9] <;> omega) ?_;exact rd (j+1) (by omega) hltj (by rw [en1]; rfl)
  ·have e:=Qg1 hx (Jg hltj);rw [e];refine go tt [.f (decide_eq_false (by omega))] rfl (by simp [W9] <;> omega) ?_;exact rd (i+1) (by omega) hlt rfl
 ·obtain rfl:i=M.length:=by omega
  exact en tt [.f (decide_eq_false (by omega))] rfl rfl trivial
def Zh4 (q:Rat):List Pt->List Ct
 | a::b::M=>Gg Mm (H9 (Im q) (Ux (Im q) (a,b) (Uv (a::b::M))) (Uv (a::b::M)))
 | _=>[]
def Ln (q:Rat) (l:List Pt):List Ct:=Zh4 q (Gg Sx l)
theorem Q2d (q:Rat) {l:List Pt} (hn:l.length<=10):(Ln q l).length<=1000000:=by
 unfold Ln;have hs:(Gg Sx l).length=l.length:=Pm _ _;generalize Gg Sx l=M at *
 match M,hs with
 | [],_=>exact Qi _
 | [_],_=>exact Qi _
 |
  a::b::M,hs =>
  show (Gg Mm _).length<=_;rw [Pm];have h1:=Eh (Im q) (Ux (Im q) (a,b) (Uv (a::b::M))) (Uv (a::b::M));have h2:=Dv (a::b::M).length (a::b::M);have h3:(a::b::M).length*(a::b::M).length<=10*10:=Zi (by omega) (by omega);have h4:(Uv (a::b::M)).length=(Hd (a::b::M).length (a::b::M)).length:=rfl;omega
theorem Qm9 {l:List Pt} {q:Rat} {cs:List (List Int)} (hl:∀ p∈l,Rs p.c) (hn:l.length≤10) (hq:Qs 1000000 q):Ua Tryz.prog 257 [.one (.row (Fg l)),.agg (aq q cs)] [.one (.row (Ro (Ln q l)))]:=by
 have hML:(Gg Sx l).length=l.length:=Pm _ _;by_cases h2:l.length<2
 ·have e:Ln q l=[]:=by
   unfold Ln
   match hm:Gg Sx l with
   | []=>rfl
   | [_]=>rfl
   | a::b::M=>rw [hm] at hML; simp at hML; omega
  rw [e];exact w tt Tryz.func257 rfl [.c [] (Qqh (cs:=cs) (q:=q) (by omega) h2),.t rfl] rfl rfl trivial
 obtain ⟨a,b,M',hM⟩:=Qpk (l:=Gg Sx l) (by omega);have c0:=Qum (cs:=cs) hl (by omega) hq hM;have c1:=Qgi (l:=l) (by omega);have hMl:∀ p∈Gg Sx l,Rs p.c:=λp hp=>hl p (E3.1 hp)
 have e:Ln q l=Gg Mm (H9 (Im q) (Ux (Im q) (a,b) (Uv (Gg Sx l))) (Uv (Gg Sx l))):=by unfold Ln; rw [hM]; rfl
 rw [e];rw [<-hM] at c0;have hab:a∈Gg Sx l/\b∈Gg Sx l:=by rw [hM]; exact ⟨by simp,by simp⟩
 obtain ⟨M,hM⟩:=nmE (Gg Sx l);rw [<-hM] at c0 c1 hML hMl hab ⊢;obtain ⟨s1,s2⟩:=Rz (Im q) (l:=M) (Uv M) (a,b) hab (Hh _ _);obtain ⟨s,hs⟩:=nmE (Ux (Im q) (a,b) (Uv M));rw [<-hs] at c0 s1 s2 ⊢;have hcl:=S9 M;have hpk:∀ i,i<=M.length->(Hd i M).length<=100:=λi hi=>by
  have:=Dv i M;have:i*M.length<=10*10:=Zi (by omega) (by omega);omega
 have hdn:∀ i j x,i<=M.length->(H9 (Im q) s (prs M x i j)).length<=1000:=λi j x hi=>by
  refine Qa (Eh _ _ _) ?_;unfold prs;rw [Zc,Q4,Qy,Jf];have:=hpk i hi; omega
 have hfin:(H9 (Im q) s (Uv M)).length<=1000000:=Qa (Eh _ _ _) (by have:=hpk M.length (Qk _); show (Hd M.length M).length<=_; omega);have c9:=Zbm (l:=H9 (Im q) s (Uv M)) hfin;refine Gu Tryz.func257 rfl ?_;refine go tt [.c [] c0,.f rfl,.c [] c1,.o 8 272 9] rfl trivial ?_;refine lp (S:=Nat) 4 (λL1 i=>(24,.v (.one (.int .i64 (i:Int))))::(8,.v (.one (.orow 3 9 none)))::L1) (λi=>[.blk 37 (aq q cs),.blk 57 (D6 s.1),.blk 57 (D6 s.2),.row false 272 9 (Ro (H9 (Im q) s (Hd i M)))]) (λi=>M.length-i) (λi=>i<=M.length) 0 (Qi _) rfl (λ_ _=>rfl) (by rw [Lm]; rfl) λi hi=>?_
 by_cases hlt:i<M.length
 ·obtain ⟨x,hx⟩:=gxE (l:=M) (i:=i) hlt;rw [<-Qc1 M x i];refine go tt [.t (decide_eq_true (by omega)),.r 28 (eI (b:=((i+1:Nat):Int)) (by simp))] rfl (by simp [W9] <;> omega) ?_;refine lp (S:=Nat) 4 (λL1 j=>(10,.v (.one (.int .i64 ((i+1+j:Nat):Int))))::(8,.v (.one (.orow 3 9 none)))::L1) (λj=>[.blk 37 (aq q cs),.blk 57 (D6 s.1),.blk 57 (D6 s.2),.row false 272 9 (Ro (H9 (Im q) s (prs M x i j)))]) (λj=>(M.drop (i+1)).length-j) (λj=>j<=(M.drop (i+1)).length) 0 (Qi _) rfl (λ_ _=>rfl) rfl λj hj=>?_
  have hdl:(M.drop (i+1)).length=M.length-(i+1):=Jf;by_cases hltj:j<(M.drop (i+1)).length
  ·obtain ⟨y,hy⟩:=gxE (l:=(M.drop (i+1))) (i:=j) hltj;have hy':M[i+1+j]? = some y:=by rw [<-hy,Z9]
   have hxs:=hMl x (Qc hx);have hys:=hMl y (Qc hy');have hll:=hdn i j x hi;have hrl:=A0 (H9 (Im q) s (prs M x i j));have ef:=Qc0 (x:=x) hy;have co:=Zbn (c:=cs) (hMl _ s1) (hMl _ s2) hxs hys hq;by_cases e1:x.id≠s.1.id
   ·have en1:=Qni (sg:=Im q) (s:=s) (m:=(x,y)) (ps:=prs M x i j) (by simp [Cf,e1]);rw [<-ef] at en1;have hm9:∀ z∈[rct (Rt (Im q) s.1 s.2 x y)],z.length=9:=λz hz=>by rw [Qt.1 hz]; rfl
    refine go tt [.t (decide_eq_true (by omega)),.x (G5 hx),.g 43 true (decide_eq_true e1),.t rfl,.x (G5 hx),.x (G5 hy'),.c [] co,.s (sz:=9) hm9] rfl (by simp [W9,hrl] <;> omega) ?_;exact rd (j+1) (by omega) hltj (by rw [en1]; simp [Ro]; rfl)
   by_cases e2:y.id≠s.2.id
   ·have en1:=Qni (sg:=Im q) (s:=s) (m:=(x,y)) (ps:=prs M x i j) (by simp [Cf,e2]);rw [<-ef] at en1;have hm9:∀ z∈[rct (Rt (Im q) s.1 s.2 x y)],z.length=9:=λz hz=>by rw [Qt.1 hz]; rfl
    refine go tt [.t (decide_eq_true (by omega)),.x (G5 hx),.g 43 false (decide_eq_false e1),.x (G5 hy'),.t (decide_eq_true e2),.x (G5 hx),.x (G5 hy'),.c [] co,.s (sz:=9) hm9] rfl (by simp [W9,hrl] <;> omega) ?_;exact rd (j+1) (by omega) hltj (by rw [en1]; simp [Ro]; rfl)
   ·have en1:=Qnh (sg:=Im q) (s:=s) (m:=(x,y)) (ps:=prs M x i j) (by simp [Cf,Decidable.not_not.1 e1,Decidable.not_not.1 e2]);rw [<-ef] at en1;refine go tt [.t (decide_eq_true (by omega)),.x (G5 hx),.g 43 false (decide_eq_false e1),.x (G5 hy'),.f (decide_eq_false e2)] rfl (by simp [W9] <;> omega) ?_;exact rd (j+1) (by omega) hltj (by rw [en1]; rfl)
  ·have e:=Qg1 hx (Jg hltj);rw [e];refine go tt [.f (decide_eq_false (by omega))] rfl (by simp [W9] <;> omega) ?_;exact rd (i+1) (by omega) hlt rfl
 ·obtain rfl:i=M.length:=by omega
  exact en tt [.f (decide_eq_false (by omega)),.c [] c9] rfl rfl (by simp [W9] <;> omega)
theorem Q07 {l:List Pt} {q:Rat} {cs:List (List Int)} (hl:∀ p∈l,Rs p.c) (hn:l.length≤10) (hq:Qs 1000000 q):Ua Tryz.prog 200 [.one (.int .i64 3),.one (.row (Fg l)),.agg (aq q cs)] [.one (.row (Ro (Ln q l)))] :=
 w tt Tryz.func200 rfl [.f rfl,.f rfl,.f rfl,.t rfl,.c [] (Qm9 hl hn hq)] rfl rfl trivial
theorem Qt1 {l:List Pt} {q:Rat} {cs:List (List Int)} (hl:∀ p∈l,Rs p.c) (hn:l.length≤10) (hq:Qs 1000000 q):Ua Tryz.prog 128 [.one (.int .i64 3),.one (.row (Fg l)),.agg (aq q cs)] [.one (.row (Ro (Ln q l)))] :=
 w tt Tryz.func128 rfl [.c [] (Q07 hl hn hq)] rfl rfl trivial
theorem Qug {M:List Pt} {q:Rat} {c:List (List Int)} (hM:∀ p∈M,Rs p.c) (hl:M.length≤10) (hq:Qs 1000000 q) (hC:Qw2 q c):G6 Tryz.prog 78 [.one (.ow 0 0)] [.blk 158 (plZ M q)] [] [.blk 158 (plB M q c (Ln q M))]:=by
 refine Gu Tryz.func78 rfl ?_;exact ed tt [] [0] [.c [] (Qqf hq hC),.c [] (Qt1 (cs:=c) hM hl hq),.c [] (Q4v (Q2d q hl))] rfl trivial
end Orr
namespace Orr
open Go Go.Proofs Orq
theorem Qs6 {x y:Int} (hx:-9223372036854775808<=x/\x<=9223372036854775807) (hy:-9223372036854775808<=y/\y<=9223372036854775807):Sc (Q0e x y):=⟨Crv.nml _,((Qqs hx hy).norm (by decide)).mono (by decide) (by decide)⟩
theorem Sc.pt {p:Pt} (h:Sc p.c):Q25 4294967294 1073741824 p:=⟨h.n,h.c.mono (by decide) (by decide)⟩
end Orr
namespace Orr
open Go Go.Proofs Orq
set_option maxRecDepth 10000
def bcP (l:List Pt) (a:Tm):List Ct:=P4 (Hq a) l
abbrev brP (l:List Pt) (a:Tm):List (List LV):=Uy (Ie (Hq a) l)
theorem Qxb {l:List Pt} {a:Tm}:∀ x∈bcP l a,x.p∈Qj3 l:=λx hx=>by
 match l,hx with
 |
  u::v::l',hx =>
  unfold bcP at hx;simp only [P4] at hx;obtain ⟨h3,h4⟩:=Rz (Hq a) (l:=u::v::l') (Uv (u::v::l')) (u,v) ⟨by simp,by simp⟩ (Hh _ _);obtain ⟨m,hm,rfl⟩:=Qd3 hx;obtain ⟨h1,h2⟩:=Hh _ _ m hm;rw [Qco];exact Qhe h3 h4 h1 h2
theorem Q3e {l:List Pt} (hl:∀ p∈l,Sc p.c) (hn:l.length≤10):BuildOk (bcP l) :=
 ⟨λ_ _ x hx=>Qby hl _ (Qxb x hx),λa _=>by
  have:=Ql1 (Hq a) l;have:l.length*l.length<=10*10:=Zi hn hn;show (P4 (Hq a) l).length<=1000;omega⟩
def Q3i (l:List Pt) (a:Tm):Cr:=⟨a,(Gv (bcP l a)).map fresh,0⟩
theorem Qxk {zs:List (List LV)} {qs l:List Pt} {x y x' y':LV} {n d:Int} (hz:IsPts 4294967294 1073741824 zs qs) (hq:qs.length≤6) (hnl:Tn [] qs=(l,0)) (hl:∀ p∈l,Sc p.c) (hn:l.length≤10) (h1:Hr x y n) (h2:Hr x' y' d) (bn:Uj n≤4294967295) (bd:Uj d≤4294967295) (ht:Qs 400000 (Fx n d)) :
 G6 Tryz.prog 79 [.agg [x,y,x',y'],.one (.row zs)] [] [.one (.ow 0 0),.one (.int .i64 0)] [.blk 82 (Ce (Q3i l (tq (Fx n d))) (Uy l) (brP l (tq (Fx n d))))]:=by
 have cn:=Zjk hz hq;rw [hnl] at cn;have co:=Ze3 h1 h2 bn bd (ht.mono (by decide));have hv:=Q2u ht;have hB:=Q3e hl hn;have cb:=Q0x hl hn hv;have cg:=Q0w (T:=82) (r0:=Uy l) (r1:=brP l (tq (Fx n d))) hv (hB.p _ hv) (hB.n _ hv);obtain ⟨b,l1,rfl,rfl,_⟩:=h1;obtain ⟨b',l2,rfl,rfl,_⟩:=h2;refine Gu Tryz.func79 rfl ?_;exact ed tt [] [2] [.c [] cn,.f rfl,.c [] co,.c [2] cb,.c [2] cg] rfl trivial
theorem Qxj {t:Rat} {l:List Pt} {K:Nat} {c c':Cr} {r1 r1':List (List LV)} {n:Int} (ht:Qs 400000 t) (hl:∀ p∈l,Sc p.c) (hn:l.length≤10) (hc:CrOk c) (hev:0≤c.ev/\c.ev+K≤1000000000000000000) (h:Uq c.now t≤0) (hg:goF (bcP l) (brP l) t K c r1 0=some (c',r1',n)) :
 G6 Tryz.prog 31 [.one (.ow 0 0),.agg (rl t)] [.blk 82 (Ce c (Uy l) r1)] [.one (.int .i64 n),.one (.int .i64 0)] [.blk 82 (Ce c' (Uy l) r1')]:=by
 have cg:=Zgg (T:=82) (r0:=Uy l) ht (Q3e hl hn) (λa c r1 ha _=>Q0y (c:=c) (r1:=r1) hl hn ha) hc hev h hg;refine Gu Tryz.func31 rfl ?_;exact ed tt [] [0] [.c [] (Ad (ht.mono (by decide))),.c [0] cg] rfl trivial
theorem Qm2 {c:Cr} {r0:List (List LV)} {a b:Pt}:G6 Tryz.prog 100 [.one (.ow 0 0)] [.blk 82 (Ce c r0 (Uy [a,b]))] [.one (.int .i64 a.id),.one (.int .i64 b.id),.one (.bool true)] [.blk 82 (Ce c r0 (Uy [a,b]))]:=by
 refine Gu Tryz.func100 rfl ?_;exact ed tt [] [0] [.f rfl,.x (l:=Uy [a,b]) (i:=0) (xs:=Gp a) rfl,.x (l:=Uy [a,b]) (i:=1) (xs:=Gp b) rfl] rfl trivial
theorem Qp8 {c:Cr} {r0:List (List LV)}:G6 Tryz.prog 100 [.one (.ow 0 0)] [.blk 82 (Ce c r0 [])] [.one (.int .i64 0),.one (.int .i64 0),.one (.bool false)] [.blk 82 (Ce c r0 [])]:=by
 refine Gu Tryz.func100 rfl ?_;exact ed tt [] [0] [.t rfl] rfl trivial
theorem Q7j (sg:List Int->Int) (p q:Pt):Ie sg [p,q]=[p,q]/\P4 sg [p,q]=[]:=by
 have hp:Uv [p,q]=[(p,q)]:=rfl;have h:Ux sg (p,q) (Uv [p,q])=(p,q):=by
  rw [hp,Cv];have e:Tg sg (p,q) (p,q)=(p,q):=by rcases Qae sg (p,q) (p,q) with e | e <;> exact e
  rw [e]; rfl
 constructor
 ·show [(Ux sg (p,q) (Uv [p,q])).1,(Ux sg (p,q) (Uv [p,q])).2]=[p,q];rw [h]
 ·show H9 sg (Ux sg (p,q) (Uv [p,q])) (Uv [p,q])=[];rw [h,hp];have e:=Qnh (sg:=sg) (s:=(p,q)) (m:=(p,q)) (ps:=[]) (by simp [Cf]);rw [Yc] at e;rw [e]; rfl
theorem Qkv:Ua Tryz.prog 35 [] [.one (.bool true)]:=by
 have hq:Qs 400000 (Fx 0 0):=⟨by decide,by decide⟩;have ez:Fx 0 0=0:=by decide
 obtain ⟨A,hA⟩:∃ A:Pt,A=⟨Q0e 0 0,3⟩:=⟨_,rfl⟩;obtain ⟨B,hB⟩:∃ B:Pt,B=⟨Q0e 5 1,2⟩:=⟨_,rfl⟩;have sA:Sc A.c:=by rw [hA]; exact Qs6 (by decide) (by decide)
 have sB:Sc B.c:=by rw [hB]; exact Qs6 (by decide) (by decide)
 have hsc:∀ p∈[B,A],Sc p.c:=λp hp=>by
  rcases Qo.1 hp with rfl | hp
  ·exact sB
  ·rw [Qt.1 hp]; exact sA
 have zp:IsPts 4294967294 1073741824 (Uy [A,B]) [A,B]:=Qyv λp hp=>by
  rcases Qo.1 hp with rfl | hp
  ·exact sA.pt
  ·rw [Qt.1 hp]; exact sB.pt
 have hnl:Tn [] [A,B]=([B,A],0):=by rw [hA,hB]; rfl
 have cn:=Qxk zp (by show 2<=6; decide) hnl hsc (by show 2<=10; decide) Ny Ny (by decide) (by decide) hq;rw [ez] at cn;have hv:Va (tq 0):=Q2u (by rw [<-ez]; exact hq);obtain ⟨e1,e2⟩:=Q7j (Hq (tq 0)) B A;have hbr:brP [B,A] (tq 0)=Uy [B,A]:=by unfold brP; rw [e1]
 have hbc:Q3i [B,A] (tq 0)=⟨tq 0,[],0⟩:=by unfold Q3i bcP; rw [e2]; rfl
 rw [hbr,hbc] at cn;have hok:CrOk ⟨tq 0,[],0⟩:=⟨hv,λw hw=>(by cases hw),by decide⟩;have cc:=Qp7 (T:=82) (r0:=Uy [B,A]) (r1:=Uy [B,A]) hok;have ci:=Qm2 (c:=⟨tq 0,[],0⟩) (r0:=Uy [B,A]) (a:=B) (b:=A);have i1:A.id=3:=by rw [hA]
 have i2:B.id=2:=by rw [hB]
 rw [i1,i2] at ci;have cs1:=Qxm (x:=0) (y:=0) (by decide) (by decide);have cs2:=Qxm (x:=5) (y:=1) (by decide) (by decide);subst hA; subst hB;refine Gu Tryz.func35 rfl ?_;exact en tt [.c [] cs1,.c [] cs2,.c [0] cn,.g 18 false rfl,.f rfl,.c [0] ci,.g 29 true rfl,.g 33 true rfl,.g 37 true rfl,.c [0] cc] rfl rfl trivial

end Orr
namespace Orr
open Go Go.Proofs
set_option maxRecDepth 10000
theorem Cs.up {s n s' n':Nat} {k:Crv} (h:Cs s n k) (hs:s<=s') (hn:n<=n'):Cs s' n' k:=⟨W8 h.x hs,W8 h.y hs,Qa h.d hs,Qa h.lx hn,Qa h.ly hn⟩
end Orr
namespace Orr
open Go Go.Proofs Orq
set_option maxRecDepth 10000
theorem Q1f {l m:List Pt} (h:l.Perm m) (hd:Lr l):Lr m:=(h.pairwise_iff (λh=>λe=>h e.symm)).1 hd
theorem Q9o {t q:Rat}:Uq (tq t) q=1↔q<t:=by
 rw [Qmo]; rcases Rw t q with ⟨e,h⟩ | ⟨e,h⟩ | ⟨e,h⟩ <;> grind
theorem Q9n {t q:Rat}:Uq (tq t) q=-1↔t<q:=by
 rw [Qmo]; rcases Rw t q with ⟨e,h⟩ | ⟨e,h⟩ | ⟨e,h⟩ <;> grind
theorem Zeg {s t:Rat}:Pn (tq s) (tq t)↔s<t:=by
 constructor
 ·rintro ⟨q,h1,h2⟩
  have:=Q9n.1 h1; have:=Q9o.1 h2; grind
 ·intro h;exact ⟨(s+t) / 2,Q9n.2 (by grind),Q9o.2 (by grind)⟩
theorem Q0z {c:Cr} {r0:List (List LV)} {r1:List (List LV)}:G6 Tryz.prog 27 [.one (.ow 0 0)] [.blk 82 (Ce c r0 r1)] [.one (.ow 1 0)] [.blk 82 (Ce c r0 r1),.blk 82 (Ce c r0 r1)]:=by
 refine Gu Tryz.func27 rfl ?_;exact ed tt [] [0,1] [] rfl trivial
theorem Q02 {zs:List RawPt} {n d:Int} {O M:List Pt} {e:Nat} {c:List (List Int)} (hz:∀ z∈zs,z.Ok) (hO:Qex 4 20 zs=O) (he:e≤O.length) (hd:Lr (Tw O e)) (hm:e<O.length->¬Lr (Tw O (e+1))) (hn:-9223372036854775808≤n/\n≤9223372036854775807) (hdd:-9223372036854775808≤d/\d≤9223372036854775807) (hC:Qw2 (A2 n d) c) (hM:M=Gg Sx (Qas O e)) :
 G6 Tryz.prog 19 [.one (.row (Qc9 zs)),.one (.int .i64 n),.one (.int .i64 d)] [] [.one (.ow 0 0),.one (.ow 1 0),.one (.bool true)] [.blk 82 (Ce (Q3i M (tq (A2 n d))) (Uy M) (brP M (tq (A2 n d)))),.blk 158 (plB M (A2 n d) c (Ln (A2 n d) M))]:=by
 have hO4:O.length<=4:=by rw [<-hO]; exact I3 _ _ (Qi _)
 have hid:∀ p∈O,-9223372036854775808≤p.id/\p.id≤9223372036854775807:=λp hp=>by
  rw [<-hO] at hp; have:=Zdi p hp; omega
 have hlit:∀ p∈O,Q0n p:=λp hp=>by rw [<-hO] at hp; exact Qlo (by decide) p hp
 have hcl:(Tw O e).length=e:=Qb7 he;have hcn:(Qas O e).length=e:=by rw [Qfr,hcl]
 have hMl:M.length=e:=by rw [hM,Pm,hcn]
 have hok:∀ p∈M,Nml p.c/\Cs 10 3 p.c:=λp hp=>by rw [hM,E3] at hp; exact Qx8 hlit e p hp
 have hq:=Qmk n d;obtain ⟨q,hqq⟩:=nmE (A2 n d);have cb:=Qgi (l:=Qas O e) (by omega);rw [<-hM] at cb;rw [<-hqq] at hq hC ⊢;have csm:=Za6 hn hdd;have c2:=Qug (M:=M) (q:=q) (c:=c) (λp hp=>⟨(hok p hp).1,(hok p hp).2.mono (by decide) (by decide)⟩) (by omega) (hq.mono (by decide)) hC;have ctr:=Q4a (q:=q) (hq.mono (by decide));have hnl:=Q12 (qs:=Qas O e) (by omega) (Qkw hd);have hnl2:Tn [] (Qas O e)=(M,0):=by rw [hM,<-hnl.2,<-hnl.1]
 have cs:=Qxk (zs:=Uy (Tw O e)) (qs:=Qas O e) (l:=M) (n:=q.num) (d:=(q.den:Int)) (Qll λp hp=>(Qqt hlit e p hp).mono (by decide) (by decide)) (by omega) hnl2 (λp hp=>⟨(hok p hp).1,(hok p hp).2.mono (by decide) (by decide)⟩) (by omega) (Ub q.num) (Ub (q.den:Int)) (Qa hq.1 (by decide)) (Qa hq.2 (by decide)) (by rw [Az]; exact hq.mono (by decide));rw [Az] at cs;rw [show Fx (Ik n 61-30) (1+Ik d 6)=q from hqq.symm] at csm;have cp:=Q00 hz;rw [hO] at cp;refine Gu Tryz.func19 rfl ?_;refine go tt [.c [0,1] cp] rfl trivial ?_;have h0l:=Bb O;refine ct 2 (S:=Unit) (λ_=>[(1,.v (.one (.int .i64 n))),(2,.v (.one (.int .i64 d))),(9,.v (.one (.row (Uy (Tw O e))))),(10,.v (.one (.row (Fg (Qas O e)))))]) (λ_=>[.gone,.gone]) (λ_=>True) rfl ?_ (λ_ _=>?_)
 ·refine lp (S:=Nat) 2 (λL1 i=>(23,.v (.one (.int .i64 (i:Int))))::(9,.v (.one (.orow 0 5 none)))::(10,.v (.one (.orow 1 7 none)))::L1) (λi=>[.row false 135 5 (Uy (mix O i)),.row false 57 7 (Fg ((mix O i).map Pt.nrm))]) (λi=>O.length-i) (λi=>i<=O.length/\i<=e/\Lr (Tw O i)) 0 ⟨Qi _,Qi _,List.Pairwise.nil⟩ rfl (λ_ _=>rfl) (by rw [Q64]; rfl) λi ⟨hi,hie,hdi⟩=>?_
  have hl1:(Uy (mix O (i+1))).length=O.length:=by rw [Bb,Qgx]
  have hl0:(Uy (mix O i)).length=O.length:=by rw [Bb,Qgx]
  have hr0:(Fg ((mix O i).map Pt.nrm)).length=O.length:=by rw [S9,Q4,Qgx]
  have hr1:(Fg ((mix O (i+1)).map Pt.nrm)).length=O.length:=by rw [S9,Q4,Qgx]
  by_cases h:i<O.length
  ·obtain ⟨p,hp⟩:=gxE (l:=O) (i:=i) h;have hx:=Zcw hp;have hxn:((mix O i).map Pt.nrm)[i]? = some p.nrm:=by rw [Q7,hx]; rfl
   have cw:=Qb3 (v:=p.id) (n:=5) (hid p (Qc hp)) (by decide);rw [show Ik p.id 5=p.m5.id from rfl] at cw;refine go tt [.t (decide_eq_true (by omega)),.i i,.x (B9 hx),.c [] cw,.i i,.x (B9 hx),.c [] cw,.i i,.x (B9 hx),.i i,.x (G5 hxn)] rfl (by simp [W9,hl0,hr0]; omega) ?_;rw [Qot hp,Qke hp];refine lp (S:=Nat) 2 (λL1 j=>(12,.v (.one (.int .i64 (j:Int))))::(9,.v (.one (.orow 0 5 none)))::(10,.v (.one (.orow 1 7 none)))::L1) (λ_=>[.row false 135 5 (Uy (mix O (i+1))),.row false 57 7 (Fg ((mix O (i+1)).map Pt.nrm))]) (λj=>i-j) (λj=>j<=i/\∀ k x,k<j->O[k]? = some x->x.m5.id≠p.m5.id) 0 ⟨Qi _,λk x h=>absurd h (W0 _)⟩ rfl (λ_ _=>rfl) rfl λj ⟨hj,hjn⟩=>?_
   by_cases hji:j<i
   ·obtain ⟨x,hxj⟩:=gxE (l:=O) (i:=j) (by omega);have g1:=Qza (i:=i+1) (show j<i+1 by omega) hxj;have g2:=Qza (i:=i+1) (show i<i+1 by omega) hp;by_cases hq:x.m5.id=p.m5.id
    ·have hnd:¬Lr (Tw O (i+1)):=λhD=>by
      have:=List.pairwise_iff_getElem.1 hD j i (by rw [Qb7 (by omega)]; omega) (by rw [Qb7 (by omega)]; omega) hji;refine this ?_;have e1:(Tw O (i+1))[j]? = some x.m5:=by unfold Tw; rw [List.getElem?_map,List.getElem?_take,if_pos (by omega),hxj]; rfl
      have e2:(Tw O (i+1))[i]? = some p.m5:=by unfold Tw; rw [List.getElem?_map,List.getElem?_take,if_pos (by omega),hp]; rfl
      rw [(Qf.1 e1).2,(Qf.1 e2).2]; exact hq
     have hie2:i=e:=by
      rcases Q5 i e with h3 | h3
      ·exact absurd (Zb1 hd h3) hnd
      ·omega
     have c1:(Uy (mix O (i+1))).take i=Uy (Tw O e):=by rw [Q2a (by omega) (by omega),hie2]
     have c2:(Fg ((mix O (i+1)).map Pt.nrm)).take i=Fg (Qas O e):=by rw [Qwf (by omega) (by omega),hie2]
     refine go tt [.t (decide_eq_true (by omega)),.i j,.x (B9 g1),.i i,.x (B9 g2),.t (decide_eq_true hq),.i i,.i i] rfl (by simp [W9,hl1,hr1]; omega) ?_;refine pz 0 rfl rfl ?_;refine pz 1 rfl rfl ?_;exact go tt [.t (decide_eq_true (by omega))] rfl trivial (rc () trivial (by rw [c1,c2]; rfl))
    ·refine go tt [.t (decide_eq_true (by omega)),.i j,.x (B9 g1),.i i,.x (B9 g2),.f (decide_eq_false hq)] rfl (by simp [W9,hl1]; omega) ?_;exact rd (j+1) (by omega) ⟨hji,λk y hk hy=>by
      rcases Q5 k j with h3 | h3
      ·exact hjn k y h3 hy
      ·have:k=j:=by omega
       subst this; rw [hxj] at hy; injection hy with hy; rw [<-hy]; exact hq⟩ rfl
   ·have hji2:j=i:=by omega
    rw [hji2] at hjn;have hD:=Q1g hp hdi hjn;have hle:i+1<=e:=by
     rcases Q5 i e with h3 | h3
     ·exact h3
     ·have:i=e:=by omega
      rw [this] at hD h;exact absurd hD (hm h)
    refine go tt [.f (decide_eq_false (by omega)),.f (decide_eq_false (by omega))] rfl (by simp [W9]; omega) ?_;exact rd (i+1) (by omega) ⟨h,hle,hD⟩ rfl
  ·have hiO:i=O.length:=by omega
   have hie2:i=e:=by omega
   have c1:Uy (mix O i)=Uy (Tw O e):=by rw [<-hie2,hiO,Qrw]
   have c2:Fg ((mix O i).map Pt.nrm)=Fg (Qas O e):=by rw [<-hie2,hiO,Qrw]; rfl
   refine go tt [] rfl trivial ?_;rw [c1,c2];refine pz 0 rfl rfl ?_;refine pz 1 rfl rfl ?_;exact go tt [.f (decide_eq_false (by omega))] rfl trivial (rc () trivial rfl)
 ·exact ed tt [] [3,2] [.c [] cb,.c [] csm,.c [2] c2,.c [] ctr,.c [3] cs,.g 96 true rfl] rfl trivial
theorem Q3j {c c':Cr} {l l' m:List Pt} {a:Tm} {r:List (List LV)} (_hm:m.length<=1000000) (hr:r=brP m a):G6 Tryz.prog 33 [.one (.ow 0 0),.one (.ow 1 0)] [.blk 82 (Ce c (Uy l) r),.blk 82 (Ce c' (Uy l') r)] [.one (.bool true)] [.blk 82 (Ce c (Uy l) r),.blk 82 (Ce c' (Uy l') r)]:=by
 by_cases h2:m.length<2
 ·have e:r=[]:=by rw [hr]; show Uy (Ie (Hq a) m)=[]; rw [(Qes _ h2).1]; rfl
  rw [e];refine Gu Tryz.func33 rfl ?_;exact ed tt [] [0,1] [.c [0] Qp8,.c [1] Qp8,.g 26 true rfl,.g 31 true rfl] rfl trivial
 ·obtain ⟨u,v,e⟩:∃ u v,r=Uy [u,v]:=by
   obtain ⟨x,y,n,hm⟩:=Qpk h2;rw [hr,hm]; exact ⟨_,_,rfl⟩
  rw [e];refine Gu Tryz.func33 rfl ?_;exact ed tt [] [0,1] [.c [0] Qm2,.c [1] Qm2,.g 26 true (decide_eq_true rfl),.g 31 true (decide_eq_true rfl)] rfl trivial
theorem Q28 (l:List Pt):(Qj3 l).length=l.length*(l.length*(l.length*l.length)):=by
 have key:∀ (α:Type) (f:Pt->List α) (n:Nat) (m:List Pt),(∀ x,(f x).length=n)->(m.flatMap f).length=m.length*n:=by
  intro α f n m h
  induction m with
  | nil=>simp
  | cons x m ih=>rw [Wh,Zc,ih,h,Q9,Xb]; omega
 unfold Qj3;exact key _ _ _ _ λa=>key _ _ _ _ λb=>key _ _ _ _ λc=>Q4 ..
theorem Zak {l:List Pt} (h:l.length<=10):(Qj3 l).length<=1000000:=by
 rw [Q28];have:l.length*(l.length*(l.length*l.length))<=10*(10*(10*10)):=Zi h (Zi h (Zi h h));omega
end Orr
namespace Orq
open Orr Go
theorem Qrz {c x y:Rat} (hc:0<c) (h:c*x=c*y):x=y:=by
 have h1:1 / c*c=1:=Fe hc;have e:∀ z:Rat,z=1 / c*(c*z):=λz=>by grind
 rw [e x,h,<-e y]
theorem Qkt (p:List Int):∀ i,i<=p.length->Lf p i=Gt (p.take i)
 | 0,_=>rfl
 |
  i+1,h=>by
  have hx:p[i]? = some (p.getD i 0):=by rw [Qg,Qd (by omega)]; rfl
  rw [Qec hx,<-Qkt p i (by omega)];rfl
theorem Zbt (p:List Int):((Orr.cont p:Nat):Int)=Re p:=by
 unfold Orr.cont Re; rw [Qkt p _ (Nat.le_refl _),List.take_length]
theorem Q7r (p:List Int):Uu p=Un p:=rfl
theorem Q51 (p:List Int):Po p=Fu p:=by unfold Po Fu; rw [Zbt,Q7r]
theorem Qbm (p:List Int) (k:Nat):(Gl p).getD k 0=p.getD k 0 / Fu p:=by
 unfold Gl;rw [Rh,Q51]
 split
 ·rfl
 ·rename_i h; rw [Gx (by omega),Int.zero_ediv]
theorem Ts (p:List Int):Gl p=Ug p:=by
 unfold Ug
 split
 ·rename_i h; rw [List.eq_nil_of_length_eq_zero h]; rfl
 ·exact Qdh (Qjw p) (G0 _) λk=>by rw [Qbm,Mf]
theorem Qsu (p:List Int) (k:Nat):(Hj p).getD k 0=p.getD k 0 / Re p:=by
 unfold Hj
 split
 ·rename_i h;rw [Ql4,Qbm];have:Fu p=-Re p:=if_pos h;rw [this,Int.ediv_neg,Int.neg_neg]
 ·rename_i h;rw [Qbm];have:Fu p=Re p:=if_neg h;rw [this]
theorem Qf4 (p:List Int):Ue (Hj p):=by
 unfold Hj; split
 ·exact Us _ _
 ·exact Qjw p
theorem Qfw (p:List Int):Hj p=Dy p:=by
 unfold Dy
 split
 ·rename_i h; rw [List.eq_nil_of_length_eq_zero h]; rfl
 ·exact Qdh (Qf4 p) (G0 _) λk=>by rw [Qsu,Mf]
theorem Ql5 {p:List Int} (tp:Ue p) (h:p.length≠0):Prm (Dy p):=λd hd=>by
 refine (Ta tp h).2.2.1 d λk=>?_
 have h1:=hd k;unfold Dy at h1;rw [if_neg h,Mf] at h1;unfold Ug;rw [if_neg h,Mf];unfold Fu
 split
 ·rw [Int.ediv_neg]; exact Int.dvd_neg.2 h1
 ·exact h1
theorem Qqr {a b c:Int} (h:Nat.Coprime a.natAbs b.natAbs) (h2:a∣b*c):a∣c:=Xj.1 (h.dvd_of_dvd_mul_left (by rw [<-Jv]; exact Xj.2 h2))
theorem Qmb {p q:List Int} (tp:Ue p) (tq:Ue q) (hp:Prm p) (hq:Prm q) {c:Rat} (hc:0<c) (h:∀ t,Uf p t=c*Uf q t):p=q:=by
 have hd:=c.den_nz;have hd0:((c.den:Int):Rat)≠0:=Aq (by omega);have e:c*((c.den:Int):Rat)=(c.num:Rat):=by
  have h1:(c.num:Rat) / ((c.den:Int):Rat)=c:=by rw [Gm,Zq]
  have h2:(c.num:Rat) / ((c.den:Int):Rat)*((c.den:Int):Rat)=(c.num:Rat):=Zf hd0;rw [h1] at h2; exact h2
 have hk:∀ k,(c.den:Int)*p.getD k 0=c.num*q.getD k 0:=λk=>by
  have:=M7 (p:=Ut p (c.den:Int)) (q:=Ut q c.num) (λt=>by
   rw [Rm,Rm,h,<-e]; grind) k
  rw [Rf,Rf] at this;rw [Vj,this,Vj]
 have d1:(c.den:Int)∣1:=hq _ λk=>Qqr (a:=(c.den:Int)) (b:=c.num) (by simpa using c.reduced.symm) (by rw [<-hk k]; exact Kb _ _)
 have d2:c.num∣1:=hp _ λk=>Qqr (a:=c.num) (b:=(c.den:Int)) (by simpa using c.reduced) (by rw [hk k]; exact Kb _ _)
 have p1:0<c.num:=by
  have h0:=Rat.num_nonneg.2 (Qm hc);rcases Int.lt_or_eq_of_le h0 with h1 | h1
  ·exact h1
  ·exfalso;rw [<-h1] at e;have e0:((0:Int):Rat)=0:=rfl;rw [e0] at e;rcases Jr.1 e with h2 | h2
   ·grind
   ·exact hd0 h2
 have e1:=Int.le_of_dvd (by decide) d1;have e2:=Int.le_of_dvd (by decide) d2;have n1:c.num=1:=by omega
 have n2:(c.den:Int)=1:=by omega
 refine Qdh tp tq λk=>?_
 have:=hk k;rw [n1,n2] at this; omega
theorem Q2j {a b:List Int} (hb:b.length<=a.length):Lo a b=str b ((Un b).natAbs:Int) (a.length-b.length) (B5 a b) a:=by
 refine Qdh (Us _ _) (Us _ _) λk=>?_
 unfold Lo str;rw [Rh,Ba,Rf,Qoc]
 split
 ·rfl
 ·rename_i h;rw [Gx (p:=a) (by omega),J3,if_pos (by omega),Gx (p:=b) (by omega),Vk]; rfl
theorem Q8q {a b:List Int} (hb:b.length<=a.length) (t:Rat):(((Un b).natAbs:Int):Rat)*Uf a t=((B5 a b:Int):Rat)*t^(a.length-b.length)*Uf b t+Uf (Lo a b) t:=by
 rw [Q2j hb]; exact Q9e _ _ _ _ _ _
theorem Q2i {a b:List Int} (hb0:b.length≠0) (hb:b.length<=a.length):(Lo a b).length<a.length:=by
 have h:=Qn2 (p:=Lo a b) (n:=a.length-1) (Us _ _) (Qa (Di _ _) (by omega)) (by
  unfold Lo Ca;rw [Rh,if_pos (by omega),if_pos (by omega),show a.length-1-(a.length-b.length)=b.length-1 by omega];show Uu a*((Uu b).natAbs:Int)-B5 a b*Uu b=0;unfold B5
  split
  ·rw [show ((Uu b).natAbs:Int)=-Uu b by omega,Vx,Y8]; omega
  ·rw [show ((Uu b).natAbs:Int)=Uu b by omega]; omega)
 omega
theorem Q8p {a b:List Int} {s t:Nat} (ha:Bd s a) (hb:Bd t b):Bd (s+t+1) (Lo a b):=E8 λi _=>by
 have h1:=Um ha i;have h2:Uj ((Uu b).natAbs:Int)<=t:=by
  have h:Uj (Uu b)<=t:=Um hb (b.length-1);rw [Rl] at h ⊢;rw [Zx]; exact h
 have h3:Uj (B5 a b)<=s:=by
  have:=Um ha (a.length-1);unfold B5
  split
  ·rw [Ga]; exact this
  ·exact this
 have h4:=Uw (a.getD i 0) ((Uu b).natAbs:Int);unfold Ca
 split
 ·have h5:=Uw (B5 a b) (b.getD (i-(a.length-b.length)) 0);have h6:=Um hb (i-(a.length-b.length));have:=Qgu (a.getD i 0*((Uu b).natAbs:Int)) (B5 a b*b.getD (i-(a.length-b.length)) 0);omega
 ·rw [Int.sub_zero]; omega
theorem Qz7 {b:List Int} (tb:Ue b) (hb:b.length≠0) {t:Nat} (bb:Bd t b):∀ (k:Nat) (a:List Int) (s:Nat),a.length<b.length+k->Ue a->a.length<=60->Bd s a->s+k*(t+1)<=9000000->t<=9000000 ->
 ∃ n r,RRun b n a r/\Ue r/\r.length<b.length/\Bd (s+k*(t+1)) r/\∃ (u:Rat) (X:List Rat),0<u/\∀ x,u*Uf a x=ev X x*Uf b x+Uf r x
 | 0,a,s,hl,ta,_,ba,_,_=>⟨0,a,.stop (by omega),ta,by omega,by rw [Yp]; exact ba,1,[],by decide,λx=>by simp only [ev]; grind⟩
 |
  k+1,a,s,hl,ta,h6,ba,hs,ht=>by
  rcases Q5 a.length b.length with h | h
  ·exact ⟨0,a,.stop h,ta,h,W8 ba (by omega),1,[],by decide,λx=>by simp only [ev]; grind⟩
  ·have h1:=Q2i hb h;have e:s+t+1+k*(t+1)=s+(k+1)*(t+1):=by rw [Xb]; omega
   obtain ⟨n,r,r1,r2,r3,r4,u,X,hu,hX⟩:=Qz7 tb hb bb k (Lo a b) (s+t+1) (by omega) (Us _ _) (by omega) (Q8p ba bb) (by omega) ht;have hlp:((0:Int):Rat)<(((Un b).natAbs:Int):Rat):=X6.2 (by have:=Bn tb hb; omega);have hlp:(0:Rat)<(((Un b).natAbs:Int):Rat):=by simpa using hlp
   refine ⟨n+1,r,.step h (by omega) (W8 ba (by omega)) (W8 bb ht) r1,r2,r3,by rw [<-e]; exact r4,u*(((Un b).natAbs:Int):Rat),H5 (Pv (u*((B5 a b:Int):Rat)) (cz (mono (a.length-b.length) 1))) X,J9 hu hlp,λx=>?_⟩;have g1:=Q8q h x;have g2:=hX x;rw [Fa,U0,Ud,Et];have e1:((1:Int):Rat)=1:=rfl;rw [e1];have:u*(((Un b).natAbs:Int):Rat)*Uf a x=u*((((Un b).natAbs:Int):Rat)*Uf a x):=by grind
   rw [this,g1]; grind
theorem Zdv {a b r:List Int} (ta:Ue a) (tb:Ue b) (hb:b.length≠0) (hl:a.length<=60) (tr:Ue r) (hr:r.length<b.length) {u:Rat} {X:List Rat} (hu:0<u) (hX:∀ x,u*Uf a x=ev X x*Uf b x+Uf r x):Hj r=Gb a b:=by
 obtain ⟨h1,h2,_,u',v',up,vp,X',hX'⟩:=Qc6 ta tb hb hl;have key:∀ x,ev (H5 (Pv (u*v') (cz (Gb a b))) (Pv (-u') (cz r))) x=ev (Ft (H5 (Pv u' X) (Pv (-u) X')) (cz b)) x:=λx=>by
  have g1:=hX x;have g2:=hX' x;rw [Fa,U0,U0,Uh,Fa,U0,U0,Ud,Ud,Ud];have k1:u'*(u*Uf a x)=u'*(ev X x*Uf b x+Uf r x):=by rw [g1]
  have k2:u*(u'*Uf a x)=u*(ev X' x*Uf b x+v'*Uf (Gb a b) x):=by rw [g2]
  grind
 have hz:∀ x,ev (H5 (Pv u' X) (Pv (-u) X')) x=0:=by
  rcases Qfm (H5 (Pv u' X) (Pv (-u) X')) with h | ⟨m,_,h⟩
  ·exact h
  ·exfalso;have hm:=Qeg h (Qax tb (by omega));have h3:=(Q6m (λt=>(key t).symm) hm).1;rw [Hb,H3,H3,Tu,Tu,Gx (p:=Gb a b) (by omega),Gx (p:=r) (by omega)] at h3;have e0:((0:Int):Rat)=0:=rfl;rw [e0] at h3;exact h3 (by grind)
 have hpr:∀ x,Uf r x=u*v' / u'*Uf (Gb a b) x:=λx=>by
  have g:=key x;rw [Uh,hz x,Fa,U0,U0,Ud,Ud] at g;have hd:u*v' / u'*u'=u*v':=Fe up;have hne:u'≠0:=by grind
  have:u'*Uf r x=u'*(u*v' / u'*Uf (Gb a b) x):=by
   have e:u'*(u*v' / u'*Uf (Gb a b) x)=(u*v' / u'*u')*Uf (Gb a b) x:=by grind
   rw [e,hd]; grind
  exact Qrz up this
 have hcp:0<u*v' / u':=Nx (J9 hu vp) up;rw [Qfw];have hlen:=Cu tr h1 (by grind:u*v' / u'≠0) hpr;by_cases h0:r.length=0
 ·rw [Qh h0,Qh (l:=Gb a b) (by omega)]; rfl
 ·obtain ⟨c,cp,hc⟩:=Qsk tr;have hcn:c≠0:=by grind
  have hp2:Prm (Gb a b):=by
   unfold Gb at hlen ⊢;have ht:Ue (Pp a b (Sk a b)):=by
    unfold Pp; split
    ·exact Us _ _
    ·exact (Qos hb _ _ _ ta (by omega)).1
   refine Ql5 ht λe=>?_
   rw [Qh e] at hlen;exact h0 hlen
  have tn:Ue (Dy r):=by rw [<-Qfw]; exact Qf4 r
  refine Qmb tn h1 (Ql5 tr h0) hp2 (c:=u*v' / u' / c) (Nx hcp cp) λt=>?_
  have g1:=hc t;have g2:=hpr t;have hd:u*v' / u' / c*c=u*v' / u':=Fe cp;refine Qrz cp ?_;have e:c*(u*v' / u' / c*Uf (Gb a b) t)=(u*v' / u' / c*c)*Uf (Gb a b) t:=by grind
  rw [e,hd,<-g1,g2]
theorem Qsq {p:List Int} (h:Pr1 p):Ug p=p:=by
 obtain ⟨h1,h2,h3,h4,_,h6,h7⟩:=Ta h.t h.n;have hl:=h.l;have hc:0<Fu p:=by
  have:=Es h.t h.n;unfold Fu;rw [if_neg (by omega)];unfold Re at this ⊢; omega
 have hq:((0:Int):Rat)<(Fu p:Rat):=X6.2 hc;exact (Qmb h.t h1 h.m h3 (c:=(Fu p:Rat)) (by simpa using hq) h7).symm
theorem Qsr {r:List Int} (tr:Ue r):(Ug r).length=r.length/\((Ug r).length=0\/Pr1 (Ug r)):=by
 by_cases h:r.length=0
 ·rw [Qh h]; exact ⟨rfl,.inl rfl⟩
 ·exact ⟨(Ta tr h).2.1,.inr (Q17 tr h)⟩
theorem Qe3 {s m lb la:Nat} (e:la-1=m+(lb-1)) (hm:1<=m) (hs:(s+8)*3^(la-1)<=9000000):(s+(m+1)*(s+8)+8)*3^(lb-1)<=9000000/\s+(m+1)*(s+8)<=9000000:=by
 have e2:s+(m+1)*(s+8)+8=(m+2)*(s+8):=by
  rw [show m+2=(m+1)+1 by omega,Xb (m+1)]; omega
 have e3:(m+2)*(s+8)*3^(lb-1)<=(s+8)*3^(la-1):=by
  rw [e,Xe,<-Xn,Ze (s+8)];exact Qw _ (Qw _ (Zdd m hm))
 have:(m+2)*(s+8)<=(m+2)*(s+8)*3^(lb-1):=Jo _ (Zv (by decide));exact ⟨by rw [e2]; omega,by omega⟩
theorem Qs5 {a b:List Int} {s:Nat} (ta:Ue a) (tb:Ue b) (hb:b.length≠0) (hab:b.length<a.length) (hl:a.length<=60) (ba:Bd s a) (bb:Bd s b) (hs:(s+8)*3^(a.length-1)<=9000000) :
 ∃ n r,RRun b n a r/\Ue r/\r.length<b.length/\Bd (s+(a.length-b.length+1)*(s+8)) r/\Hj r=Gb a b/\∃ (u:Rat) (X:List Rat),0<u/\∀ x,u*Uf a x=ev X x*Uf b x+Uf r x:=by
 obtain ⟨k1,k2⟩:=Qe3 (s:=s) (m:=a.length-b.length) (lb:=b.length) (la:=a.length) (by omega) (by omega) hs;have h1:(a.length-b.length+1)*(s+1)<=(a.length-b.length+1)*(s+8):=Zg _ (by omega);obtain ⟨n,r,r1,r2,r3,r4,u,X,hu,hX⟩:=Qz7 tb hb bb (a.length-b.length+1) a s (by omega) ta hl ba (by omega) (by omega);exact ⟨n,r,r1,r2,r3,W8 r4 (by omega),Zdv ta tb hb hl r2 r3 hu hX,u,X,hu,hX⟩
theorem Qyr:∀ (k:Nat) (a b:List Int) (s:Nat),b.length<k->Pr1 a->(b.length=0\/Pr1 b)->Ue b->b.length<a.length->a.length<=60->Bd s a->Bd s b->(s+8)*3^(a.length-1)<=9000000 ->
 ∃ n g,GRun n a b g/\Pr1 g/\A9 (cz g) (cz a)/\A9 (cz g) (cz b)
 | 0,_,_,_,h,_,_,_,_,_,_,_,_=>by omega
 |
  k+1,a,b,s,hk,pa,pb,tb,hab,hl,ba,bb,hs=>by
  rcases pb with h0 | pb
  ·rw [Qh h0];exact ⟨0,a,.stop a,pa,dvd_refl _,⟨[],λt=>by simp only [cz,Jb,ev]; grind⟩⟩
  ·have hb:=pb.n;obtain ⟨n,r,r1,r2,r3,r4,_,u,X,hu,hX⟩:=Qs5 pa.t tb hb hab hl ba bb hs;obtain ⟨k1,k2⟩:=Qe3 (s:=s) (m:=a.length-b.length) (lb:=b.length) (la:=a.length) (by omega) (by omega) hs;obtain ⟨p1,p2⟩:=Qsr r2;obtain ⟨_,p3,p4,c,c1,c2⟩:=Ew r2;have tp:Ue (Ug r):=by
    rcases p2 with h | h
    ·rw [Qh h]; rfl
    ·exact h.t
   obtain ⟨j,g,g1,g2,g3,g4⟩:=Qyr k b (Ug r) (s+(a.length-b.length+1)*(s+8)) (by omega) pb p2 tp (by omega) (by omega) (W8 bb (by omega)) (p4 _ r4) k1;refine ⟨j+1,g,.step (by omega) (by omega) (W8 bb (by omega)) r1 (by omega) (W8 r4 k2) r2 (by rw [Ts]; exact g1),g2,?_,g3⟩;obtain ⟨y,hy⟩:=g3;obtain ⟨z,hz⟩:=g4;have hu1:1 / u*u=1:=Fe hu;refine ⟨Pv (1 / u) (H5 (Ft X y) (Pv c z)),λt=>?_⟩;have a1:=hX t;have a2:=hy t;have a3:=hz t;have a4:=c2 t;rw [Ud] at a2 a3 ⊢;rw [U0,Fa,Uh,U0];have:Uf a t=1 / u*(u*Uf a t):=by grind
   rw [this,a1,a2,a4,a3]; grind
theorem Qvz {c:Int} (h:c≠0):Ut [1] c=[c]:=by
 show Pj 1 _=_;rw [Dk,Qa2];show (if 1*c=0 then _ else [1*c])=_;rw [Ym,if_neg h]
theorem Qwk (k:Nat) (c:Int) (i:Nat):(Ti k [c]).getD i 0=if i=k then c else 0:=by
 unfold Ti;rw [Qg];rcases Kc i k with h | h | h
 ·rw [Zj (by simpa using h),if_neg (by omega)];simp [h]
 ·subst h;rw [Xg (by simp)]; simp
 ·rw [Qp (by simp; omega),if_neg (by omega)]; rfl
theorem Qic:∀ (k:Nat) (a q p:List Int),a.length<=k->Ue a->a.length<=60->Bd 9000000 a->a.length<=q.length->q.length=p.length->(∀ i,i<a.length->a.getD i 0=p.getD i 0)->(∀ i,i<a.length->q.getD i 0=0)->(∀ i,a.length<=i->q.getD i 0=p.getD i 0)->∃ n,DRun [1] n a q p []
 |
  0,a,q,p,h,_,_,_,_,hq,_,_,h3=>by
  have e:=Qh (l:=a) (by omega);subst e;have e2:q=p:=by
   refine List.ext_getElem hq λi h1 h2=>?_
   have:=h3 i (by simp);rw [Qg,Qg,Qd h1,Qd h2] at this;exact this
  rw [e2]; exact ⟨0,.stop (by decide)⟩
 |
  k+1,a,q,p,h,ta,h6,ba,haq,hq,h1,h2,h3=>by
  by_cases h0:a.length=0
  ·exact Qic k a q p (by omega) ta h6 ba haq hq h1 h2 h3
  ·have hlead:Uu a≠0:=Gq ta (by omega);have hp1:Uu [1]=1:=rfl;have e1:To a (Ti (a.length-1) (Ut [1] (Uu a / Uu [1])))=To a (Ti (a.length-1) [Uu a]):=by
    rw [hp1,Vi,Qvz hlead]
   have g:∀ i,(To a (Ti (a.length-1) [Uu a])).getD i 0=if i=a.length-1 then 0 else a.getD i 0:=λi=>by
    rw [Ba,Qwk]
    split
    ·rename_i e; subst e; exact Int.sub_self _
    ·rw [Int.sub_zero]
   have ll:(To a (Ti (a.length-1) [Uu a])).length<=a.length-1:=by
    refine Qn2 (Us _ _) (Qa (Ry _ _) ?_) (by rw [g,if_pos rfl]);rw [Qjo]; simp; omega
   have gz:∀ i,(To a (Ti (a.length-1) [Uu a])).length<=i->i<a.length-1->a.getD i 0=0:=λi k1 k2=>by
    have:=g i;rw [Gx k1,if_neg (by omega)] at this;exact this.symm
   have gs:∀ i,(q.set (a.length-1) (Uu a)).getD i 0=if i=a.length-1 then Uu a else q.getD i 0:=λi=>by
    rw [Qg,Yf];by_cases e:a.length-1=i
    ·rw [if_pos e,if_pos (by omega),if_pos e.symm]; rfl
    ·rw [if_neg e,if_neg (λh=>e h.symm),Qg]
   have hpa:Uu a=p.getD (a.length-1) 0:=h1 _ (by omega);obtain ⟨n,hn⟩:=Qic k (To a (Ti (a.length-1) [Uu a])) (q.set (a.length-1) (Uu a)) p (by omega) (Us _ _) (by omega) (λz hz=>by
    obtain ⟨i,hi⟩:=Jp hz;have e:z=(To a (Ti (a.length-1) [Uu a])).getD i 0:=by rw [Qg,hi]; rfl
    rw [e,g]
    split
    ·exact Qi _
    ·exact Um ba i) (by rw [Ja]; omega) (by rw [Ja]; exact hq) (λi hi=>by rw [g,if_neg (by omega)]; exact h1 i (by omega)) (λi hi=>by rw [gs,if_neg (by omega)]; exact h2 i (by omega)) (λi hi=>by
    rw [gs]
    split
    ·rename_i e; rw [e]; exact hpa
    ·rename_i e;by_cases k1:a.length<=i
     ·exact h3 i k1
     ·rw [h2 i (by omega),<-h1 i (by omega),gz i hi (by omega)])
   refine ⟨n+1,.step (by show 1<=a.length; omega) (by omega) ba (by decide) (by rw [hp1]; exact W5 _) (by show a.length-1<q.length; omega) ?_⟩;show DRun [1] n (To a (Ti (a.length-1) (Ut [1] (Uu a / Uu [1])))) (q.set (a.length-1) (Uu a / Uu [1])) p [];rw [e1,hp1,Vi]; exact hn
theorem Zb4 {p:List Int} (tp:Ue p) (hl:p.length<=60) (bp:Bd 9000000 p):DOk p [1] p:=by
 obtain ⟨n,hn⟩:=Qic p.length p (List.replicate (p.length+1-1) 0) p (Qk _) tp hl bp (by simp) (by simp) (λ_ _=>rfl) (λi _=>Ho _ i) (λi hi=>by rw [Ho,Gx hi]);exact ⟨by decide,by decide,by omega,b1 (by decide),p,[],n,bp,by omega,hn,tp.symm⟩
theorem Qx7:∀ (k:Nat) (pre:List (List Int)) (a b:List Int) (s:Nat) (L:List (List Int)),chF k a b=some L->Ue a->Ue b->b.length<a.length->a.length<=60->Bd s a->Bd s b->(s+8)*3^(a.length-1)<=9000000->pre.length+a.length<=500 ->
 ∃ n,CRun n (pre++[a]) b (pre++[a]++L)/\L.length<=b.length
 | 0,_,_,_,_,_,h,_,_,_,_,_,_,_,_=>by cases h
 |
  k+1,pre,a,b,s,L,h,ta,tb,hab,hl,ba,bb,hs,hp=>by
  simp only [chF] at h
  split at h
  ·rename_i h0;injection h with h; subst h;rw [Xh];exact ⟨0,.stop h0,by simp⟩
  ·rename_i h0;obtain ⟨r0,hr0,h⟩:=Qe.1 h;obtain ⟨l,hl1,h⟩:=Qe.1 h;injection h with h; subst h;have er:r0=Gb a b:=by
    unfold chk at hr0
    split at hr0
    ·injection hr0 with hr0; exact hr0.symm
    ·cases hr0
   rw [er] at hl1;obtain ⟨n,r,r1,r2,r3,r4,r5,_⟩:=Qs5 ta tb h0 hab hl ba bb hs;obtain ⟨k1,k2⟩:=Qe3 (s:=s) (m:=a.length-b.length) (lb:=b.length) (la:=a.length) (by omega) (by omega) hs;have hlp:=Aw r;have hln:=Dq (Hj r);rw [<-r5] at hl1;obtain ⟨j,c1,c2⟩:=Qx7 k (pre++[a]) b (S7 (Hj r)) (s+(a.length-b.length+1)*(s+8)) l hl1 tb (Us _ _) (by omega) (by omega) (W8 bb (by omega)) (Qb1 (Qkj r4)) k1 (by simp; omega);have hlast:So (pre++[a])=a:=by unfold So; simp
   refine ⟨j+1,.step (by omega) (by omega) (W8 bb (by omega)) (by rw [hlast]; exact r1) r2 (W8 r4 k2) (by omega) (by simp) (by simp; omega) ?_,by simp; omega⟩;have e:pre++[a]++b::l=pre++[a]++[b]++l:=by simp
   rw [e]; exact c1
theorem Q48 {P g q:List Int} {s:Nat} (sq:Sqp P g q) (l2:2<=q.length) (lq:q.length<=9) (bq:Bd s q) (hs:(s+4+8)*3^8<=9000000) {L:List (List Int)} (hL:chF 66 q (Ug (U7 q))=some L):ChRun q q (q::L):=by
 have pq:=sq.pq;have hpow:(s+4+8)*3^(q.length-1)<=9000000:=Qa (Zg _ (Zo (by decide) (by omega))) hs;have hs9:s+4<=8000000:=by
  have:(s+4+8)*3^8=(s+4+8)*6561:=rfl;omega
 have ld:=Tl q;have bd:Bd (s+4) (U7 q):=Qmy bq (by omega);obtain ⟨p1,p2⟩:=Qsr (r:=U7 q) (Us _ _);obtain ⟨_,p3,p4,c,c1,c2⟩:=Ew (a:=U7 q) (Us _ _);have tp:Ue (Ug (U7 q)):=by
  rcases p2 with h | h
  ·rw [Qh h]; rfl
  ·exact h.t
 obtain ⟨m,h,g1,g2,g3,g4⟩:=Qyr 66 q (Ug (U7 q)) (s+4) (by omega) pq p2 tp (by omega) (by omega) (W8 bq (by omega)) (p4 _ bd) hpow;have hone:h=[1]:=by
  obtain ⟨c',_,hc'⟩:=sq.num g3 (by
   obtain ⟨z,hz⟩:=g4;exact ⟨Pv c z,λt=>by
    have:=hz t;rw [Ud] at this;rw [Ht,<-Dw,c2,this,U0]; grind⟩)
  refine g2.one (Nat.lt_of_not_le λh2=>?_);have hd:=Qax g2.t (by omega);have:=M3 (p:=cz h) (q:=[c']) (λt=>by rw [hc' t]; simp only [ev]; grind) (h.length-1);rw [Qg (l:=[c']),Qp (by simp; omega)] at this;exact hd.1 this
 subst hone;have hpq:=Qsq pq;have t1:Ue [1]:=rfl;have dq:=Zb4 pq.t (by omega) (W8 bq (by omega:s<=9000000));have fr:FRun q 1 (λ_=>q):=by
  refine ⟨⟨1,[q,[1]],?_,rfl,?_⟩,by decide⟩
  ·rw [Ts,hpq];refine .step (m:=m) (g:=[1]) (by show 1<q.length; omega) (by show q.length<=1000; omega) (by show Ue q; exact pq.t) (by show Bd 9000000 q; exact W8 bq (by omega)) (by show Bd 9000000 (U7 q); exact W8 bd (by omega)) ?_ (by show 1<=1000; decide) ?_
   ·show GRun m (Gl q) (Gl (U7 q)) [1];rw [Ts,Ts,hpq]; exact g1
   ·exact .stop (by show 1<=1; decide)
  ·intro k hk;have:k=0:=by omega
   subst this;exact ⟨q,[1],q,dq,div_one,by rw [Ts,hpq,Qso]; exact dq,by rw [Ts,hpq]⟩
 obtain ⟨n,c3,c4⟩:=Qx7 66 [] q (Ug (U7 q)) (s+4) L hL pq.t tp (by omega) (by omega) (W8 bq (by omega)) (p4 _ bd) hpow (by simp; omega);have hsz:Hj (U7 q)=Ug (U7 q):=by
  have hlp:¬Uu (U7 q)<0:=by
   have h1:Uu (U7 q)=Un q*((q.length-1:Nat):Int):=by
    have hld:(U7 q).length=q.length-1:=by
     refine V3 ld (Jg λh=>?_);have h1:=Sa q (q.length-2);rw [Gx (by omega),show q.length-2+1=q.length-1 by omega] at h1;have h3:q.getD (q.length-1) 0≠0:=Gq pq.t (by omega);rcases Ya.1 h1.symm with h4 | h4
     ·exact h3 h4
     ·omega
    unfold Uu Un;rw [hld,Sa,show q.length-1-1+1=q.length-1 by omega]
   have:=W3 pq.l (show (0:Int)<((q.length-1:Nat):Int) by omega);omega
  unfold Hj;rw [if_neg hlp,Ts]
 refine ⟨⟨1,λ_=>q,fr,λi hi=>?_,?_⟩,⟨n,?_⟩,W8 bq (by omega),by omega,by simp; omega⟩
 ·have:i=0:=by omega
  subst this;exact ⟨b1 (by decide),by show 1<=1000; decide,W8 bq (by omega),show q.length<=1000 by omega⟩
 ·show q=Ff [1] q;rw [Qlr pq.t (by omega)]
 ·rw [hsz]; exact c3
def crR (C:List (List Int)) (p:List Int) (lo hi t:Rat):Int :=
 if Fb lo hi=0 then Fb lo t else if Fb t lo<=0 then 1 else if 0<Fb t hi then -1 else if G7 C lo t=0 then 1 else if U8 p t=0 then 0 else -1
theorem Quq {p:List Int} {C:List (List Int)} {lo hi:Rat} (V:Vt (cz p) (C.map cz) lo hi) (q:Rat):crR C p lo hi q=cq (cz p) lo hi q:=by
 have hl:=V.l;unfold crR;rw [if_neg (λh=>by have:=Cn.1 h; grind)];rcases Classical.em (q<=lo) with h1 | h1
 ·rw [if_pos (Ag.2 h1),No h1]
 rw [if_neg (λh=>h1 (Ag.1 h))];rcases Classical.em (hi<q) with h2 | h2
 ·rw [if_pos (Ph.2 h2),Ia hl h2]
 rw [if_neg (λh=>h2 (Ph.1 h))];have h1':lo<q:=Js.1 h1;have h2':q<=hi:=Rat.not_lt.1 h2;rw [Dd (Qm h1'),Tx];rcases V.two h1' h2' with ⟨a,b,_⟩ | ⟨a,b,_⟩
 ·rw [if_pos (by rw [a]; omega),b]
 ·rw [if_neg (by have:=V.v; omega)];rw [Mx h1' h2',Ud] at *
  split
  ·rfl
  ·rename_i h0;rw [if_neg h0] at b
   split at b
   ·exact absurd rfl b
   ·rename_i hne; rw [if_neg hne]
theorem Qne {p:List Int} {C:List (List Int)} (x q:Rat):crR C p x x q=Fb x q:=by
 unfold crR;rw [if_pos (Cn.2 rfl)]
theorem Zcu {t:Tm} {L:List (List Rat)} {D M k:Nat} {lo hi:Rat} (hu:Hv t D M k ⟨t.p,lo,hi⟩) (V:Vt (cz t.p) L lo hi) :
 (cq (cz t.p) lo hi (Ib lo hi)<=0->Hv t D M (k+1) ⟨t.p,lo,Ib lo hi⟩/\Vt (cz t.p) L lo (Ib lo hi))/\(¬cq (cz t.p) lo hi (Ib lo hi)<=0->Hv t D M (k+1) ⟨t.p,Ib lo hi,hi⟩/\Vt (cz t.p) L (Ib lo hi) hi):=by
 have hl:=V.l;have h2:(lo+hi) / 2*2=lo+hi:=Fe (by decide);have gm:Gr D M (k+1) (Ib lo hi):=by rw [Qbh]; exact Qu6 hu.l hu.h
 rw [Qbh] at *;generalize (lo+hi) / 2=m at *;have m1:lo<m:=by grind
 have m2:m<hi:=by grind
 have cut:∀ q,Uq ⟨t.p,lo,hi⟩ q=cq (cz t.p) lo hi q:=λq=>Tj (t:=⟨t.p,lo,hi⟩) hl q
 refine ⟨λh=>?_,λh=>?_⟩
 ·have hm:cq (cz t.p) lo hi m≠1:=λe=>by omega
  have V':Vt (cz t.p) L lo m:=⟨V.s,m1,by rw [V.eq_hi m1 (Qm m2) hm]; exact V.v⟩;refine ⟨⟨rfl,.inr ⟨L,V'⟩,λq=>?_,Qfl hu.l,gm⟩,V'⟩;rw [<-hu.c q,cut q];show Uq ⟨t.p,lo,m⟩ q=_;rw [Tj (t:=⟨t.p,lo,m⟩) m1 q];exact (V'.uniq V.cut (No Ql) hm V.van q).symm
 ·have hm:cq (cz t.p) lo hi m=1:=by
   rcases V.cut.val m with e | e | e <;> omega
  have V':Vt (cz t.p) L m hi:=⟨V.s,m2,by rw [V.eq_lo m1 (Qm m2) hm]; exact V.v⟩;refine ⟨⟨rfl,.inr ⟨L,V'⟩,λq=>?_,gm,Qfl hu.h⟩,V'⟩;rw [<-hu.c q,cut q];show Uq ⟨t.p,m,hi⟩ q=_;rw [Tj (t:=⟨t.p,m,hi⟩) m2 q];exact (V'.uniq V.cut hm V.hi1 V.van q).symm
def p2 (k:Nat):Rat:=((2^k:Nat):Rat)
theorem Qi8 (a b:Nat):p2 (a+b)=p2 a*p2 b:=by unfold p2; rw [Nat.pow_add,Rat.natCast_mul]
theorem Qcv {a b:Nat} (h:a<=b):p2 a<=p2 b:=Za.2 (Zo (by decide) h)
theorem Qly (k:Nat):0<=p2 k:=Xm
theorem Qcw (k:Nat):p2 (k+1)=p2 k+p2 k:=by have:=Ql7 k; unfold p2; rw [this]; grind
theorem Q7i (k:Nat):1<=p2 k:=Qcv (Qi k)
theorem Qyj {S m:Nat} {R:Rat} (h0:0≤R) (hR:R≤p2 m):∀ {p:List Rat},(∀ a∈p,Uk a≤p2 S)->evB R p≤p2 (S+(m+1)*p.length)
 | [],_=>Qly _
 |
  a::p,h=>by
  have ih:=Qyj h0 hR (p:=p) (λx hx=>h x (Qj _ hx));have h1:=h a (Qr ..);have h2:=S6 h0 hR (Al h0 p) ih;rw [<-Qi8] at h2;have e:S+(m+1)*(a::p).length=(m+(S+(m+1)*p.length))+1:=by rw [Q9,V8]; omega
  rw [e,Qcw];have h3:=Qcv (show S<=m+(S+(m+1)*p.length) by omega);simp only [evB]; grind
theorem Qyd {S m:Nat} {R:Rat} (h0:0≤R) (hR:R≤p2 m):∀ {p:List Rat},(∀ a∈p,Uk a≤p2 S)->dqB R p≤p2 (S+(m+1)*p.length)
 | [],_=>Qly _
 |
  a::p,h=>by
  have hp:=λx hx=>h x (Qj a hx)
  have ih:=Qyd h0 hR (p:=p) hp;have h1:=Qyj h0 hR (p:=p) hp;have h2:=S6 h0 hR (S4 h0 p) ih;rw [<-Qi8] at h2;have e:S+(m+1)*(a::p).length=(m+(S+(m+1)*p.length))+1:=by rw [Q9,V8]; omega
  rw [e,Qcw];have h3:=Qcv (show S+(m+1)*p.length<=m+(S+(m+1)*p.length) by omega);simp only [dqB]; grind
theorem Zg4 {S:Nat} {p:List Int} (h:Bd S p):∀ a∈cz p,Uk a≤p2 S:=λa ha=>by
 obtain ⟨z,hz,rfl⟩:=Zk.1 ha;have h1:=Qbd (q:=(z:Rat));rw [Rat.num_intCast] at h1;exact Q6 h1 (Qcv (h z hz))
theorem Qzr {D:Rat} {b:Nat} (h0:0<=D) (h:D<=p2 b):∀ n:Nat,D^n<=p2 (b*n)/\0<=D^n
 | 0=>by rw [Xd]; exact ⟨Q7i _,by decide⟩
 |
  n+1=>by
  obtain ⟨h1,h2⟩:=Qzr h0 h n;rw [Z0,V8,Qi8];exact ⟨S6 h2 h1 h0 h,Pq h2 h0⟩
theorem Zda {p:List Int} {n b:Nat} (hl:p.length=n+1) {q:Rat} (hb:Uj (q.den:Int)<=b) (h:Uf p q≠0):1<=Uk (Uf p q)*p2 (b*n):=by
 have hd0:(0:Rat)<((q.den:Int):Rat):=by
  have := @Rat.intCast_lt_intCast 0 (q.den:Int);rw [show ((0:Int):Rat)=0 from rfl] at this;exact this.2 (den_pos q)
 have hd:((q.den:Int):Rat)≠0:=by intro h; rw [h] at hd0; exact absurd hd0 (by decide)
 obtain ⟨_,hv⟩:=Qpo p q.num q.den hd p.length (Qk _);rw [Ye,X7,Gm,Zq] at hv;have hD:((q.den:Int):Rat)<=p2 b:=by
  have h1:=Rl.1 hb;rw [Zx] at h1;exact Za.2 (Ju h1)
 generalize (Pd p q.num (q.den:Int) p.length).1=Z at hv;generalize ((q.den:Int):Rat)=D at *;rw [hl,Z0] at hv;have hZ:(Z:Rat)=D^n*Uf p q:=by
  have:((Z:Rat)-D^n*Uf p q)*D=0:=by grind
  rcases Jr.1 this with h' | h'
  ·grind
  ·exact absurd h' hd
 obtain ⟨k1,k2⟩:=Qzr (Qm hd0) hD n;have hp0:=Qor hd0 n;have hz0:Z≠0:=λe=>by
  rw [e] at hZ;rcases Jr.1 hZ.symm with h' | h'
  ·rw [h'] at hp0; exact absurd hp0 (by decide)
  ·exact h h'
 have h1:=Ay hz0;rw [hZ,Cx] at h1;have h2:Uk (D^n)=D^n:=by unfold Uk; rw [if_neg (by grind)]
 rw [h2] at h1;have:=Q3 k1 (Gs (Uf p q));grind
theorem Zcc {p:List Int} {L:List (List Rat)} {lo hi r:Rat} (V:Vt (cz p) L lo hi) {n b m S:Nat} (hl:p.length=n+1) (hS:Bd S p) (h1:Uk r<=p2 m) (h2:Uk hi<=p2 m) (hr:lo<r) (hc:cq (cz p) lo hi r=1) (hb:Uj (r.den:Int)<=b):1<=(hi-r)*p2 (S+(m+1)*(n+1)+b*n):=by
 have hrh:r<hi:=by
  rcases Vy.1 (show r<=hi from by
   rcases U4 r hi with e | e
   ·exact e
   ·rw [Ia V.l e] at hc; exact absurd hc (by decide)) with e | e
  ·exact e
  ·rw [e] at hc; exact absurd hc V.hi1
 have s1:Uo (ev (cz p) r)=Tr (cz p) lo:=by
  rcases V.two hr (Qm hrh) with ⟨_,_,c⟩ | ⟨_,c,_⟩
  ·exact c
  ·exact absurd hc c
 have s0:=V.lowlo;have s2:Uo (ev (cz p) hi)≠Tr (cz p) lo:=λe=>by
  refine V.hi1 ?_;rw [Mx V.l Ql,if_neg (by rw [e]; exact s0),if_pos e]
 have hne:ev (cz p) r≠0:=λe=>s0 (by rw [<-s1]; exact Fc.2 e)
 have hd:Uk (ev (cz p) r)<=Uk (ev (cz p) hi-ev (cz p) r):=by
  rw [<-s1] at s2;unfold Uo at s2;unfold Uk;generalize ev (cz p) r=x at *;generalize ev (cz p) hi=y at *
  repeat' split
  all_goals (repeat' split at s2)
  all_goals grind
 have h3:=Q5x (R:=p2 m) h2 h1 (cz p);have h4:=Qyd (S:=S) (Qly m) (Ql (a:=p2 m)) (Zg4 hS);have hcl:(cz p).length=n+1:=by unfold cz; rw [List.length_map,hl]
 rw [hcl] at h4;have h5:=Zda hl hb (by rw [<-Ud]; exact hne);rw [<-Ud] at h5;have hq:Uk (hi-r)=hi-r:=by unfold Uk; rw [if_neg (by grind)]
 rw [hq] at h3;have h6:Uk (ev (cz p) r)<=(hi-r)*p2 (S+(m+1)*(n+1)):=Q6 (Q6 hd h3) (by
  have:=Zm h4 (show 0<=hi-r by grind);exact this)
 have h7:=Q3 h6 (Qly (b*n));rw [Qi8];grind
theorem Zhr {β:Type} {Bc:Tm->List Ct} {Br:Tm->β} {c:Cr} {r:β} (hS:KSt Bc Br c r):∃ ws o,Nq c.now c.l=some ws/\Qi6 ws=some o/\KSt Bc Br { c with l:=ws } r/\match o with
 | none=>∀ x∈Bc c.now,Tk x.p c.now none
 | some a=>Va a/\Pn c.now a/\(∃ x∈Bc c.now,Tk x.p c.now (some a)/\a∈tms x.p)/\∀ x∈Bc c.now,∃ o',Tk x.p c.now o'/\∀ u,o'=some u->¬Pn u a:=by
 obtain ⟨⟨ok,kk⟩,hcs,hr⟩:=hS;obtain ⟨ws,w1,w2,w3⟩:=Qn8 ok.n ok.l kk;have ok':=Qac ok w1;rw [hcs] at w2;have hc_w:∀ x∈Bc c.now,∃ w∈ws,w.c=x:=λx hx=>by
  have:x∈ws.map (·.c):=by rw [w2]; exact C9.2 hx
  exact Zk.1 this
 have hw_c:∀ w∈ws,w.c∈Bc c.now:=λw hw=>C9.1 (by rw [<-w2]; exact List.mem_map_of_mem hw)
 obtain ⟨o,o1,o2⟩:=Qvk ok'.l;refine ⟨ws,o,w1,o1,⟨⟨ok',λw hw _=>(w3 w hw).2⟩,w2,hr⟩,?_⟩;cases o with
 | none =>
  intro x hx;obtain ⟨w,hw,rfl⟩:=hc_w x hx;have:=(w3 w hw).2.1;rw [o2 w hw] at this;exact this
 |
  some a =>
  obtain ⟨va,⟨w,hw,hwa⟩,hmin⟩:=o2;have k:=(w3 w hw).2.1;rw [hwa] at k;exact ⟨va,k.2.2.1,⟨w.c,hw_c w hw,k,(w3 w hw).2.2 a hwa⟩,λx hx=>by
   obtain ⟨v,hv,rfl⟩:=hc_w x hx;exact ⟨v.fails,(w3 v hv).2.1,λu hu=>hmin v hv u hu⟩⟩
theorem Quz {Bc:Tm->List Ct} {now a:Tm} (hn:Va now) (ha:Va a) (hmin:∀ x∈Bc now,∃ o',Tk x.p now o'/\∀ u,o'=some u->¬Pn u a) {t:Rat} (ht:Va (tq t)) (hta:Uq a t=1) {E:List Tm} (h:Evs Bc t now E):E=[]:=by
 cases h with
 | nil=>rfl
 |
  cons he h1 h2 h3 h4 h5 =>
  exfalso;obtain ⟨x,hx,hxe⟩:=h4;obtain ⟨o',ho,hu⟩:=hmin x hx;cases o' with
  | none=>exact Qr5 hn hxe ho
  |
   some u =>
   have e:=Q7e hn hxe ho;exact hu u rfl ((Q9m e).1 (Zkf he.cut ht.cut h2 ((Iw ha.cut).1 (by omega))))
theorem Q5z {Bc:Tm->List Ct} {now a:Tm} (hn:Va now) (ha:Va a) (hx:∃ x∈Bc now,Tk x.p now (some a)) {t:Rat} (hta:Uq a t≠1) {E:List Tm} (h:Evs Bc t now E):E≠[]:=by
 rintro rfl
 cases h with
 |
  nil h =>
  obtain ⟨x,hx,hxa⟩:=hx;obtain ⟨o',ho,hu⟩:=h x hx;cases o' with
  | none=>exact Qr5 hn hxa ho
  |
   some u =>
   have e:=Q7e hn hxa ho;have h1:=(Iw ha.cut).2 ((Zef e).2 (hu u rfl));rcases ha.cut.val t with h2 | h2 | h2 <;> omega
theorem Qnp {β:Type} {Bc:Tm->List Ct} {Br:Tm->β} (S:Stab Bc Br) {now:Tm} (hn:Va now) {t:Rat} (ht:Va (tq t)) (hnow:¬Pn (tq t) now) (h:Evs Bc t now []):Bc (tq t)=Bc now/\Br (tq t)=Br now:=by
 cases h with
 |
  nil h =>
  refine S.st _ _ hn ht λx hx=>?_
  obtain ⟨o,ho,hu⟩:=h x hx;exact Qed (S.ok.p _ hn _ hx).dp hn ht hnow ho hu
structure LwS (t:Tm) (L:List (List Rat)) (D M k0 w0 j:Nat) (lo hi:Rat):Prop where
 hv:Hv t D M (k0+j) ⟨t.p,lo,hi⟩
 v:Vt (cz t.p) L lo hi
 w:(hi-lo)*p2 j<=p2 w0
theorem LwS.next {t:Tm} {L:List (List Rat)} {D M k0 w0 j:Nat} {lo hi:Rat} (h:LwS t L D M k0 w0 j lo hi) :
 (cq (cz t.p) lo hi (Ib lo hi)<=0->LwS t L D M k0 w0 (j+1) lo (Ib lo hi))/\(¬cq (cz t.p) lo hi (Ib lo hi)<=0->LwS t L D M k0 w0 (j+1) (Ib lo hi) hi):=by
 obtain ⟨s1,s2⟩:=Zcu h.hv h.v;have h2:(lo+hi) / 2*2=lo+hi:=Fe (by decide);have e:=Qbh lo hi;have hw:=h.w;have hj:=Qcw j;refine ⟨λhc=>?_,λhc=>?_⟩
 ·obtain ⟨a,b⟩:=s1 hc;refine ⟨a,b,?_⟩;rw [e,hj];generalize (lo+hi) / 2=m at *;have:(m-lo)*(p2 j+p2 j)=(hi-lo)*p2 j:=by
   have:m+m=lo+hi:=by grind
   have:(m-lo)*(p2 j+p2 j)=(m+m-lo-lo)*p2 j:=by grind
   rw [this,‹m+m=lo+hi›]; grind
  rw [this]; exact hw
 ·obtain ⟨a,b⟩:=s2 hc;refine ⟨a,b,?_⟩;rw [e,hj];generalize (lo+hi) / 2=m at *;have:(hi-m)*(p2 j+p2 j)=(hi-lo)*p2 j:=by
   have:m+m=lo+hi:=by grind
   have:(hi-m)*(p2 j+p2 j)=(hi+hi-(m+m))*p2 j:=by grind
   rw [this,‹m+m=lo+hi›]; grind
  rw [this]; exact hw
theorem Qnv {D M k s:Nat} {x:Rat} (h:Gr D M k x) (hs:Uj (M:Int)<=s):Uk x<=p2 s:=by
 refine Q6 h.b ?_;have h1:=Rl.1 hs;rw [Zx] at h1;exact Za.2 (Ju h1)
theorem LwS.few {t:Tm} {L:List (List Rat)} {D M k0 w0 j:Nat} {lo hi:Rat} (h:LwS t L D M k0 w0 j lo hi) {n S m b:Nat} (hl:t.p.length=n+1) (hS:Bd S t.p) (hM:Uj (M:Int)<=m) {r:Rat} (hb:Uj (r.den:Int)<=b) (hr:lo<r) (hc:Uq t r=1):j<=w0+(S+(m+1)*(n+1)+b*n):=by
 have hcq:cq (cz t.p) lo hi r=1:=by
  rw [<-Tj (t:=⟨t.p,lo,hi⟩) h.v.l r,h.hv.c]; exact hc
 have q1:=Qnv h.hv.l hM;have q2:=Qnv h.hv.h hM;have hrh:r<=hi:=by
  rcases U4 r hi with e | e
  ·exact e
  ·rw [Ia h.v.l e] at hcq; exact absurd hcq (by decide)
 have q3:Uk r<=p2 m:=by
  have a1:=Ru.1 q1;have a2:=Ru.1 q2;rw [Ru];constructor
  ·exact Q6 a1.1 (Qm hr)
  ·exact Q6 hrh a2.2
 have hg:=Zcc h.v hl hS q3 q2 hr hcq hb;obtain ⟨G,hG⟩:=nmE (S+(m+1)*(n+1)+b*n);rw [<-hG] at hg ⊢;rcases Q5 (w0+G) j with hj | hj
 ·exfalso;have h1:=Qcv (show w0+G+1<=j from hj);rw [Qcw,Qi8] at h1;have hw:=h.w;have hlo:0<hi-lo:=by have:=h.v.l; grind
  have h2:(hi-r)*p2 G<=(hi-lo)*p2 G:=Q3 (by grind) (Qly G);have h3:=Zm h1 (Qm hlo);have h4:1<=(hi-lo)*p2 G:=Q6 hg h2;have h5:=Q3 h4 (Qly w0);have h6:=Q7i w0;have e1:(hi-lo)*(p2 w0*p2 G+p2 w0*p2 G)=(hi-lo)*p2 G*p2 w0+(hi-lo)*p2 G*p2 w0:=by grind
  rw [e1] at h3;grind
 ·exact hj
end Orq
namespace Orq
section
variable {α:Type} (X Y:α->Rat)
def lx (a b:α):Prop:=X a<X b\/X a=X b/\Y a<Y b
def ori (a b c:α):Rat:=(X b-X a)*(Y c-Y a)-(X c-X a)*(Y b-Y a)
variable {X Y}
def Edg (Q:α->α->Prop):List α->Prop
 | a::b::r=>Q a b/\Edg Q (b::r)
 | _=>True
def Cnv (R:α->α->α->Prop):List α->Prop
 | a::b::c::r=>R a b c/\Cnv R (b::c::r)
 | _=>True
theorem Edg.tail {Q:α->α->Prop} {a:α} {l:List α} (h:Edg Q (a::l)):Edg Q l:=by
 cases l with
 | nil=>trivial
 | cons b l=>exact h.2
theorem Cnv.tail {R:α->α->α->Prop} {a:α} {l:List α} (h:Cnv R (a::l)):Cnv R l:=by
 match l,h with
 | [],_=>trivial
 | [_],_=>trivial
 | b::c::l,h=>exact h.2
theorem Edg.imp {Q Q':α->α->Prop}:∀ {l:List α},(∀ a∈l,∀ b∈l,Q a b->Q' a b)->Edg Q l->Edg Q' l
 | [],_,_=>trivial
 | [_],_,_=>trivial
 | a::b::l,hq,h=>⟨hq a (by simp) b (by simp) h.1,Edg.imp (l:=b::l) (λx hx y hy=>hq x (Qj _ hx) y (Qj _ hy)) h.2⟩
theorem Cnv.imp {R R':α->α->α->Prop}:∀ {l:List α},(∀ a∈l,∀ b∈l,∀ c∈l,R a b c->R' a b c)->Cnv R l->Cnv R' l
 | [],_,_=>trivial
 | [_],_,_=>trivial
 | [_,_],_,_=>trivial
 | a::b::c::l,hq,h=>⟨hq a (by simp) b (by simp) c (by simp) h.1,Cnv.imp (l:=b::c::l) (λx hx y hy z hz=>hq x (Qj _ hx) y (Qj _ hy) z (Qj _ hz)) h.2⟩
structure Stk (X Y:α->Rat) (P:List α) (st:List α):Prop where
 srt:st.Pairwise λb a=>lx X Y a b
 mem:∀ p∈st,p∈P
 edg:Edg (λb a=>∀ p∈P,0≤ori X Y a b p) st
 cnv:Cnv (λc b a=>0<ori X Y a b c) st
theorem Stk.tail {P:List α} {a:α} {st:List α} (h:Stk X Y P (a::st)):Stk X Y P st:=⟨(Xa.1 h.srt).2,λp hp=>h.mem p (Qj _ hp),h.edg.tail,h.cnv.tail⟩
end
end Orq
namespace Orr
open Go
end Orr
namespace Orr
def Qru (i:Nat) (rows:List (List (List Int))):Nat->List (List (List Int))
 | 0=>[]
 | j+1=>if j=i then Qru i rows j else Qru i rows j++[(rows.getD j []).drop 1]
def Zhu (rows:List (List (List Int))) (i:Nat):List (List (List Int)):=Qru i rows rows.length
structure Sq (s:Nat) (ds:List Nat) (k w:Nat) (rows:List (List (List Int))):Prop where
 l:rows.length=k
 w:∀ r∈rows,r.length=w
 t:∀ r∈rows,∀ p∈r,Ue p
 b:∀ r∈rows,∀ p∈r,Bd s p
 n:∀ r∈rows,∀ (j:Nat) (p:List Int),r[j]? = some p->p.length≤ds.getD j 0+1
theorem Qi4 {i:Nat} {rows:List (List (List Int))}:∀ {j:Nat} {r:List (List Int)},j≤rows.length->r∈Qru i rows j->∃ q∈rows,r=q.drop 1
 | 0,r,_,h=>by simp [Qru] at h
 |
  j+1,r,hj,h=>by
  simp only [Qru] at h
  split at h
  ·exact Qi4 (by omega) h
  ·rcases Qz.1 h with h | h
   ·exact Qi4 (by omega) h
   ·rw [Qt.1 h];exact ⟨rows.getD j [],Qc (i:=j) (by rw [Qg,Qd (by omega)]; rfl),rfl⟩
theorem Qrv {i:Nat} {rows:List (List (List Int))}:∀ (j:Nat),(Qru i rows j).length=if i<j then j-1 else j
 | 0=>rfl
 |
  j+1=>by
  have ih:=Qrv (i:=i) (rows:=rows) j;simp only [Qru]
  split
  ·rename_i e; subst e; rw [ih,if_neg (by omega),if_pos (by omega)]; omega
  ·rw [Zc,ih,Km]
   split <;> split <;> omega
theorem Sq.min {s d k w:Nat} {ds:List Nat} {rows:List (List (List Int))} (h:Sq s (d::ds) (k+1) (w+1) rows) {i:Nat} (hi:i<k+1):Sq s ds k w (Zhu rows i):=by
 have hl:=h.l;have hm:∀ {r:List (List Int)},r∈Zhu rows i->∃ q∈rows,r=q.drop 1:=λh=>Qi4 (Qk _) h
 refine ⟨by unfold Zhu; rw [Qrv,hl,if_pos hi]; omega,λr hr=>?_,λr hr p hp=>?_,λr hr p hp=>?_,λr hr j p hp=>?_⟩
 ·obtain ⟨q,hq,rfl⟩:=hm hr;rw [Jf,h.w q hq]; omega
 all_goals obtain ⟨q,hq,rfl⟩:=hm hr
 ·exact h.t q hq p (Zh hp)
 ·exact h.b q hq p (Zh hp)
 ·rw [Z9] at hp;have:=h.n q hq (1+j) p hp;rw [Yd 1 j] at this;exact this
theorem Sq.at {s d k w:Nat} {ds:List Nat} {rows:List (List (List Int))} (h:Sq s (d::ds) k (w+1) rows) {i:Nat} (hi:i<k):∃ p r,rows[i]? = some (p::r)/\(rows.getD i []).getD 0 []=p/\Ue p/\Bd s p/\p.length<=d+1:=by
 obtain ⟨r,hr⟩:=gxE (l:=rows) (i:=i) (by rw [h.l]; exact hi);have hm:=Qc hr;cases r with
 | nil=>have:=h.w _ hm; simp at this
 |
  cons p r =>
  have e:rows.getD i []=p::r:=by rw [Qg,hr]; rfl
  refine ⟨p,r,hr,by rw [e]; rfl,h.t _ hm p (by simp),h.b _ hm p (by simp),h.n _ hm 0 p rfl⟩
end Orr
namespace Orr
open Go Go.Proofs Orq
set_option maxRecDepth 10000
theorem gz {P:Program} [Mo P] {n:Nat} {Q:Exit->Sg->List OB->Prop} {L L':Sg} {B B':List OB} (i:Nat) {it:List It} (hs:H6 it=true) (h:Q2b [i] L B=some (L',B')) (k:AK P n Q it L' B'):AK P n Q it L B:=AK.sub (Qc3 h) hs k
end Orr
namespace Orq
open Orr Go
theorem Q1y {a b:Crv} (ha:Cs 10 3 a) (hb:Cs 10 3 b):Bd 21 (Gf a b)/\(Gf a b).length<=3:=by
 have l1:=Ul b.x a.d;have l2:=Ul a.x b.d;have:=ha.lx;have:=hb.lx;exact ⟨W8 (Pg (Ur hb.x ha.d) (Ur ha.x hb.d)) (by omega),Qa (Ry _ _) (by omega)⟩
theorem Q1x {a b:Crv} (ha:Cs 10 3 a) (hb:Cs 10 3 b):Bd 21 (Ge a b)/\(Ge a b).length<=3:=by
 have l1:=Ul b.y a.d;have l2:=Ul a.y b.d;have:=ha.ly;have:=hb.ly;exact ⟨W8 (Pg (Ur hb.y ha.d) (Ur ha.y hb.d)) (by omega),Qa (Ry _ _) (by omega)⟩
theorem Qlp {a b:Crv} (ha:Cs 10 3 a) (hb:Cs 10 3 b):Bd 45 (Fq a b)/\(Fq a b).length<=5:=by
 obtain ⟨b1,l1⟩:=Q1y ha hb;obtain ⟨b2,l2⟩:=Q1x ha hb;have k1:=Pz (Gf a b) (Gf a b);have k2:=Pz (Ge a b) (Ge a b);have m1:Bd (21+21+2) (Ff (Gf a b) (Gf a b)):=Bi b1 b1 (by omega);have m2:Bd (21+21+2) (Ff (Ge a b) (Ge a b)):=Bi b2 b2 (by omega);exact ⟨W8 (Qb0 m1 m2) (by omega),Qa (I9 _ _) (by omega)⟩
theorem Q6y {a b:Int} (ha:Uj a<=10) (hb:Uj b<=10):Uj ((a*b)*(a*b))<=40:=by
 have h1:=Uw a b; have h2:=Uw (a*b) (a*b); omega
theorem Qro {a b c d:Crv} (ha:Cs 10 3 a) (hb:Cs 10 3 b) (hc:Cs 10 3 c) (hd:Cs 10 3 d):Bd 86 (Uz a b c d)/\(Uz a b c d).length<=5:=by
 obtain ⟨b1,l1⟩:=Qlp hc hd;obtain ⟨b2,l2⟩:=Qlp ha hb;have e1:=Q6y ha.d hb.d;have e2:=Q6y hc.d hd.d;have k1:=Ul (Fq c d) ((a.d*b.d)*(a.d*b.d));have k2:=Ul (Fq a b) ((c.d*d.d)*(c.d*d.d));exact ⟨W8 (Pg (Ur b1 e1) (Ur b2 e2)) (by omega),Qa (Ry _ _) (by omega)⟩
theorem Zib (q:Rat) (p:List Int):Hq (tq q) p=U8 p q:=by
 unfold Hq Qjp
 split
 ·rename_i h; rw [List.eq_nil_of_length_eq_zero h]; rfl
 ·rw [if_pos (Sb.2 (Ql (a:=q)))]; rfl
theorem Q6i (q:Rat) (p:List Int):Ms (Hq (tq q)) p=Lx p q:=by
 have:Hq (tq q)=λp=>U8 p q:=funext (Zib q)
 rw [this]; rfl
theorem Qwg {b a r:List Int} {k:Nat} (h:RRun b k a r):r.length<b.length:=by
 induction h with
 | stop h=>exact h
 | step _ _ _ _ _ ih=>exact ih
theorem Qur {k:Nat} {l f:List (List Int)} {g:List Int} (h:CRun k l g f):(∀ p∈l,Bd 9000000 p/\p.length≤64)->g.length≤64->∀ p∈f,Bd 9000000 p/\p.length≤64:=by
 induction h with
 | stop _=>exact λh _=>h
 |
  step h1 h2 h3 h4 h5 h6 h7 h8 h9 _ ih =>
  intro hl hg;refine ih (λp hp=>?_) ?_
  ·rcases Qz.1 hp with hp | hp
   ·exact hl p hp
   ·rw [Qt.1 hp]; exact ⟨h3,hg⟩
  ·have:=Qwg h4;exact Qa (Dq _) (Qa (Aw _) (by omega))
theorem Qqm {p:List Int} {C:List (List Int)} (h:ChRun p p C) (hl:p.length≤60):∀ x∈C,Bd 9000000 x/\x.length≤64:=by
 obtain ⟨n,hn⟩:=h.chain;refine Qur hn (λx hx=>?_) ?_
 ·rw [Qt.1 hx]; exact ⟨W8 h.bd (by decide),by omega⟩
 ·refine Qa (Aw _) ?_;have:=Tl p; omega
def bq (n:Nat):Nat->Nat
 | 0=>100
 | i+1=>17000+n*bq n i
structure HI (a:Tm) (L:List (List Rat)) (j:Nat) (lo hi:Rat):Prop where
 w:∃ D M k0,LwS a L D M k0 226 j lo hi/\0<M/\Uj (D:Int)<=224/\Uj (M:Int)<=225/\k0<=14925
structure HX (a:Tm) (C:List (List Int)) (q:Rat) (b j:Nat) (lo hi:Rat):Prop where
 ql:Qs b lo
 qh:Qs b hi
 c:lo=hi/\q<lo/\Uq a hi=0\/HI a (C.map cz) j lo hi
theorem HI.qs {a:Tm} {L:List (List Rat)} {j:Nat} {lo hi:Rat} (h:HI a L j lo hi) {b:Nat} (hb:15374+j<=b):Qs b lo/\Qs b hi:=by
 obtain ⟨D,M,k0,hw,hM,h1,h2,h3⟩:=h.w;exact ⟨Qli hw.hv.l hM (by omega),Qli hw.hv.h hM (by omega)⟩
theorem HI.cq {a:Tm} {L:List (List Rat)} {j:Nat} {lo hi:Rat} (h:HI a L j lo hi) (q:Rat):Orq.cq (cz a.p) lo hi q=Uq a q:=by
 obtain ⟨D,M,k0,hw,_⟩:=h.w;rw [<-Tj (t:=⟨a.p,lo,hi⟩) hw.v.l q]; exact hw.hv.c q
theorem HI.lt {a:Tm} {L:List (List Rat)} {j:Nat} {lo hi:Rat} (h:HI a L j lo hi):lo<hi:=by
 obtain ⟨D,M,k0,hw,_⟩:=h.w;exact hw.v.l
theorem HI.few {a:Tm} {L:List (List Rat)} {j:Nat} {lo hi:Rat} (h:HI a L j lo hi) {n b:Nat} (hn:a.p.length<=n+1) (h2:2<=a.p.length) (n4:n<=4) (hS:Bd 224 a.p) {r:Rat} (hb:Qs b r) (hr:lo<r) (hc:Uq a r=1):j<=1580+n*b:=by
 obtain ⟨D,M,k0,hw,hM,h1,hM2,h3⟩:=h.w;have h5:=hw.few (n:=a.p.length-1) (by omega) hS hM2 (b:=b) hb.2 hr hc;have h6:b*(a.p.length-1)<=n*b:=by rw [Ze]; exact Qw _ (by omega)
 have h7:(225+1)*(a.p.length-1+1)<=(225+1)*5:=Zg _ (by omega);omega
structure HA (a:Tm) (n:Nat) (C:List (List Int)):Prop where
 va:Va a
 pt:a.point=false
 n:a.p.length<=n+1
 b:Bd 224 a.p
 ch:ChRun a.p a.p C
 pr:Gl a.p=a.p
 i:HI a (C.map cz) 0 a.lo a.hi
theorem Zj5 {a:Tm} (va:Va a) (hp:a.point=false) {n:Nat} (hz:Sz 86 (n+1) a) (n4:n<=4):∃ C,HA a n C:=by
 obtain ⟨l,P,g,h1,sq,V⟩:=va.sc hp;have hb:Bd 224 a.p:=hz.b;have hch:=Q48 sq va.n2 va.n hb (by decide) h1;obtain ⟨D,M,k,g1,g2,g3,g4,g5,g6⟩:=hz.g;refine ⟨a.p::l,va,hp,hz.n,hb,hch,by rw [Ts]; exact Qsq sq.pq,⟨D,M,k,⟨⟨rfl,.inr ⟨_,V⟩,λ_=>rfl,g1,g2⟩,V,?_⟩,g3,g4,g5,by omega⟩⟩;have q1:=Ru.1 (Qnv g1 g5);have q2:=Ru.1 (Qnv g2 g5);have e:p2 226=p2 225+p2 225:=Qcw 225;have e0:p2 0=1:=rfl;rw [e,e0];grind
def xlo (a:Tm):Rat:=if U8 a.p a.hi=0 then a.hi else a.lo
theorem HA.start {a:Tm} {n:Nat} {C:List (List Int)} (h:HA a n C) {q:Rat} {b:Nat} (hq:Uq a q=1) (hb:15374<=b):HX a C q b 0 (xlo a) a.hi:=by
 obtain ⟨q1,q2⟩:=h.i.qs (b:=b) (by omega);unfold xlo
 split
 ·rename_i h0;refine ⟨q2,q2,.inl ⟨rfl,?_,?_⟩⟩
  ·refine Js.1 λhle=>?_
   have hc:=h.va.cut;have h1:Uq a a.hi=0:=?_
   ·rcases Vy.1 hle with h2 | h2
    ·have:=hc.mono' h2 (by omega); omega
    ·rw [h2] at h1; omega
   rw [<-h.i.cq,Mx h.i.lt Ql,if_pos (by rw [Ud,<-Tx]; exact h0)]
  ·rw [<-h.i.cq,Mx h.i.lt Ql,if_pos (by rw [Ud,<-Tx]; exact h0)]
 ·exact ⟨q1,q2,.inr h.i⟩
theorem HX.cmp {a:Tm} {C:List (List Int)} {q:Rat} {b j:Nat} {lo hi:Rat} (h:HX a C q b j lo hi) (hp:HI a (C.map cz) 0 a.lo a.hi) (hq:Uq a q=1):crR C a.p lo hi q=1:=by
 rcases h.c with ⟨rfl,h1,_⟩ | h1
 ·rw [Qne];rcases Rw lo q with ⟨e,e'⟩ | ⟨e,e'⟩ | ⟨e,e'⟩ <;> grind
 ·obtain ⟨D,M,k0,hw,_⟩:=h1.w;rw [Quq hw.v,h1.cq,hq]
theorem HX.next {a:Tm} {n:Nat} {C:List (List Int)} (ha:HA a n C) (n4:n<=4) {q:Rat} {b0 j:Nat} {lo hi:Rat} (h:HX a C q (17000+n*b0) j lo hi) (hb:Qs b0 q) (hq:Uq a q=1) (hlo:lo<q) :
 lo<hi/\j<=1580+n*b0/\(crR C a.p lo hi (Ib lo hi)<=0->HX a C q (17000+n*b0) (j+1) lo (Ib lo hi))/\(¬crR C a.p lo hi (Ib lo hi)<=0->HX a C q (17000+n*b0) (j+1) (Ib lo hi) hi):=by
 rcases h.c with ⟨_,h1,_⟩ | h1
 ·grind
 ·have hj:=h1.few ha.n ha.va.n2 n4 ha.b hb hlo hq;obtain ⟨D,M,k0,hw,g1,g2,g3,g4⟩:=h1.w;obtain ⟨s1,s2⟩:=hw.next;refine ⟨h1.lt,hj,λhc=>?_,λhc=>?_⟩
  ·rw [Quq hw.v] at hc;have hi':HI a (C.map cz) (j+1) lo (Ib lo hi):=⟨D,M,k0,s1 hc,g1,g2,g3,g4⟩;obtain ⟨q1,q2⟩:=hi'.qs (b:=17000+n*b0) (by omega);exact ⟨q1,q2,.inr hi'⟩
  ·rw [Quq hw.v] at hc;have hi':HI a (C.map cz) (j+1) (Ib lo hi) hi:=⟨D,M,k0,s2 hc,g1,g2,g3,g4⟩;obtain ⟨q1,q2⟩:=hi'.qs (b:=17000+n*b0) (by omega);exact ⟨q1,q2,.inr hi'⟩
theorem HX.fin {a:Tm} {C:List (List Int)} {q:Rat} {b j:Nat} {lo hi:Rat} (ha:Va a) (h:HX a C q b j lo hi):(lo≠hi->Uq a lo=1)/\Uq a hi≠1/\lo<=hi:=by
 rcases h.c with ⟨h1,h2,h3⟩ | h1
 ·exact ⟨λh=>absurd h1 h,by omega,by rw [h1]; exact Ql⟩
 ·obtain ⟨D,M,k0,hw,_⟩:=h1.w;refine ⟨λ_=>by rw [<-h1.cq]; exact No Ql,by rw [<-h1.cq]; exact hw.v.hi1,Qm h1.lt⟩
theorem Zj6 {p:List Int} (h:Cp p) {n:Nat} (n4:n<=4) (hb:Bd 86 p) (hn:p.length<=n+1) {a:Tm} (ha:Va a) (ht:a∈tms p):∃ C,HA a n C:=by
 unfold tms at ht;cases hl:Ea p with
 | none=>rw [hl] at ht; cases ht
 |
  some l =>
  rw [hl] at ht;obtain ⟨h1,h2⟩:=Q9s h (s:=86) (by decide) hb hl a ht;exact Zj5 ha h1 (n:=n) ⟨Qa h2.n hn,h2.b,h2.g⟩ n4
theorem Zex {n:Nat} (h:n<=4):∀ i,i<=3->bq n i<=400000/\(i<3->bq n (i+1)<=400000):=by
 have key:∀ i,bq n i<=bq 4 i:=λi=>by
  induction i with
  | zero=>exact Qk _
  | succ i ih=>exact Nat.add_le_add_left (Zi h ih) _
 have k1:=key 1; have k2:=key 2; have k3:=key 3;have e1:bq 4 1=17400:=rfl;have e2:bq 4 2=86600:=rfl;have e3:bq 4 3=363400:=rfl;intro i hi
 match i,hi with
 | 0,_=>exact ⟨by show 100<=_; decide,λ_=>by show bq n 1<=_; omega⟩
 | 1,_=>exact ⟨by omega,λ_=>by show bq n 2<=_; omega⟩
 | 2,_=>exact ⟨by omega,λ_=>by show bq n 3<=_; omega⟩
 | 3,_=>exact ⟨by omega,λh=>by omega⟩
end Orq
namespace Orr
open Go Orq
theorem Zan {l:List Pt} (hl:∀ p∈l,Nml p.c/\Cs 10 3 p.c) {a:Tm}:∀ x∈bcP l a,Bd 86 x.p/\x.p.length≤5/\x.want=Ms (Hq a) x.p:=λx hx=>by
 match l,hx with
 |
  u::v::l',hx =>
  unfold bcP at hx;simp only [P4] at hx;obtain ⟨h3,h4⟩:=Rz (Hq a) (l:=u::v::l') (Uv (u::v::l')) (u,v) ⟨by simp,by simp⟩ (Hh _ _);obtain ⟨m,hm,rfl⟩:=Qd3 hx;obtain ⟨h1,h2⟩:=Hh _ _ m hm;have:=Qro (hl _ h3).2 (hl _ h4).2 (hl _ h1).2 (hl _ h2).2;rw [Qco];exact ⟨this.1,this.2,by rw [Rt]⟩
end Orr
namespace Orr
open Go Go.Proofs Orq
set_option maxRecDepth 10000
def evF (a:Tm) (w:Wt):Option (List LV):=match w.fails with
 | none=>none
 | some t=>if Qf7 t a=some 0 then some ([.int .i64 w.c.kind,.int .i64 w.c.i0,.int .i64 w.c.i1,.int .i64 w.c.i2,.int .i64 w.c.i3]++ta t) else none
theorem Q5w {a:Tm} {ws:List Wt} {i:Nat} {w:Wt} (h:ws[i]? = some w):(ws.take (i+1)).filterMap (evF a)=(ws.take i).filterMap (evF a)++(evF a w).toList:=by
 rw [Xk,h,List.filterMap_append];show _++List.filterMap (evF a) [w]=_;cases hw:evF a w <;> simp [hw]
theorem Q3r {T:Nat} {c:Cr} {r0 r1:List (List LV)} {ws:List Wt} {a:Tm} (hc:CrOk c) (h:Nq c.now c.l=some ws) (hr:Qi6 ws=some (some a)) (va:Va a):G6 Tryz.prog 26 [.one (.ow 0 0)] [.blk T (Ce c r0 r1)] [.one (.row (ws.filterMap (evF a)))] [.blk T (Ce { c with l:=ws } r0 r1)]:=by
 have cn:=Qmz (T:=T) (r0:=r0) (r1:=r1) hc h hr;have hc':=Qac hc h;have hk:=hc'.k;have hw:=Nk ws;refine Gu Tryz.func26 rfl ?_;refine go tt [.c [0] cn,.f rfl,.o 5 174 14] rfl trivial ?_;refine lp (S:=Nat) 3 (λL1 i=>(22,.v (.one (.int .i64 (i:Int))))::(5,.v (.one (.orow 2 14 none)))::L1) (λi=>[.blk T (Ce { c with l:=ws } r0 r1),.blk 74 (ta a),.row false 174 14 ((ws.take i).filterMap (evF a))]) (λi=>ws.length-i) (λi=>i<=ws.length) 0 (Qi _) rfl (λ_ _=>rfl) rfl λi hi=>?_
 by_cases hlt:i<ws.length
 ·obtain ⟨w,hx⟩:=gxE (l:=ws) (i:=i) hlt;have hl:decide ((i:Int)<((Qau ws).length:Int))=true:=by simp [hw]; omega
  have hfl:((ws.take i).filterMap (evF a)).length<=i:=Qa (V6 _ _) (by rw [Qy]; omega);have hg:=Q5w (a:=a) hx;have hvb:=(hc'.l w (Qc hx)).f;obtain ⟨wc,wk,wf⟩:=w;have hk:ws.length<=1000:=hk;cases wf with
  |
   none =>
   refine go tt [.t hl,.x (Te hx),.g 28 false rfl,.f rfl] rfl (by simp [W9]; omega) ?_;exact rd (i+1) (by omega) hlt (by rw [hg]; simp [evF]; rfl)
  |
   some t =>
   have vt:=hvb t rfl;obtain ⟨r,r1',_⟩:=O5 vt va;have cc:=Qhl vt.tb va.tb r1';by_cases D:r=0
   ·have he:evF a ⟨wc,wk,some t⟩=some ([.int .i64 wc.kind,.int .i64 wc.i0,.int .i64 wc.i1,.int .i64 wc.i2,.int .i64 wc.i3]++ta t):=if_pos (by rw [r1',D]);have cl:=Ee (b:=t) (l:=[]) vt.tb (λt ht=>by cases ht) (by decide) rfl;refine go tt [.t hl,.x (Te hx),.g 28 true rfl,.c [] cc,.t (decide_eq_true D),.c [] cl,.s (l:=[[.int .i64 wc.kind,.int .i64 wc.i0,.int .i64 wc.i1,.int .i64 wc.i2,.int .i64 wc.i3]++ta t]) (sz:=14) (λc hc=>by rw [Qt.1 hc]; rfl)] rfl (by simp [W9]; omega) ?_;exact rd (i+1) (by omega) hlt (by rw [hg,he]; rfl)
   ·have he:evF a ⟨wc,wk,some t⟩=none:=if_neg (by rw [r1']; intro h; injection h with h; exact D h);refine go tt [.t hl,.x (Te hx),.g 28 true rfl,.c [] cc,.f (decide_eq_false D)] rfl (by simp [W9]; omega) ?_;exact rd (i+1) (by omega) hlt (by rw [hg,he]; simp; rfl)
 ·obtain rfl:i=ws.length:=by omega
  rw [Q8];exact ed tt [2] [0] [.f (by simp [hw])] rfl trivial
theorem Zb9 {ws:List Wt} {a:Tm} (va:Va a) {w:Wt} (hw:w∈ws) (hf:w.fails=some a):0<(ws.filterMap (evF a)).length:=by
 obtain ⟨r,h1,h2⟩:=O5 va va;have h0:r=0:=by
  rcases h2 with ⟨_,h⟩ | ⟨e,_⟩ | ⟨_,h⟩
  ·exact absurd h λh=>Oc va.cut va.cut h h
  ·exact e
  ·exact absurd h λh=>Oc va.cut va.cut h h
 have he:evF a w=some ([.int .i64 w.c.kind,.int .i64 w.c.i0,.int .i64 w.c.i1,.int .i64 w.c.i2,.int .i64 w.c.i3]++ta a):=by
  unfold evF; rw [hf]; exact if_pos (by rw [h1,h0])
 obtain ⟨x,hx⟩:∃ x,x∈ws.filterMap (evF a):=⟨_,Jk.2 ⟨w,hw,he⟩⟩;exact List.length_pos_of_mem hx
theorem Qrp {now:Tm}:∀ {ws:List Wt},(∀ w∈ws,w.known=true)->Nq now ws=some ws
 | [],_=>rfl
 |
  w::l,h=>by
  simp only [Nq];rw [if_pos (h w (Qr ..)),Qrp λx hx=>h x (Qj _ hx)];rfl
theorem Qrq {now:Tm} {l ws:List Wt} (h:Nq now l=some ws):∀ w∈ws,w.known=true:=λv hv=>by
 obtain ⟨h1,h2⟩:=Qab h;obtain ⟨i,hi⟩:=Jp hv;have hil:i<l.length:=by rw [<-h1]; exact (Qf.1 hi).1
 obtain ⟨v',h3,h4⟩:=h2 i _ (Qd hil);rw [hi] at h3; injection h3 with h3; subst h3;rcases h4 with ⟨h5,rfl⟩ | ⟨_,r,_,rfl⟩
 ·exact h5
 ·rfl
end Orr
namespace Orq
open Orr Go
theorem Q8j {β:Type} {Bc:Tm->List Ct} {Br:Tm->β} {n:Nat} (n4:n≤4) (hsz:∀ a,∀ x∈Bc a,Bd 86 x.p/\x.p.length≤n+1/\x.want=Ms (Hq a) x.p) (S:Stab Bc Br) {c:Cr} {r:β} {q:Rat} (hS:KSt Bc Br c r) (hq:c.now=tq q) :
 ∃ ws o,Nq c.now c.l=some ws/\Qi6 ws=some o/\Nq c.now ws=some ws/\KSt Bc Br { c with l:=ws } r/\∀ a,o=some a->Va a/\0<(ws.filterMap (evF a)).length/\Uq a q=1/\(∃ C,HA a n C)/\(∃ x∈Bc c.now,Tk x.p c.now (some a))/\∀ x∈Bc c.now,∃ o',Tk x.p c.now o'/\∀ u,o'=some u->¬Pn u a:=by
 obtain ⟨ws,o,h1,h2,h3,h4⟩:=Zhr hS;refine ⟨ws,o,h1,h2,Qrp (Qrq h1),h3,λa ha=>?_⟩;subst ha;obtain ⟨va,hlt,⟨x,hx,hxn,hxt⟩,hmin⟩:=h4;obtain ⟨o',o1,o2⟩:=Qvk h3.inv.ok.l;rw [h2] at o1;injection o1 with o1; subst o1;obtain ⟨_,⟨w,hw,hwf⟩,_⟩:=o2;obtain ⟨k1,k2,_⟩:=hsz c.now x hx;have hcp:=S.ok.p _ hS.inv.ok.n _ hx;refine ⟨va,Zb9 va hw hwf,?_,Zj6 hcp n4 k1 k2 va hxt,⟨x,hx,hxn⟩,hmin⟩;rw [hq] at hlt;have h5:=(Iw va.cut (t:=q)).2 hlt;rcases va.cut.val q with e | e | e <;> omega
theorem Zj7 {β:Type} {Bc:Tm->List Ct} {Br:Tm->β} {n:Nat} (hsz:∀ a,∀ x∈Bc a,Bd 86 x.p/\x.p.length≤n+1/\x.want=Ms (Hq a) x.p) {c:Cr} {r:β} {q:Rat} (hS:KSt Bc Br c r) (hq:c.now=tq q):∀ x∈Gv (c.l.map (·.c)),Bd 86 x.p/\x.p.length≤n+1/\Ue x.p/\Lx x.p q=x.want:=λx hx=>by
 have h1:=C9.1 hx;obtain ⟨w,hw,rfl⟩:=Zk.1 h1;have h2:w.c∈Gv (Bc c.now):=by rw [<-hS.cs]; exact h1
 obtain ⟨k1,k2,k3⟩:=hsz _ _ (C9.1 h2);refine ⟨k1,k2,(hS.inv.ok.l w hw).p.t,?_⟩;rw [k3,hq,Q6i]
end Orq
namespace Orr
open Go Go.Proofs Orq
set_option maxRecDepth 10000
abbrev ax (p:List Int) (C:List (List Int)) (lo hi:Rat):List LV:=[rp (zp p),.row (zls C)]++fr lo++fr hi
theorem Qre {sg:List Int->Int} {l:List (List Int)} {i:Nat} {p:List Int} (h:l[i]? = some p):(idl (l.map sg))[i]? = some [.int .i64 (sg p)]:=Zcf (by rw [Q7,h]; rfl)
theorem Q4r {l:List (List Int)} {sg:List Int->Int} (hl:l.length<=1000) (hs:∀ p,-1<=sg p/\sg p<=1):Ua Tryz.prog 219 [.one (.row (idl (l.map sg)))] [.one (.int .i64 (P6 sg l:Nat))]:=by
 have hpl:(idl (l.map sg)).length=l.length:=by simp
 refine Gu Tryz.func219 rfl ?_;refine go tt [] rfl trivial ?_;refine lp (S:=Nat) 0 (λL1 i=>(8,.v (.one (.int .i64 (i:Int))))::(3,.v (.one (.int .i64 ((Dc sg l i).1:Int))))::(4,.v (.one (.int .i64 (Dc sg l i).2)))::L1) (λ_=>[]) (λi=>l.length-i) (λi=>i<=l.length) 0 (Qi _) rfl (λ_ _=>rfl) rfl λi hi=>?_
 by_cases hlt:i<l.length
 ·obtain ⟨p,hp⟩:=gxE (l:=l) (i:=i) hlt;have hst:Dc sg l (i+1)=Hx sg (Dc sg l i) p:=P9 _ _ _ hp;obtain ⟨b1,b2,b3⟩:=Qjx hs l i;have b4:=hs p;have hx:=Qre (sg:=sg) hp;have ht:decide ((i:Int)<((idl (l.map sg)).length:Int))=true:=decide_eq_true (by omega);by_cases h0:sg p=0
  ·refine go tt [.t ht,.x hx,.f (by simpa using h0)] rfl (by simp [W9]; omega) ?_;exact rd (i+1) (by omega) hlt (by rw [hst,show Hx sg (Dc sg l i) p=Dc sg l i from by unfold Hx; rw [if_pos h0]]; rfl)
  ·by_cases h2:(Dc sg l i).2=0
   ·refine go tt [.t ht,.x hx,.t (by simpa using h0),.g 18 false (by simp [h2]),.f rfl,.x hx] rfl (by simp [W9]; omega) ?_;exact rd (i+1) (by omega) hlt (by rw [hst,show Hx sg (Dc sg l i) p=((Dc sg l i).1,sg p) from by unfold Hx; rw [if_neg h0,if_neg (by omega)]]; rfl)
   ·by_cases h1:(Dc sg l i).2=-(sg p)
    ·refine go tt [.t ht,.x hx,.t (by simpa using h0),.g 18 true (by simpa using h2),.x hx,.t (by simp; omega),.x hx] rfl (by simp [W9]; omega) ?_;exact rd (i+1) (by omega) hlt (by rw [hst,show Hx sg (Dc sg l i) p=((Dc sg l i).1+1,sg p) from by unfold Hx; rw [if_neg h0,if_pos h1]]; rfl)
    ·refine go tt [.t ht,.x hx,.t (by simpa using h0),.g 18 true (by simpa using h2),.x hx,.f (by simp; omega),.x hx] rfl (by simp [W9]; omega) ?_;exact rd (i+1) (by omega) hlt (by rw [hst,show Hx sg (Dc sg l i) p=((Dc sg l i).1,sg p) from by unfold Hx; rw [if_neg h0,if_neg h1]]; rfl)
 ·obtain rfl:i=l.length:=by omega
  refine en tt [.f (decide_eq_false (by omega))] rfl ?_ trivial;unfold Dc P6; rw [List.take_length]
def Cok (C:List (List Int)):Prop:=C.length≤1000/\∀ p∈C,Bd 9000000 p/\p.length≤64
theorem Qhx {C:List (List Int)} {q:Rat} (hC:Cok C) (hq:Qs 1000000 q):Ua Tryz.prog 164 [.one (.row (zls C)),.agg (fr q)] [.one (.int .i64 (Su C q:Nat))]:=by
 obtain ⟨hl,hp⟩:=hC;have hzl:=A8 C;refine Gu Tryz.func164 rfl ?_;refine go tt [.o 5 3 1] rfl trivial ?_;refine lp (S:=Nat) 2 (λL1 i=>(9,.v (.one (.int .i64 (i:Int))))::(5,.v (.one (.orow 1 1 none)))::L1) (λi=>[.blk 35 (fr q),.row false 3 1 (idl ((C.take i).map λp=>U8 p q))]) (λi=>C.length-i) (λi=>i<=C.length) 0 (Qi _) rfl (λ_ _=>rfl) rfl λi hi=>?_
 have hol:(idl ((C.take i).map λp=>U8 p q)).length=i:=by simp; omega
 by_cases h:i<C.length
 ·have hx:=A7 h;have hm:=Xw h;have he:C.getD i []=C[i]:=by rw [Qg,Qd h]; rfl
  rw [he] at hx;have cs:=Qb6 (W8 (hp _ hm).1 (by decide)) (hp _ hm).2 hq;have hg:idl ((C.take (i+1)).map λp=>U8 p q)=idl ((C.take i).map λp=>U8 p q)++[[.int .i64 (U8 C[i] q)]]:=by
   have e:(C.take (i+1)).map (λp=>U8 p q)=(C.take i).map (λp=>U8 p q)++[U8 C[i] q]:=by rw [Xk,Qd h,Jz]; rfl
   rw [e]; exact Jz
  refine go tt [.t (decide_eq_true (by omega)),.x hx,.c [] cs,.s (sz:=1) (Qvn _)] rfl (by simp [W9,hol,-List.map_take]; omega) ?_;exact rd (i+1) (by omega) h (by rw [hg]; rfl)
 ·have e:i=C.length:=by omega
  rw [e,Q8];exact en tt [.f (decide_eq_false (by omega)),.p 1,.c [] (Q4r (sg:=λp=>U8 p q) hl λp=>Na p q)] rfl rfl trivial
theorem Qui {C:List (List Int)} {lo hi:Rat} (hC:Cok C) (ql:Qs 1000000 lo) (qh:Qs 1000000 hi):Ua Tryz.prog 93 [.one (.row (zls C)),.agg (fr lo),.agg (fr hi)] [.one (.int .i64 (G7 C lo hi))]:=by
 have b1:Su C lo<=C.length:=P7 (λp=>Na p lo) C;have b2:Su C hi<=C.length:=P7 (λp=>Na p hi) C;have hl:=hC.1;have c1:=Cm (qh.mono (by decide)) (ql.mono (by decide));unfold G7;by_cases h:Fb hi lo<0
 ·rw [if_pos h];exact w tt Tryz.func93 rfl [.c [] c1,.t (by simpa using h)] rfl rfl trivial
 ·rw [if_neg h];exact w tt Tryz.func93 rfl [.c [] c1,.f (by simpa using h),.c [] (Qhx hC ql),.c [] (Qhx hC qh)] rfl rfl (by simp [W9]; omega)
theorem Qp9 {p:List Int} {C:List (List Int)} {lo hi:Rat} (ql:Qs 1000000 lo) (qh:Qs 1000000 hi):Ua Tryz.prog 89 [.agg (ax p C lo hi)] [.one (.bool (decide (Fb lo hi=0)))] :=
 w tt Tryz.func89 rfl [.c [] (Cm (ql.mono (by decide)) (qh.mono (by decide)))] rfl rfl trivial
theorem O2 {p:List Int} {C:List (List Int)} {lo hi t:Rat} (hp:Bd 30000000 p) (hpl:p.length<=64) (hC:Cok C) (ql:Qs 1000000 lo) (qh:Qs 1000000 hi) (qt:Qs 1000000 t):Ua Tryz.prog 28 [.agg (ax p C lo hi),.agg (fr t)] [.one (.int .i64 (crR C p lo hi t))]:=by
 have c0:=Qp9 (p:=p) (C:=C) ql qh;have c1:=Cm (ql.mono (t:=40000000) (by decide)) (qt.mono (by decide));have c2:=Cm (qt.mono (t:=40000000) (by decide)) (ql.mono (by decide));have c3:=Cm (qt.mono (t:=40000000) (by decide)) (qh.mono (by decide));have c4:=Qui hC ql qt;have c5:=Qb6 hp hpl qt;unfold crR;by_cases h0:Fb lo hi=0
 ·rw [if_pos h0];exact w tt Tryz.func28 rfl [.c [] c0,.t (decide_eq_true h0),.c [] c1] rfl rfl trivial
 rw [if_neg h0];by_cases h1:Fb t lo<=0
 ·rw [if_pos h1];exact w tt Tryz.func28 rfl [.c [] c0,.f (decide_eq_false h0),.c [] c2,.t (decide_eq_true h1)] rfl rfl trivial
 rw [if_neg h1];by_cases h2:0<Fb t hi
 ·rw [if_pos h2];exact w tt Tryz.func28 rfl [.c [] c0,.f (decide_eq_false h0),.c [] c2,.f (decide_eq_false h1),.c [] c3,.t (decide_eq_true h2)] rfl rfl trivial
 rw [if_neg h2];by_cases h3:G7 C lo t=0
 ·rw [if_pos h3];exact w tt Tryz.func28 rfl [.c [] c0,.f (decide_eq_false h0),.c [] c2,.f (decide_eq_false h1),.c [] c3,.f (decide_eq_false h2),.c [] c4,.t (decide_eq_true h3)] rfl rfl trivial
 rw [if_neg h3];by_cases h4:U8 p t=0
 ·rw [if_pos h4];exact w tt Tryz.func28 rfl [.c [] c0,.f (decide_eq_false h0),.c [] c2,.f (decide_eq_false h1),.c [] c3,.f (decide_eq_false h2),.c [] c4,.f (decide_eq_false h3),.c [] c5,.t (decide_eq_true h4)] rfl rfl trivial
 rw [if_neg h4];exact w tt Tryz.func28 rfl [.c [] c0,.f (decide_eq_false h0),.c [] c2,.f (decide_eq_false h1),.c [] c3,.f (decide_eq_false h2),.c [] c4,.f (decide_eq_false h3),.c [] c5,.f (decide_eq_false h4)] rfl rfl trivial
theorem Za7 {p:List Int} {C c:List (List Int)} {lo hi t:Rat} (hp:Bd 30000000 p) (hpl:p.length<=64) (hC:Cok C) (ql:Qs 1000000 lo) (qh:Qs 1000000 hi) (qt:Qs 1000000 t) (hc:Cok c):Ua Tryz.prog 25 [.agg (ax p C lo hi),.agg (aq t c)] [.one (.int .i64 (crR C p lo hi t))]:=by
 have c0:=Qp9 (p:=p) (C:=C) ql qh;have ct:Ua Tryz.prog 89 [.agg (aq t c)] [.one (.bool true)]:=Qhy qt;have c1:=O2 hp hpl hC ql qh qt;by_cases h0:Fb lo hi=0
 ·have e:crR C p lo hi t=-(crR c [-t.num,(t.den:Int)] t t lo):=by
   rw [Qne]; unfold crR; rw [if_pos h0];rcases Rw lo t with ⟨e,h⟩ | ⟨e,h⟩ | ⟨e,h⟩ <;> rcases Rw t lo with ⟨e',h'⟩ | ⟨e',h'⟩ | ⟨e',h'⟩ <;> grind
  have hbt:Bd 30000000 [-t.num,(t.den:Int)]:=W8 (Q3h qt.1 qt.2) (by decide);have c2:=O2 (p:=[-t.num,(t.den:Int)]) (C:=c) (lo:=t) (hi:=t) hbt (by show 2<=64; decide) hc qt qt ql;have hb:-1<=crR c [-t.num,(t.den:Int)] t t lo/\crR c [-t.num,(t.den:Int)] t t lo<=1:=by
   rw [Qne]; rcases Rw t lo with ⟨e',h'⟩ | ⟨e',h'⟩ | ⟨e',h'⟩ <;> omega
  rw [e];exact w tt Tryz.func25 rfl [.c [] c0,.t (decide_eq_true h0),.c [] c2] rfl rfl (by simp [W9]; omega)
 ·exact w tt Tryz.func25 rfl [.c [] c0,.f (decide_eq_false h0),.c [] ct,.t rfl,.c [] c1] rfl rfl trivial
theorem Qxg {q:Rat} (hq:Qs 1000000 q):Ua Tryz.prog 82 [.agg (rl q)] [.agg (fr q)]:=by
 have h1:Uj q.num<=1000000:=hq.1;have h2:Uj (q.den:Int)<=1000000:=hq.2;have cm:=O3 (a:=q.num) (b:=(q.den:Int)) (by omega) (by omega);have e:Fx q.num (q.den:Int)=q:=by rw [Qai (by have:=den_pos q; omega),Zq]
 rw [e] at cm;exact w tt Tryz.func82 rfl [.c [] (Qdx (z:=q.num) (by omega)),.c [] (Qdx (z:=(q.den:Int)) (by omega)),.c [] cm] rfl rfl trivial
def Q1l (p:List Int) (lo hi:Rat):Rat:=if Fb lo hi≠0/\U8 p hi=0 then hi else lo
theorem Zba {p:List Int} {C:List (List Int)} {lo hi:Rat} (hp:Bd 30000000 p) (hpl:p.length<=64) (ql:Qs 1000000 lo) (qh:Qs 1000000 hi):Ua Tryz.prog 81 [.agg (ax p C lo hi)] [.agg (ax p C (Q1l p lo hi) hi)]:=by
 have c1:=Cm (ql.mono (t:=40000000) (by decide)) (qh.mono (by decide));have c2:=Qb6 hp hpl qh;unfold Q1l;by_cases h0:Fb lo hi=0
 ·rw [if_neg (λh=>h.1 h0)];exact w tt Tryz.func81 rfl [.c [] c1,.g 9 false (by simp [h0]),.f rfl] rfl rfl trivial
 by_cases h1:U8 p hi=0
 ·rw [if_pos ⟨h0,h1⟩];exact w tt Tryz.func81 rfl [.c [] c1,.g 9 true (by simp [h0]),.c [] c2,.t (decide_eq_true h1)] rfl rfl trivial
 ·rw [if_neg (λh=>h1 h.2)];exact w tt Tryz.func81 rfl [.c [] c1,.g 9 true (by simp [h0]),.c [] c2,.f (decide_eq_false h1)] rfl rfl trivial
theorem Qxf {p:List Int} {C:List (List Int)} {lo hi:Rat} (tp:Ue p) (hp:Bd 8000000 p) (h2:2<=p.length) (hpl:p.length<=64) (hpr:Gl p=p) (hC:ChRun p p C) (ql:Qs 1000000 lo) (qh:Qs 1000000 hi):Ua Tryz.prog 20 [.agg (ta ⟨p,lo,hi⟩)] [.agg (ax p C (Q1l p lo hi) hi)]:=by
 have cf:=Lb (p:=p) (W8 hp (by decide)) (by omega);rw [tp] at cf;have cp:=Lc tp (W8 hp (by decide)) (by omega);rw [hpr] at cp;have cc:=Qqe tp (W8 hp (by decide)) (by omega) h2 hC;have ce:=Zba (p:=p) (C:=C) (lo:=lo) (hi:=hi) (W8 hp (by decide)) hpl ql qh;exact w tt Tryz.func20 rfl [.c [] cf,.c [] cp,.c [] cc,.c [] (Qxg ql),.c [] (Qxg qh),.c [] ce] rfl rfl trivial
theorem Qv9 {q:Rat} (h:Qs 1000000 q):ChRun [-q.num,(q.den:Int)] [-q.num,(q.den:Int)] [[-q.num,(q.den:Int)],[1]]/\Gl [-q.num,(q.den:Int)]=[-q.num,(q.den:Int)]:=by
 have hg:Int.gcd (-q.num) (q.den:Int)=1:=by
  rw [Int.neg_gcd];have:=q.reduced;unfold Nat.Coprime at this;simpa [Int.gcd] using this
 exact ⟨Qkr (den_pos q) hg (by rw [Ga]; exact h.1) h.2,Oj (den_pos q) hg⟩
theorem Q3n {q:Rat} (h:Qs 1000000 q):Ua Tryz.prog 20 [.agg (ta (tq q))] [.agg (aq q [[-q.num,(q.den:Int)],[1]])]:=by
 obtain ⟨h1,h2⟩:=Qv9 h;have c:=Qxf (p:=[-q.num,(q.den:Int)]) (lo:=q) (hi:=q) (Qpe q) (W8 (bd2 (s:=1000000) (by rw [Ga]; exact h.1) h.2) (by decide)) (by show 2<=2; decide) (by show 2<=64; decide) h2 h1 h h;have e:Q1l [-q.num,(q.den:Int)] q q=q:=if_neg λh=>h.1 (Cn.2 rfl)
 rw [e] at c;exact c
theorem Zjv {q:Rat} (h:Qs 1000000 q):Cok [[-q.num,(q.den:Int)],[1]]:=⟨by show 2<=1000; decide,λp hp=>by
 simp only [Qo,Wp,or_false] at hp;rcases hp with rfl | rfl
 ·exact ⟨W8 (bd2 (s:=1000000) (by rw [Ga]; exact h.1) h.2) (by decide),by show 2<=64; decide⟩
 ·exact ⟨b1 (by decide),by show 1<=64; decide⟩⟩
theorem Za8 {lo hi:Rat} (ql:Qs 1000000 lo) (qh:Qs 1000000 hi):Ua Tryz.prog 95 [.agg (fr lo),.agg (fr hi)] [.agg (fr (Ib lo hi))]:=by
 have c1:=Qt2 (ql.mono (t:=20000000) (by decide)) (qh.mono (by decide));have c2:=Ze0 (n:=1) (d:=2) (by decide) (by decide);have e:Fx 1 2=(1:Rat) / 2:=by rw [Qai (by decide)]; decide +kernel
 rw [e] at c2;have q1:Qs 40000000 (lo+hi):=(Zh2 ql qh).mono (by decide);have q2:Qs 40000000 ((1:Rat) / 2):=by rw [<-e]; exact ⟨by decide,by decide⟩
 have c3:=Qt7 q1 q2;have em:(lo+hi)*((1:Rat) / 2)=Ib lo hi:=by rw [Qbh]; grind
 rw [em] at c3;exact w tt Tryz.func95 rfl [.c [] c1,.c [] c2,.c [] c3] rfl rfl trivial
theorem Qkm {p:List Int} {C:List (List Int)} {lo hi:Rat} (hp:Bd 30000000 p) (hpl:p.length<=64) (hC:Cok C) (ql:Qs 1000000 lo) (qh:Qs 1000000 hi) (qm:Qs 1000000 (Ib lo hi)) (hne:lo≠hi):Ua Tryz.prog 29 [.agg (ax p C lo hi)] [.agg (if crR C p lo hi (Ib lo hi)<=0 then ax p C lo (Ib lo hi) else ax p C (Ib lo hi) hi)]:=by
 have c1:=Cm (ql.mono (t:=40000000) (by decide)) (qh.mono (by decide));have c2:=Za8 ql qh;have c3:=O2 hp hpl hC ql qh qm;have h0:¬Fb lo hi=0:=λh=>hne (Cn.1 h)
 by_cases h:crR C p lo hi (Ib lo hi)<=0
 ·rw [if_pos h];exact w tt Tryz.func29 rfl [.c [] c1,.f (decide_eq_false h0),.c [] c2,.c [] c3,.t (decide_eq_true h)] rfl rfl trivial
 ·rw [if_neg h];exact w tt Tryz.func29 rfl [.c [] c1,.f (decide_eq_false h0),.c [] c2,.c [] c3,.f (decide_eq_false h)] rfl rfl trivial
set_option maxHeartbeats 8000000 in
theorem Qj7 {zs:List RawPt} {n d:Int} (hz:∀ z∈zs,z.Ok) (hn:-9223372036854775808≤n/\n≤9223372036854775807) (hdd:-9223372036854775808≤d/\d≤9223372036854775807):Ua Tryz.prog 4 [.one (.row (Qc9 zs)),.one (.int .i64 n),.one (.int .i64 d)] [.one (.bool true)]:=by
 obtain ⟨e,he,hd,hm⟩:=Zg2 (Qex 4 20 zs);have hq0:=Qmk n d;have cb:=Q02 hz rfl he hd hm hn hdd (Zkq (hq0.mono (by decide))) rfl;obtain ⟨O,hO⟩:=nmE (Qex 4 20 zs);have hO4:O.length<=4:=by rw [hO]; exact I3 _ _ (Qi _)
 have hlit:∀ p∈O,Q0n p:=λp hp=>by rw [hO] at hp; exact Qlo (by decide) p hp
 rw [<-hO] at cb he hd;obtain ⟨M,hM⟩:=nmE (Gg Sx (Qas O e));rw [<-hM] at cb;obtain ⟨q,hq⟩:=nmE (A2 n d);rw [<-hq] at cb hq0;have hcn:(Qas O e).length=e:=by rw [Qfr,Qb7 he]
 have hMl:M.length=e:=by rw [hM,Pm,hcn]
 have hMd:Lr M:=by rw [hM]; exact Q1f (Qwp _).symm (Qkw hd)
 have hok:∀ p∈M,Nml p.c/\Cs 10 3 p.c:=λp hp=>by
  rw [hM,E3] at hp;exact Qx8 hlit e p hp
 have hsc:∀ p∈M,Sc p.c:=λp hp=>⟨(hok p hp).1,(hok p hp).2.mono (by decide) (by decide)⟩
 have hln:M.length<=10:=by omega
 have hv:Va (tq q):=Q2u (hq0.mono (by decide));have S:Stab (bcP M) (brP M):=Zkz hsc hln hMd;obtain ⟨c0,hc0⟩:=nmE (Q3i M (tq q));have hst:KSt (bcP M) (brP M) c0 (brP M (tq q)):=by rw [hc0]; exact Zgb S hv
 have hn0:c0.now=tq q:=by rw [hc0]; rfl
 have hev0:c0.ev=0:=by rw [hc0]; rfl
 rw [<-hc0] at cb;have hal:(Qj3 M).length≤1000000:=Zak (by omega);have hsz:∀ a,∀ x∈bcP M a,Bd 86 x.p/\x.p.length≤4+1/\x.want=Ms (Hq a) x.p:=λa=>Zan hok
 have adv:=λ{t:Rat} (ht:Qs 400000 t) {c:Cr} {r:List (List LV)} (hS:KSt (bcP M) (brP M) c r) (h:Uq c.now t<=0)=>Zf3 S (Qby hsc) (λa _=>Qxb) hal ht hS h
 refine Gu Tryz.func4 rfl ?_;refine go tt [.c [0,1] cb,.f rfl] rfl trivial ?_;refine lp (S:=Nat×Cr×(List (List LV))×Rat) 2 (λL1 s=>(10,.v (.one (.int .i64 (s.1:Int))))::L1) (λs=>[.blk 82 (Ce s.2.1 (Uy M) s.2.2.1),.blk 158 (plB M q [[-q.num,(q.den:Int)],[1]] (Ln q M))]) (λs=>3-s.1) (λs=>s.1<=3/\KSt (bcP M) (brP M) s.2.1 s.2.2.1/\s.2.1.now=tq s.2.2.2/\Qs (bq 4 s.1) s.2.2.2/\0<=s.2.1.ev/\s.2.1.ev<=((s.1*67000000:Nat):Int)) (0,c0,brP M (tq q),q) ⟨Qi _,hst,hn0,hq0.mono (by show 100<=100; decide),by show 0<=c0.ev; omega,by show c0.ev<=_; omega⟩ rfl (λ_ _=>rfl) rfl λ⟨i,c,r,cur⟩ ⟨hi,hS,hcur,hcq,hev1,hev2⟩=>?_
 dsimp only at hi hS hcur hcq hev1 hev2 ⊢;by_cases hr:i<3
 ·have hb1:bq 4 i<=400000:=(Zex (by decide) i (by omega)).1;have hb2:bq 4 (i+1)<=400000:=(Zex (by decide) i (by omega)).2 hr;have h4:=hcq.mono hb1;have h6:Qs 1000000 cur:=h4.mono (by decide);obtain ⟨ws,o,w1,w2,w3,hS2,hnx⟩:=Q8j (n:=4) (by decide) hsz S hS hcur;have hld:=Zj7 hsz hS hcur;have cNow:=Qt6 (T:=82) (c:=c) (r0:=Uy M) (r1:=r) hS.inv.ok.n;rw [hcur] at cNow;have cFA:=Q3n h6;have cC:=Qp7 (T:=82) (c:=c) (r0:=Uy M) (r1:=r) hS.inv.ok;have cNx:=Qmz (T:=82) (r0:=Uy M) (r1:=r) hS.inv.ok w1 w2;obtain ⟨L,hL⟩:=nmE (Gv (c.l.map (·.c)));rw [<-hL] at cC hld;have hLl:L.length<=1000:=by rw [hL,Da,Q4]; exact hS.inv.ok.k
  have hcl:=Dh L;obtain ⟨cc,hcc⟩:=nmE ([[-cur.num,(cur.den:Int)],[1]]);have hck:Cok cc:=by rw [hcc]; exact Zjv h6
  rw [<-hcc] at cFA;refine go tt [.t (decide_eq_true (by omega)),.c [0] cNow,.c [] cFA,.c [0] cC] rfl (by simp [W9]) ?_;refine lp (S:=Nat) 3 (λL1 k=>(47,.v (.one (.int .i64 (k:Int))))::L1) (λ_=>[.blk 82 (Ce c (Uy M) r),.blk 158 (plB M q [[-q.num,(q.den:Int)],[1]] (Ln q M)),.blk 37 (aq cur cc)]) (λk=>L.length-k) (λk=>k<=L.length) 0 (Qi _) rfl (λ_ _=>rfl) rfl λk hk=>?_
  by_cases hkl:k<L.length
  ·obtain ⟨x,hx⟩:=gxE (l:=L) (i:=k) hkl;obtain ⟨x1,x2,x3,x4⟩:=hld x (Qc hx);have cf:=Lb (p:=x.p) (W8 x1 (by decide)) (by omega);rw [x3] at cf;have ca:=Qqd (c:=cc) (W8 x1 (by decide)) (by omega) h6;rw [x4] at ca;refine go tt [.t (decide_eq_true (by omega)),.x (Qa9 hx),.c [] cf,.c [] ca,.x (Qa9 hx),.f (by simp)] rfl (by simp [W9] <;> omega) ?_;exact rd (k+1) (by omega) hkl rfl
  ·cases o with
   | none=>exact en tt [.f (decide_eq_false (by omega)),.c [0] cNx,.t rfl,.c [] Qkv] rfl rfl (by simp [W9])
   |
    some a =>
    obtain ⟨va,hpos,hlt,⟨C,hA⟩,hex,hmin⟩:=hnx a rfl;have hokC:Cok C:=⟨hA.ch.small,Qqm hA.ch (by have:=hA.n; omega)⟩;have hX0:=hA.start hlt (b:=bq 4 (i+1)) (by show 15374<=17000+_; omega);have hAb:Bd 8000000 a.p:=W8 hA.b (by decide);have hAl:a.p.length<=64:=by have:=hA.n; omega
    have hAq:=hA.i.qs (b:=1000000) (by decide);have cFa:=Qxf (p:=a.p) (C:=C) (lo:=a.lo) (hi:=a.hi) va.tr hAb va.n2 hAl hA.pr hA.ch hAq.1 hAq.2;have hxl:Q1l a.p a.lo a.hi=xlo a:=by
     have:Fb a.lo a.hi≠0:=λh=>by
      have h1:=Cn.1 h;have h2:=hA.i.lt;rw [h1] at h2; exact Rat.lt_irrefl h2
     unfold Q1l xlo;by_cases h:U8 a.p a.hi=0
     ·rw [if_pos ⟨this,h⟩,if_pos h]
     ·rw [if_neg (λh'=>h h'.2),if_neg h]
    rw [hxl] at cFa;have hx4:Qs 1000000 (xlo a):=hX0.ql.mono (by omega);have hh4:Qs 1000000 a.hi:=hX0.qh.mono (by omega);have cCm:=Za7 (p:=a.p) (C:=C) (c:=cc) (lo:=xlo a) (hi:=a.hi) (t:=cur) (W8 hAb (by decide)) hAl hokC hx4 hh4 h6 hck;rw [hX0.cmp hA.i hlt] at cCm;have cBt:=Q3r (T:=82) (c:={ c with l:=ws }) (r0:=Uy M) (r1:=r) hS2.inv.ok w3 w2 va;have hbl:¬((ws.filterMap (evF a)).length:Int)=0:=by omega
    refine go tt [.f (decide_eq_false (by omega)),.c [0] cNx,.f rfl,.c [] cFa,.c [] cCm,.g 80 false (decide_eq_false (by decide)),.c [0] cBt,.f (decide_eq_false hbl),.c [0,5] Q0z] rfl (by simp [W9] <;> omega) ?_;refine lp (S:=Nat×Rat×Rat) 6 (λL1 _=>L1) (λs=>[.blk 82 (Ce { c with l:=ws } (Uy M) r),.blk 158 (plB M q [[-q.num,(q.den:Int)],[1]] (Ln q M)),.blk 37 (aq cur cc),.blk 74 (ta a),.blk 37 (ax a.p C s.2.1 s.2.2),.blk 82 (Ce { c with l:=ws } (Uy M) r)]) (λs=>1581+4*bq 4 i-s.1) (λs=>HX a C cur (bq 4 (i+1)) s.1 s.2.1 s.2.2) (0,xlo a,a.hi) hX0 rfl (λ_ _=>rfl) rfl λ⟨j,lo,hi⟩ hX=>?_
    dsimp only at hX ⊢;have ql6:Qs 1000000 lo:=hX.ql.mono (by omega);have qh6:Qs 1000000 hi:=hX.qh.mono (by omega);have cW:=O2 (p:=[-cur.num,(cur.den:Int)]) (C:=cc) (lo:=cur) (hi:=cur) (t:=lo) (W8 (Q3h h6.1 h6.2) (by decide)) (by show 2<=64; decide) hck h6 h6 ql6;rw [Qne] at cW;by_cases hlo:lo<cur
    ·obtain ⟨n1,n2,n3,n4⟩:=HX.next hA (by decide) hX hcq hlt hlo;have hne:lo≠hi:=λh=>by rw [h] at n1; exact Rat.lt_irrefl n1
     have hW:0<Fb cur lo:=Ph.2 hlo;by_cases hc:crR C a.p lo hi (Ib lo hi)<=0
     ·have h5:=n3 hc;have cH:=Qkm (p:=a.p) (C:=C) (W8 hAb (by decide)) hAl hokC ql6 qh6 (h5.qh.mono (by show 17000+_<=_; exact Qa hb2 (by decide))) hne;rw [if_pos hc] at cH;refine go tt [.c [] cW,.t (decide_eq_true hW),.c [] cH] rfl (by simp [W9]) ?_;exact rd (j+1,lo,Ib lo hi) (by dsimp only; omega) h5 rfl
     ·have h5:=n4 hc;have cH:=Qkm (p:=a.p) (C:=C) (W8 hAb (by decide)) hAl hokC ql6 qh6 (h5.ql.mono (by show 17000+_<=_; exact Qa hb2 (by decide))) hne;rw [if_neg hc] at cH;refine go tt [.c [] cW,.t (decide_eq_true hW),.c [] cH] rfl (by simp [W9]) ?_;exact rd (j+1,Ib lo hi,hi) (by dsimp only; omega) h5 rfl
    ·have hcl':cur<=lo:=Rat.not_lt.1 hlo;have hW:¬0<Fb cur lo:=λh=>hlo (Ph.1 h)
     obtain ⟨f1,f2,f3⟩:=HX.fin va hX;have qh4:Qs 400000 hi:=hX.qh.mono hb2;have ql4:Qs 400000 lo:=hX.ql.mono hb2;have hci:cur<=hi:=Q6 hcl' f3;have cE:=Cm (ql6.mono (t:=40000000) (by decide)) (qh6.mono (by decide));have cTh:=Q4a (q:=hi) (qh6.mono (by decide));have hcm:Uq c.now hi<=0:=by rw [hcur,Qmo]; exact Ag.2 hci
     obtain ⟨K1,c1,E1,k1,k2,k3,k4,k5,k6,k7⟩:=adv qh4 hS2 hcm;have hE1:E1≠[]:=Q5z (t:=hi) hS.inv.ok.n va hex f2 k7;have hE1l:0<E1.length:=Jq.2 hE1;have cA1:=Qxj (l:=M) (K:=K1) qh4 hsc hln hS2.inv.ok ⟨hev1,by show c.ev+_<=_; omega⟩ hcm k2;have hnl:¬(0:Int)+((E1.length:Nat):Int)<1:=by omega
     have hinv:i+1<=3/\KSt (bcP M) (brP M) c1 (brP M (tq hi))/\c1.now=tq hi/\Qs (bq 4 (i+1)) hi/\0<=c1.ev/\c1.ev<=(((i+1)*67000000:Nat):Int):=⟨hr,k4,k3,hX.qh,by rw [k5]; show 0<=c.ev+_; omega,by rw [k5]; show c.ev+_<=_; omega⟩;by_cases hne:lo=hi
     ·have h0:Fb lo hi=0:=Cn.2 hne;rw [h0] at cE;refine go tt [.c [] cW,.f (decide_eq_false hW),.c [] cE,.f rfl,.c [] cTh,.c [0] cA1,.g 144 false rfl,.f (decide_eq_false (by omega))] rfl (by simp [W9] <;> omega) ?_;exact rd (i+1,c1,brP M (tq hi),hi) (by dsimp only; omega) hinv rfl
     ·have h0:¬Fb lo hi=0:=λh=>hne (Cn.1 h)
      have cTl:=Q4a (q:=lo) (ql6.mono (by decide));have hcm2:Uq c.now lo<=0:=by rw [hcur,Qmo]; exact Ag.2 hcl'
      obtain ⟨K2,c2,E2,m1,m2,m3,m4,m5,m6,m7⟩:=adv ql4 hS2 hcm2;have hE2:E2=[]:=Quz hS.inv.ok.n va hmin (Q2u ql4) (f1 hne) m7;subst hE2;have hsame:=(Qnp S hS.inv.ok.n (Q2u ql4) (by rw [hcur]; exact λh=>absurd (Zeg.1 h) (Rat.not_lt.2 hcl')) m7).2;have cA2:=Qxj (l:=M) (K:=K2) ql4 hsc hln hS2.inv.ok ⟨hev1,by show c.ev+_<=_; omega⟩ hcm2 m2;have hrr:r=brP M (tq lo):=by rw [hsame]; exact hS.r
      rw [<-hrr] at cA2;have cAl:=Q3j (c:={ c with l:=ws }) (c':=c2) (l:=M) (l':=M) (m:=M) (a:=tq lo) (r:=r) (by omega) hrr;have hev3:¬¬c2.ev=c.ev:=λh=>h (by rw [m5]; show c.ev+((0:Nat):Int)=_; omega)
      refine go tt [.c [] cW,.f (decide_eq_false hW),.c [] cE,.t (by simpa using h0),.c [] cTl,.c [5] cA2,.g 113 true rfl,.g 116 false (decide_eq_false (by simp)),.lo,.c [0,5] cAl,.g 122 false rfl,.lo,.c [5] Qkl,.lo,.c [0] Qkl,.f (by simpa using hev3),.c [] cTh,.c [0] cA1,.g 144 false rfl,.f (decide_eq_false (by omega))] rfl (by simp [W9] <;> omega) ?_;exact rd (i+1,c1,brP M (tq hi),hi) (by dsimp only; omega) hinv rfl
 ·exact en tt [.f (decide_eq_false (by omega)),.c [] Qkv] rfl rfl (by simp [W9])
end Orr
namespace Orr
open Go Go.Proofs
variable {H:Type} {enc:TypeId×Value->H} {w:World} {base:Nat} {spare:Nat->Bool} {Zj7:Bool}
theorem Dn {α:Type} {l:List α} {n i:Nat} (h:l.length=n) (hi:i<n):∃ x,l[i]? = some x:=⟨l[i]'(by omega),Qd (by omega)⟩
end Orr
namespace Orr
open Go Go.Proofs Go.ChangeShapes Go.WideShapes Go.ChangeAt Go.RowKit Go.WideElems
theorem Zbq {w:World} {a:Addr} {v:Value} (h:w.cell? a=some v):a.spot=none/\a.block<w.heap.size:=by
 simp only [World.cell?] at h
 split at h
 ·rename_i c t fr hc
  split at h
  ·cases h
  ·rename_i hs;refine ⟨by cases e:a.spot with | none=>rfl | some _=>simp [e] at hs,?_⟩;exact (Array.getElem?_eq_some_iff.1 hc).1
 ·cases h
theorem Zaj {a:Addr} (h:a.spot=none) (n m:Nat):(a.add n).add m=⟨a.block,a.off+n+m,none⟩:=by
 obtain ⟨b,o,s⟩:=a;simp only at h;subst h;simp only [Addr.add]
 split
 ·rename_i h; subst h
  split
  ·rename_i h; subst h; simp
  ·simp
 ·split
  ·rename_i h; subst h; simp
  ·simp
def fr0 (w:World):Fr:=⟨λb=>b<w.heap.size,λ_=>False,w,λ_=>False,λ_=>none⟩
theorem hs0 (w:World):HS (fr0 w) (ob []) (nw []) (λ_=>none) (λ_=>False) w where
 size:=Qk _
 kept:=λb hb=>⟨hb,rfl,Iff.rfl⟩
 ids:=λi h=>h.elim
 nj:=λi h=>by rw [Qoi] at h; cases h
 io:=⟨rfl,rfl⟩
 blk:=λi=>by rw [Qoi]; trivial
 nk:=λi g c m h _=>by rw [Qoi] at h; cases h
 inj:=λi j g c m c' m' h _ _ _=>by rw [Qoi] at h; cases h
 mlt:=λb h=>h.elim
 m0:=λb _ h=>h.elim
 un:=λi _=>⟨rfl,rfl⟩
 uj:=λi _ h=>h.elim
theorem Zdz {w w':World} {bl:Nat->OB} {U:Nat->Prop} {E:Mt} {M:Nat->Prop} (h:HS (fr0 w) bl U E M w') {p:MemPlace} (hp:p.block<w.heap.size):w.sameAt w' p:=by
 cases p with
 | cell b off=>simp only [World.sameAt,World.cell?]; rw [(h.kept b hp).2.1]; rfl
 | map b=>exact (h.kept b hp).2.1
theorem Zcl {w w':World} {bl:Nat->OB} {U:Nat->Prop} {E:Mt} {M:Nat->Prop} (h:HS (fr0 w) bl U E M w') (may:MemPlace->Prop):w.keptBut w' may:=by
 refine ⟨h.io.1,h.io.2,λi hi=>?_⟩;have e:w'.heap[i]? = w.heap[i]? := (h.kept i hi).2.1;rw [e];cases w.heap[i]? with
 | none=>rfl
 | some o=>cases o <;> simp
end Orr
