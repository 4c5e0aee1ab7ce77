/- T19 T20 T21 T22 T23 T24 T25 G1 G2 SortL KinL K1 K2 F6 F7 F8 F9 G3 G4 -/
import Derived.Test.YtpnhifedfcgjbaaGreatPart06
import Derived.Test.YtpnhifedfcgjbaaGreatPart00
import Derived.Test.YtpnhifedfcgjbaaGreatPart05
set_option linter.all false
namespace Orq
open Orr Go
structure Pr1 (p:List Int):Prop where
 t:Uo p
 m:Prm p
 l:0<Ux p
theorem Pr1.n {p:List Int} (h:Pr1 p):p.length≠0:=λe=>by
 have:=h.l;rw [Qi e] at this;exact absurd this (by decide)
theorem Q5o {p:List Int} (tp:Uo p) (h:p.length≠0):Pr1 (Uq p):=by
 obtain ⟨h1,h2,h3,h4,_⟩:=Td tp h;exact ⟨h1,h3,h4⟩
theorem Pr1.one {p:List Int} (h:Pr1 p) (hl:p.length<2):p=[1]:=by
 have hn:=h.n;obtain ⟨c,rfl⟩:∃ c,p=[c]:=Ko.1 (by omega);have h1:=h.m c λk=>by cases k <;> simp
 have h2:0<c:=h.l;have:=Int.le_of_dvd (by decide) h1;rw [show c=1 by omega]
theorem Zhj {p g h:List Int} (hp:Prm p) (e:∀ t,Up p t=Up g t*Up h t):Prm h:=λd hd=>by
 refine hp d λk=>?_
 have:=Nm (p:=p) (q:=U5 g h) (λt=>by rw [e,Fo]) k;rw [this];have e2:∀ t,Up (U5 g h) t=(d:Rat)*Up (U5 g (h.map (· / d))) t:=λt=>by
  have h1:Up h t=(d:Rat)*Up (h.map (· / d)) t:=by
   have:=Nn d 0 t (max h.length (h.map (· / d)).length) (h.map (· / d)) [] h (by omega) (by simp) (by omega) λk=>by
    rw [Qea,K8 (hd k)]; simp
   rw [this]; simp only [Up]; push_cast; grind
  rw [Fo,Fo,h1]; grind
 have:=Nm (p:=U5 g h) (q:=Ff (U5 g (h.map (· / d))) d) (λt=>by rw [e2,Tk]; grind) k;rw [this,Rl]; exact Ks _ _
theorem Zhi {p g h:List Int} (hp:Pr1 p) (hg:0<Ux g) (tg:Uo g) (th:Uo h) (e:∀ t,Up p t=Up g t*Up h t):Pr1 h:=by
 obtain ⟨p1,p2⟩:=Hm hp.t hp.n e;have:=Qum tg th hp.t e p1 p2;refine ⟨th,Zhj hp.m e,?_⟩;have hl:=hp.l;rw [this] at hl;rcases J5 (Ux h) 0 with h1 | h1 | h1
 ·have:=Ka hg h1; omega
 ·rw [h1] at hl; omega
 ·exact h1
structure Sqp (p g q:List Int):Prop where
 pp:Pr1 p
 pg:Pr1 g
 pq:Pr1 q
 e:∀ t,Up p t=Up g t*Up q t
 c:∃ U V,∀ t,Up g t=ev U t*Up p t+ev V t*dv (cz p) t
 d:∃ z,∀ t,dv (cz p) t=Up g t*ev z t
theorem Sqp.num {p g q:List Int} (h:Sqp p g q) {d:List Rat} (h1:Oj d (cz q)) (h2:Oj d (Ms (cz q))):∃ c:Rat,c≠0/\∀ t,ev d t=c:=by
 obtain ⟨U,V,hc⟩:=h.c;have hpow:=sqf (k:=1) (a:=cz p) (g:=cz g) (q:=cz q) (d:=d) (U:=U) (V:=V) (by decide) (λt=>by rw [Un,Un,Un,h.e]) (λt=>by rw [Un,Un,hc]; grind) h1 h2;rcases Qht d with h3 | ⟨m,_,h3⟩
 ·obtain ⟨u,hu⟩:=h1;exact absurd (λt=>by rw [<-Un,hu,h3]; grind) (Qhk h.pq.t (by have:=h.pq.n; omega))
 ·obtain rfl:=Qox h3 (Qce h.pg.t (by have:=h.pg.n; omega)) hpow;refine ⟨d.getD 0 0,h3.1,λt=>?_⟩;cases d with
  | nil=>exact absurd (by simp) h3.1
  |
   cons c l =>
   have:=Cj (p:=l) λk=>by have:=h3.2 (k+1) (by omega); rwa [Q3] at this
   simp only [ev,this,Zr]; grind
theorem Sqp.bez {p g q:List Int} (h:Sqp p g q):∃ X Y,∀ t,ev X t*ev (cz q) t+ev Y t*dv (cz q) t=1:=by
 obtain ⟨d,U,V,h1,h2,h3⟩:=Q96 (cz q) (Ms (cz q));obtain ⟨c,hc,hd⟩:=h.num h1 h2;refine ⟨P5 (1 / c) U,P5 (1 / c) V,λt=>?_⟩;have h5:=h3 t;rw [hd,Hw] at h5;have h4:1 / c*c=1:=Zk hc;rw [U7,U7];have:1 / c*ev U t*ev (cz q) t+1 / c*ev V t*dv (cz q) t=1 / c*(ev U t*ev (cz q) t+ev V t*dv (cz q) t):=by grind
 rw [this,<-h5,h4]
theorem Zmw {n s s':Nat} (h:Szz n s) (hs:s'<=s):Szz n s':=⟨h.1,Qc (Qy _ (by omega)) h.2⟩
theorem Zdd {n s:Nat} (h:Szz n s):s<=8388600:=by
 have:2*(s+8)*1<=2*(s+8)*3^(n-1):=Zj _ (Zy (by decide));have:=h.2; omega
theorem Qpt {s:Nat} {p:List Int} (h:Bd s p) (hl:p.length<=10):Bd (s+4) (Fe p):=Qip h (t:=4) (by omega)
theorem Q3p {n s:Nat} (hz:Szz n (s+73)) {p:List Int} (pp:Pr1 p) (l2:2<=p.length) (lp:p.length<=n) (bp:Bd (s+69) p) {p0 h0:List Int} (b0:Bd s p0) (l0:p0.length<=10) (t0:Uo p0) (th0:Uo h0) (z0:p0.length≠0) (e0:∀ t,Up p0 t=Up h0 t*Up p t) :
 ∃ g q,chk (Fe p)=some (Fe p)/\Qay p (Fe p)=some g/\Qav p g=some q/\Sqp p g q/\g.length<p.length:=by
 have hn:=hz.1;have hs:=Zdd hz;have bd:=Qpt bp (by omega);have ld:=Tr p;have td:Uo (Fe p):=U3 _ _;obtain ⟨g,e1,hg,m,l⟩:=Qdp hz pp.t td lp (by omega) (Uj bp (by omega)) bd (.inl pp.n);obtain ⟨q,tq,eq⟩:=Q91 m hg.da;have hdnz:(Fe p).length≠0:=λh=>by
  have h1:=Sk p (p.length-2);rw [Qi h,show p.length-2+1=p.length-1 by omega] at h1;have h2:p.getD (p.length-1) 0≠0:=Gv pp.t (by omega);rcases J7.1 (h1.symm.trans (by simp)) with h3 | h3
  ·exact h2 h3
  ·omega
 have pg:Pr1 g:=⟨hg.t,m,l⟩;have hql:=Zb3 (s:=s+69) pp.t hg.t tq pp.n (by omega) bp (by omega) eq;refine ⟨g,q,La (by omega) (Uj bd (by omega)),e1,hql,⟨pp,pg,Zhi pp l hg.t tq eq,eq,?_,?_⟩,?_⟩
 ·obtain ⟨U,V,hc⟩:=hg.c;exact ⟨U,V,λt=>by rw [hc,Lq]⟩
 ·obtain ⟨z,hz⟩:=hg.db;exact ⟨z,λt=>by rw [<-Lq,<-Un,hz,Un]⟩
 ·obtain ⟨z,tz,ez⟩:=Q91 m hg.db;obtain ⟨q1,q2⟩:=Hm td hdnz ez;have:=Sw hg.t tz td ez q1 q2;omega
theorem Zhb:Sqp [1] [1] [1]:=by
 have p1:Pr1 [1]:=⟨rfl,λd hd=>by have:=hd 0; rwa [Zr] at this,by decide⟩;have e1:∀ t,Up [1] t=1:=λt=>by simp only [Up]; push_cast; grind
 exact ⟨p1,p1,p1,λt=>by rw [e1]; grind,⟨[1],[],λt=>by rw [e1,H4]; simp only [ev]; grind⟩,⟨[],λt=>by simp only [cz,Zz,X8,dv,ev]; grind⟩⟩
structure Okp (n s:Nat) (p:List Int):Prop where
 z:Szz n (s+73)
 t:Uo p
 nz:p.length≠0
 l:p.length<=n
 b:Bd s p
theorem Okp.pr {n s:Nat} {p:List Int} (h:Okp n s p):Pr1 (Uq p)/\(Uq p).length=p.length/\Bd s (Uq p):=by
 obtain ⟨h1,h2,h3,h4,h5,_⟩:=Td h.t h.nz;exact ⟨⟨h1,h3,h4⟩,h2,h5 s h.b⟩
theorem Qb2 {n s:Nat} {p:List Int} (h:Okp n s p):∃ g q,Sy p=some q/\Sqp (Uq p) g q:=by
 obtain ⟨pp,hl,hb⟩:=h.pr;have hn:=h.z.1;have:=h.l;unfold Sy;by_cases h2:(Uq p).length<2
 ·rw [if_pos h2,pp.one h2]; exact ⟨[1],[1],rfl,Zhb⟩
 ·rw [if_neg h2];obtain ⟨g,q,h3,h4,h5,h6,_⟩:=Q3p h.z pp (by omega) (by omega) (Uj hb (by omega)) (p0:=Uq p) (h0:=[1]) hb (by omega) pp.t rfl pp.n λt=>by simp only [Up]; push_cast; grind
  exact ⟨g,q,by rw [h3]; show (Qay (Uq p) (Fe (Uq p))).bind _=_; rw [h4]; exact h5,h6⟩
inductive LW:List Int->List (List Int)->Prop
 | nil:LW [1] []
 | cons {g h w:List Int} {ws:List (List Int)} (hs:Sqp g h w) (hl:LW h ws):LW g (w::ws)
theorem Zlz {g:List Int} {ws:List (List Int)} (h:LW g ws):∀ t,Up g t=ev (Au (ws.map cz)) t:=by
 induction h with
 | nil=>intro t; simp only [X8,Au,Up]; rw [H4]; push_cast; grind
 | cons hs hl ih=>intro t; simp only [Zz,Au]; rw [Ur,Un,hs.e,ih]; grind
theorem Q2n {g:List Int} {w v:List Int} {ws:List (List Int)} (h:LW g (w::v::ws)):∃ f,Uo f/\∀ t,Up w t=Up f t*Up v t:=by
 cases h with
 |
  @cons _ h _ _ hs hl =>
  cases hl with
  |
   @cons _ h2 _ _ hs2 hl2 =>
   obtain ⟨X,Y,hb⟩:=hs2.bez;obtain ⟨z,hz⟩:=hs.d;have hd:=Zif (a:=cz g) (g:=cz h) (q:=cz w) (z:=z) (r:=cz v) (X:=X) (Y:=Y) (n:=h.length-1) (λt=>by rw [Un,Un,Un,hs.e]) (λt=>by rw [hz,Un]) (Qce hs.pg.t (by have:=hs.pg.n; omega)) hb
    ⟨Fx (cz h2) (cz w),λt=>by rw [Ur,Un,Un,Un,Un,hs.e,hs2.e]; grind⟩
   obtain ⟨f,tf,ef⟩:=Q91 hs2.pq.m hd;exact ⟨f,tf,λt=>by rw [ef]; grind⟩
theorem Quq {g w:List Int} {ws:List (List Int)} (h:LW g (w::ws)):∀ v∈w::ws,Pr1 v/\Oj (cz v) (cz w):=by
 have key:∀ (ws:List (List Int)) (g w:List Int),LW g (w::ws)->∀ v∈w::ws,Pr1 v/\Oj (cz v) (cz w):=by
  intro ws
  induction ws with
  |
   nil =>
   intro g w h v hv;rw [Ql.1 hv];cases h with
   | cons hs hl=>exact ⟨hs.pq,dvd_refl _⟩
  |
   cons u ws ih =>
   intro g w h v hv;have hn:=Q2n h;cases h with
   |
    @cons _ h _ _ hs hl =>
    rcases Qp.1 hv with rfl | hv
    ·exact ⟨hs.pq,dvd_refl _⟩
    ·obtain ⟨i1,i2⟩:=ih h u hl v hv;obtain ⟨f,_,hf⟩:=hn;exact ⟨i1,dvd_trans i2 ⟨cz f,λt=>by rw [Un,Un,Un,hf]; grind⟩⟩
 exact key ws g w h
theorem lay_ok {n s:Nat} (hz:Szz n (s+73)) {p0:List Int} (b0:Bd s p0) (l0:p0.length<=10) (t0:Uo p0) (z0:p0.length≠0):∀ (k:Nat) (g h0:List Int),Pr1 g->g.length<=k->g.length<=n->Uo h0->(∀ t,Up p0 t=Up h0 t*Up g t)->∃ ws,Qgp k g=some ws/\LW g ws
 | 0,g,_,pg,hk,_,_,_=>absurd pg.n (by omega)
 |
  k+1,g,h0,pg,hk,hn,th0,e0=>by
  simp only [Qgp];by_cases h2:g.length<2
  ·rw [if_pos h2,pg.one h2]; exact ⟨[],rfl,.nil⟩
  ·rw [if_neg h2];have bg:Bd (s+69) g:=Iw b0 l0 t0 pg.t th0 z0 λt=>by rw [e0]; grind
   obtain ⟨h,w,h3,h4,h5,h6,h7⟩:=Q3p hz pg (by omega) hn bg b0 l0 t0 th0 z0 e0;obtain ⟨ws,i1,i2⟩:=lay_ok hz b0 l0 t0 z0 k h (U5 h0 w) h6.pg (by omega) (by omega) (Gu _ _) λt=>by rw [e0,Fo,h6.e]; grind
   refine ⟨w::ws,?_,.cons h6 i2⟩;rw [h3];show (Qay g (Fe g)).bind _=_;rw [h4];show (Qav g h).bind _=_;rw [h5];show (Qgp k h).bind _=_;rw [i1]; rfl
theorem Q9s {s:Nat} {p0:List Int} (b0:Bd s p0) (l0:p0.length≤10) (t0:Uo p0) (z0:p0.length≠0) (hs:s+69+69≤16777216):∀ (ws:List (List Int)) (g h0:List Int),LW g ws->Uo h0->(∀ t,Up p0 t=Up h0 t*Up g t)->∃ fs,Qmw ws=some fs/\Lay (ws.map cz) (fs.map cz)/\∀ f∈fs,Uo f
 | [],g,_,_,_,_=>⟨[],rfl,trivial,λf hf=>by cases hf⟩
 |
  [w],g,_,hl,_,_=>by
  cases hl with
  | cons hs hl=>exact ⟨[w],rfl,λt=>rfl,λf hf=>by rw [Ql.1 hf]; exact hs.pq.t⟩
 |
  w::v::ws,g,h0,hl,th0,e0=>by
  obtain ⟨f,tf,ef⟩:=Q2n hl;cases hl with
  |
   @cons _ h _ _ hs1 hl =>
   have hpv:=(Quq hl v (Qr ..)).1;obtain ⟨fs,i1,i2,i3⟩:=Q9s b0 l0 t0 z0 hs (v::ws) h (U5 h0 w) hl (Gu _ _) λt=>by rw [e0,Fo,hs1.e]; grind
   have ew:∀ t,Up p0 t=Up w t*Up (U5 h0 h) t:=λt=>by rw [e0,Fo,hs1.e]; grind
   have bw:Bd (s+69) w:=Iw b0 l0 t0 hs1.pq.t (Gu _ _) z0 ew;obtain ⟨p1,p2⟩:=Hm t0 z0 ew;have lw:=Sw hs1.pq.t (Gu _ _) t0 ew p1 p2;have hq:=Zb3 (s:=s+69) hs1.pq.t hpv.t tf hs1.pq.n (by omega) bw hs λt=>by rw [ef]; grind
   refine ⟨f::fs,?_,⟨λt=>by rw [Un,Un,Un,ef],i2⟩,λx hx=>?_⟩
   ·show (Qav w v).bind _=_;rw [hq];show (Qmw (v::ws)).bind _=_;rw [i1]; rfl
   ·rcases Qp.1 hx with rfl | hx
    ·exact tf
    ·exact i3 x hx
def Ma:List (List Int)->List Int
 | []=>[1]
 | [f]=>f
 | f::_::l=>U5 f (Ma l)
theorem Qu5:∀ (fs:List (List Int)) (t:Rat),ev (Qii (fs.map cz)) t=Up (Ma fs) t
 | [],t=>by simp only [X8,Qii,Ma,Up]; rw [H4]; push_cast; grind
 | [f],t=>by simp only [Zz,X8,Qii,Ma]; rw [Un]
 | f::g::l,t=>by simp only [Zz,Qii,Ma]; rw [Ur,Un,Fo,Qu5 l]
theorem Mi (t:Rat):Up [1] t=1:=by simp only [Up]; push_cast; grind
theorem Qnz:∀ {w:List Int} {ws fs:List (List Int)},Lay ((w::ws).map cz) (fs.map cz)->(∀ f∈fs,Uo f)->(∀ v∈w::ws,Uo v)->∃ E,Uo E/\∀ t,Up w t=Up (Ma fs) t*Up E t
 |
  w,[],[f],h,_,_=>⟨[1],rfl,λt=>by
  have:=h t;rw [Un,Un] at this;rw [this,Mi]; simp only [Ma]; grind⟩
 |
  w,[v],[f,f2],h,_,hw=>⟨v,hw v (by simp),λt=>by
  have:=h.1 t;rw [Un,Un,Un] at this;rw [this]; simp only [Ma]; rw [Fo,Mi]; grind⟩
 |
  w,v::x::l,f::f2::fs,h,hf,hw=>by
  obtain ⟨E,hE,e⟩:=Qnz (w:=x) (ws:=l) (fs:=fs) h.2.2 (λg hg=>hf g (by simp [hg])) (λg hg=>hw g (by simp at hg ⊢; exact .inr (.inr hg)));refine ⟨U5 f2 E,Gu _ _,λt=>?_⟩;have a1:=h.1 t;have a2:=h.2.1 t;rw [Un,Un,Un] at a1 a2;have e2:Up (Ma (f::f2::fs)) t=Up f t*Up (Ma fs) t:=by simp only [Ma]; rw [Fo]
  rw [a1,a2,e,e2,Fo]; grind
 | w,[],[],h,_,_=>h.elim
 | w,[],_::_::_,h,_,_=>h.elim
 | w,[v],[],h,_,_=>h.elim
 | w,[v],[f],h,_,_=>h.2.elim
 | w,[v],_::_::_::_,h,_,_=>h.2.elim
 | w,v::x::l,[f],h,_,_=>h.2.elim
 | w,v::x::l,[],h,_,_=>h.elim
theorem Qbt {s:Nat} {p0:List Int} (b0:Bd s p0) (l0:p0.length≤10) (t0:Uo p0) (z0:p0.length≠0) (hs:s+69≤16777216):∀ (fs:List (List Int)) (i:Nat) (a E:List Int),i % 2=0->Uo a->Uo E->(∀ f∈fs,Uo f)->(∀ t,Up p0 t=Up a t*Up (Ma fs) t*Up E t)->∃ o,Qeo i a fs=some o/\Uo o/\∀ t,Up o t=Up a t*Up (Ma fs) t
 | [],i,a,E,hi,ta,_,_,_=>⟨a,rfl,ta,λt=>by simp only [Ma]; rw [Mi]; grind⟩
 |
  [f],i,a,E,hi,ta,tE,tf,hE=>by
  have e1:∀ t,Up p0 t=Up (U5 a f) t*Up E t:=λt=>by rw [hE,Fo]; rfl
  have b1:=Iw b0 l0 t0 (Gu a f) tE z0 e1;obtain ⟨p1,p2⟩:=Hm t0 z0 e1;have hl:=Sw (Gu a f) tE t0 e1 p1 p2;refine ⟨U5 a f,?_,Gu _ _,λt=>by rw [Fo]; rfl⟩;simp only [Qeo];rw [if_pos hi,La (by omega) (Uj b1 (by omega))]; rfl
 |
  f::g::fs,i,a,E,hi,ta,tE,tf,hE=>by
  have e0:∀ t,Up (Ma (f::g::fs)) t=Up f t*Up (Ma fs) t:=λt=>by simp only [Ma]; rw [Fo]
  have e1:∀ t,Up p0 t=Up (U5 a f) t*Up (U5 (Ma fs) E) t:=λt=>by rw [hE,e0,Fo,Fo]; grind
  have b1:=Iw b0 l0 t0 (Gu a f) (Gu _ _) z0 e1;obtain ⟨p1,p2⟩:=Hm t0 z0 e1;have hl:=Sw (Gu a f) (Gu _ _) t0 e1 p1 p2;obtain ⟨o,o1,o2,o3⟩:=Qbt b0 l0 t0 z0 hs fs (i+2) (U5 a f) E (by omega) (Gu _ _) tE (λx hx=>tf x (by simp [hx])) λt=>by rw [hE,e0,Fo]; grind
  refine ⟨o,?_,o2,λt=>by rw [o3,e0,Fo]; grind⟩;have h1:Qeo (i+1) (U5 a f) (g::fs)=Qeo (i+2) (U5 a f) fs:=by
   show (if (i+1) % 2=0 then _ else _)=_;rw [if_neg (by omega)]
  show (if i % 2=0 then (chk (U5 a f)).bind λq=>Qeo (i+1) q (g::fs) else _)=_;rw [if_pos hi,La (by omega) (Uj b1 (by omega))];exact h1.trans o1
structure Parts (p q o:List Int):Prop where
 sq:∃ g,Sqp (Uq p) g q
 ws:∃ ws:List (List Int),(∀ w∈ws,Pr1 w/\Oj (cz w) (cz q))/\∀ t,Up (Uq p) t=ev (Au (ws.map cz)) t
 oq:Oj (cz o) (cz q)
 ot:Uo o
 oh:∃ h,Uo h/\∀ t,Up (Uq p) t=Up o t*Up h t
 os:∃ S,∀ t,Up (Uq p) t=Up o t*(ev S t*ev S t)
theorem Qyz {n s:Nat} {p:List Int} (h:Okp n s p):∃ q o,Sy p=some q/\Qy8 p=some o/\Parts p q o:=by
 obtain ⟨pp,hl,hb⟩:=h.pr;have hn:=h.z.1;have hpl:=h.l;have hs:=Zdd h.z;obtain ⟨g,q,hq,sq⟩:=Qb2 h;obtain ⟨ws,w1,w2⟩:=lay_ok h.z hb (by omega) pp.t pp.n 66 (Uq p) [1] pp (by omega) (by omega) rfl λt=>by rw [Mi]; grind
 obtain ⟨fs,f1,f2,f3⟩:=Q9s hb (by omega) pp.t pp.n (by omega) ws (Uq p) [1] w2 rfl λt=>by rw [Mi]; grind
 have hw:=Zlz w2;have hfirst:(∀ w∈ws,Pr1 w/\Oj (cz w) (cz q))/\∃ E,Uo E/\∀ t,Up q t=Up (Ma fs) t*Up E t:=by
  cases ws with
  |
   nil =>
   have e:fs=[]:=by
    cases fs with
    | nil=>rfl
    | cons f l=>exact f2.elim
   subst e;exact ⟨(λw hw=>by cases hw),q,sq.pq.t,λt=>by simp only [Ma]; rw [Mi]; grind⟩
  |
   cons w ws =>
   have hwq:w=q:=by
    have w3:(if (Uq p).length<2 then some [] else (chk (Fe (Uq p))).bind λd=>(Qay (Uq p) d).bind λh=>(Qav (Uq p) h).bind λw=>(Qgp 65 h).bind λl=>some (w::l))=some (w::ws):=w1;have hlen:¬(Uq p).length<2:=λh2=>by
     rw [if_pos h2] at w3;injection w3 with w3;cases w3
    rw [if_neg hlen] at w3;unfold Sy at hq;rw [if_neg hlen] at hq;obtain ⟨d,d1,w3⟩:=Qf.1 w3;obtain ⟨h,d2,w3⟩:=Qf.1 w3;obtain ⟨w',d3,w3⟩:=Qf.1 w3;obtain ⟨l,d4,w3⟩:=Qf.1 w3;rw [d1] at hq;have hq:(Qay (Uq p) d).bind (λg=>Qav (Uq p) g)=some q:=hq;rw [d2] at hq;have hq:Qav (Uq p) h=some q:=hq;rw [d3] at hq;injection hq with hq;injection w3 with w3;injection w3 with w3 _;rw [<-w3,hq]
   subst hwq;have hall:=Quq w2;exact ⟨hall,Qnz f2 f3 λv hv=>(hall v hv).1.t⟩
 obtain ⟨ha,E,tE,hE⟩:=hfirst;obtain ⟨o,o1,o2,o3⟩:=Qbt hb (by omega) pp.t pp.n (by omega) fs 0 [1] (U5 E g) rfl rfl (Gu _ _) f3 λt=>by rw [Mi,Fo,sq.e,hE]; grind
 have o3:∀ t,Up o t=Up (Ma fs) t:=λt=>by rw [o3,Mi]; grind
 refine ⟨q,o,hq,?_,⟨g,sq⟩,⟨ws,ha,hw⟩,⟨cz E,λt=>by rw [Un,Un,Un,hE,o3]⟩,o2,⟨U5 E g,Gu _ _,λt=>by rw [sq.e,hE,o3,Fo]; grind⟩,?_⟩
 ·unfold Qy8;rw [if_neg pp.n,w1];show (Qmw ws).bind _=_;rw [f1]; exact o1
 ·obtain ⟨S,hS⟩:=Q2g f2;exact ⟨S,λt=>by rw [hw,hS,Qu5,o3]⟩
theorem Q1f {s:Nat}:∀ (k:Nat) (a b:List Int),Uo a->Uo b->b.length≠0->b.length<k->b.length<a.length->a.length<=60->Bd s a->Bd s b->(s+8)*3^(a.length-1)<=16777216->(∀ d,Oj d (cz a)->Oj d (cz b)->∃ c:Rat,c≠0/\∀ t,ev d t=c)->∃ l,chF k a b=some (b::l)/\SCl (cz a) (cz b) (l.map cz)
 | 0,_,_,_,_,_,h,_,_,_,_,_,_=>by omega
 |
  k+1,a,b,ta,tb,hb,hk,hab,hl,ba,bb,hs,hd=>by
  obtain ⟨h1,h2,h3,u,v,up,vp,X,hX⟩:=Qe5 ta tb hb hl;have h3:=h3 s ba bb;obtain ⟨m,hm⟩:=nmE (a.length-b.length);have e1:a.length+1-b.length=m+1:=by omega
  rw [e1] at h3;have e2:s+(m+1)*(s+8)+8=(m+2)*(s+8):=by
   rw [show m+2=(m+1)+1 by omega,Xc (m+1)]; omega
  have e3:(m+2)*(s+8)*3^(b.length-1)<=(s+8)*3^(a.length-1):=by
   rw [show a.length-1=m+(b.length-1) by omega,Xh,<-Xq,Zi (s+8)];exact Qy _ (Qy _ (Zhh m (by omega)))
  have e4:s+(m+1)*(s+8)<=16777216:=by
   have:(m+2)*(s+8)<=(m+2)*(s+8)*3^(b.length-1):=Jp _ (Zy (by decide));omega
  simp only [chF];rw [if_neg hb,La (by omega) (Uj h3 e4)];show ∃ l,((chF k b (Se (Gi a b))).bind λl=>some (b::l))=some (b::l)/\_;have lneg:(Se (Gi a b)).length<=(Gi a b).length:=Nj _;by_cases hr:(Gi a b).length=0
  ·have e:Se (Gi a b)=[]:=Qi (by omega);rw [e];refine ⟨[],?_,?_⟩
   ·obtain ⟨j,rfl⟩:∃ j,k=j+1:=⟨k-1,by omega⟩;rfl
   ·obtain ⟨c,hc,hcc⟩:=hd (cz b) ⟨P5 (1 / u) X,λt=>by
     have:=hX t;rw [Ce hr] at this;have hu:1 / u*u=1:=Fl up;rw [Un,Un,U7];have:Up a t=1 / u*(u*Up a t):=by grind
     rw [this,hX,Ce hr]; grind⟩ (dvd_refl _)
    exact .base hc hcc
  ·have tn:Uo (Se (Gi a b)):=U3 _ _;have hn0:(Se (Gi a b)).length≠0:=λh0=>by
    have:=Dk (c:=-1) h1 tn (by decide) λt=>by rw [Qew]; grind
    omega
   obtain ⟨l,i1,i2⟩:=Q1f (s:=s+(m+1)*(s+8)) k b (Se (Gi a b)) tb tn hn0 (by omega) (by omega) (by omega) (Uj bb (by omega)) (If h3) (by rw [e2]; omega) λd d1 d2=>by
    refine hd d ?_ d1;obtain ⟨y,hy⟩:=d1;obtain ⟨z,hz⟩:=d2;have hu:1 / u*u=1:=Fl up;refine ⟨P5 (1 / u) (Ra (Fx X y) (P5 (-v) z)),λt=>?_⟩;have a1:=hX t; have a2:=hy t; have a3:=hz t;rw [Un] at a2 a3;rw [Qew] at a3;rw [Un,U7,Fh,Ur,U7];have:Up a t=1 / u*(u*Up a t):=by grind
    rw [this,a1,a2,show Up (Gi a b) t=-(ev d t*ev z t) by grind]; grind
   refine ⟨Se (Gi a b)::l,by rw [i1]; rfl,?_⟩;rw [Zz];exact .step (q:=X) up vp (λt=>by rw [Un,Un,Un,hX,Qew]; clear i2 i1 hd h3 hs; grind) i2
theorem Qdo (x:Rat):∀ (l:List (List Int)) (n:Nat) (s:Int),(l.foldl (Hz λp=>Fc p x) (n,s)).1=n+tc x s (l.map cz)
 | [],n,s=>rfl
 |
  p::l,n,s=>by
  simp only [Xe,Zz,tc,Hz];rw [Tu,Un]
  split
  ·exact Qdo x l n s
  ·rw [Qdo x l]
   split <;> omega
theorem Od (l:List (List Int)) (x:Rat):S0 l x=vv (l.map cz) x:=by
 have:=Qdo x l 0 0;unfold S0 Me vv;rw [this]; omega
theorem Q8y {n s:Nat} (hz:Szz n (s+73)) {P g q:List Int} (sq:Sqp P g q) (lq:q.length<=n) (bq:Bd (s+69) q):∃ d,chk (Fe q)=some d/\∃ l,chF 66 q (Uq d)=some l/\Stm (cz q) ((q::l).map cz)/\(q.length<2->l=[]):=by
 have hn:=hz.1;have hs:=Zdd hz;have bd:=Qpt bq (by omega);have ld:=Tr q;refine ⟨Fe q,La (by omega) (Uj bd (by omega)),?_⟩;have hq0:=sq.pq.n;by_cases h2:q.length<2
 ·have e:Uq (Fe q)=[]:=by rw [Qi (l:=Fe q) (by omega)]; rfl
  rw [e];refine ⟨[],rfl,.inl ⟨1,by decide,λt=>?_,rfl⟩,λ_=>rfl⟩;rw [Un,sq.pq.one h2,Mi]
 ·have hdnz:(Fe q).length≠0:=λh=>by
   have h1:=Sk q (q.length-2);rw [Qi h,show q.length-2+1=q.length-1 by omega] at h1;have h3:q.getD (q.length-1) 0≠0:=Gv sq.pq.t (by omega);rcases J7.1 (h1.symm.trans (by simp)) with h4 | h4
   ·exact h3 h4
   ·omega
  obtain ⟨p1,p2,p3,p4,p5,p6,p7⟩:=Td (p:=Fe q) (U3 _ _) hdnz;have hdl:Ux (Fe q)=Ux q*((q.length-1:Nat):Int):=by
   have hld:(Fe q).length=q.length-1:=by
    rcases Zb (Fe q).length (q.length-1) with h | h
    ·have h1:=Sk q (q.length-2);rw [Qg,Qt (by omega),show q.length-2+1=q.length-1 by omega] at h1;have h3:q.getD (q.length-1) 0≠0:=Gv sq.pq.t (by omega);rcases J7.1 (h1.symm.trans (by simp)) with h4 | h4
     ·exact absurd h4 h3
     ·omega
    ·omega
   unfold Ux;rw [hld,Sk,show q.length-1-1+1=q.length-1 by omega]
  have hfac:0<Fy (Fe q):=by
   have hlp:0<Ux (Fe q):=by rw [hdl]; exact Ud sq.pq.l (by omega)
   have hc:=Av (p:=Fe q) (U3 _ _) hdnz;unfold Fy;rw [if_neg (by omega)];unfold Rk at hc ⊢; omega
  have hfq:((0:Int):Rat)<(Fy (Fe q):Rat):=X7.2 hfac;have hfq:(0:Rat)<(Fy (Fe q):Rat):=by simpa using hfq
  have hff:1 / (Fy (Fe q):Rat)*(Fy (Fe q):Rat)=1:=Fl hfq;have hz2:=hz.2;have hp3:(s+73+8)*3^(q.length-1)<=16777216:=by
   have:(s+73+8)*3^(q.length-1)<=(s+73+8)*3^(n-1):=Zj _ (Zq (by decide) (by omega));rw [Xq] at hz2; omega
  obtain ⟨l,h3,h4⟩:=Q1f (s:=s+73) 66 q (Uq (Fe q)) sq.pq.t p1 (by omega) (by omega) (by omega) (by omega) (Uj bq (by omega)) (p5 _ bd) hp3 λd d1 d2=>sq.num d1 (by
   obtain ⟨z,hz⟩:=d2;exact ⟨P5 (Fy (Fe q)) z,λt=>by
    have:=hz t;rw [Un] at this;rw [Hw,<-Lq,p7,this,U7]; grind⟩)
  refine ⟨Uq (Fe q)::l,h3,.inr ⟨cz (Uq (Fe q)),l.map cz,1 / (Fy (Fe q):Rat),Bu (by decide) hfq,λt=>?_,h4,rfl⟩,λh=>absurd h h2⟩;rw [Un,<-Lq,p7 t]; grind
theorem chain_ok {n s:Nat} {p:List Int} (h:Okp n s p):∃ q l,Sy p=some q/\chain p=some (q::l)/\Stm (cz q) ((q::l).map cz)/\(q.length<2->l=[]):=by
 obtain ⟨pp,hl,hb⟩:=h.pr;have hn:=h.z.1;have hpl:=h.l;obtain ⟨g,q,hq,sq⟩:=Qb2 h;have e1:∀ t,Up (Uq p) t=Up q t*Up g t:=λt=>by rw [sq.e]; grind
 obtain ⟨p1,p2⟩:=Hm pp.t pp.n e1;have hll:=Sw sq.pq.t sq.pg.t pp.t e1 p1 p2;obtain ⟨d,d1,l,d2,d3⟩:=Q8y h.z sq (by omega) (Iw hb (by omega) pp.t sq.pq.t sq.pg.t pp.n e1);refine ⟨q,l,hq,?_,d3⟩;unfold chain;rw [hq];show (if q.length=0 then none else _)=_;rw [if_neg sq.pq.n,d1];show (chF 66 q (Uq d)).bind _=_;rw [d2]; rfl
structure Gr (D M k:Nat) (q:Rat):Prop where
 u:∃ u:Int,q*((D*2^k:Nat):Rat)=(u:Rat)
 b:Uu q<=(M:Rat)
 d:0<D
theorem nat_pos {n:Nat} (h:0<n):(0:Rat)<(n:Rat):=by
 have:((0:Nat):Rat)<(n:Rat):=Vm.2 h;simpa using this
theorem Qhs {D M k:Nat} {q:Rat} (h:Gr D M k q):Gr D M (k+1) q:=by
 obtain ⟨u,hu⟩:=h.u;refine ⟨⟨u*2,?_⟩,h.b,h.d⟩;rw [Zo,<-Xq]
 push_cast at hu ⊢
 rw [<-hu]; grind
theorem Qyj {D M k:Nat} {a b:Rat} (ha:Gr D M k a) (hb:Gr D M k b):Gr D M (k+1) ((a+b) / 2):=by
 obtain ⟨u,hu⟩:=ha.u;obtain ⟨v,hv⟩:=hb.u;have h2:(a+b) / 2*2=a+b:=Fl (by decide);refine ⟨⟨u+v,?_⟩,?_,ha.d⟩
 ·rw [Zo,<-Xq]
  push_cast at hu hv ⊢
  rw [<-hu,<-hv];generalize (a+b) / 2=c at *;generalize (D:Rat)*2^k=z at *;have:c*(z*2)=(c*2)*z:=by grind
  rw [this,h2]; grind
 ·have h3:=ha.b;have h4:=hb.b;rw [Rx] at *;constructor <;> grind
theorem Zlm {D M k:Nat} {q:Rat} (h:Gr D M k q):q.den<=D*2^k:=by
 obtain ⟨u,hu⟩:=h.u;have hp:0<D*2^k:=Yd h.d (Zy (by decide));have e:q=Rat.divInt u ((D*2^k:Nat):Int):=by
  rw [<-Gs,<-hu];have hz:=nat_pos hp;rw [show ((((D*2^k:Nat):Int)):Rat)=((D*2^k:Nat):Rat) from rfl];rw [Yj];have:=Rat.mul_inv_cancel ((D*2^k:Nat):Rat) (by grind);generalize ((D*2^k:Nat):Rat)=z at *;have:q*z*z⁻¹=q*(z*z⁻¹):=by grind
  rw [this,‹z*z⁻¹=1›]; grind
 rw [e,Wj,if_neg (by omega),Z9];exact J8 _ _
theorem Qla {a b k:Nat} {z:Int} (h:z.natAbs<=a*(b*2^k)):Uv z<=Uv (a:Int)+Uv (b:Int)+k:=by
 have h1:Uv (a:Int)<=Uv (a:Int):=Qm _;have h2:Uv (b:Int)<=Uv (b:Int):=Qm _;rw [Rr] at h1 h2 ⊢;rw [Z9] at h1 h2;rw [Xh,Xh];have h3:a*b<2^Uv (a:Int)*2^Uv (b:Int):=Nat.mul_lt_mul_of_lt_of_le h1 (Jz h2) (Zy (by decide));have h4:=Xz h3 (show 0<2^k from Zy (by decide));rw [<-Xq] at h; omega
theorem Qhr {D M k B:Nat} {q:Rat} (h:Gr D M k q) (hM:0<M) (hs:Uv (D:Int)+Uv (M:Int)+k<=B):Qs B q:=by
 have hd:=Zlm h;have hden:=nat_pos q.den_pos;have h1:(q.num.natAbs:Rat)<=((M*(D*2^k):Nat):Rat):=by
  have e:(q.num:Rat)=q*(q.den:Rat):=by
   have:(q.num:Rat) / (((q.den:Int)):Rat)=q:=by rw [Gs,Zs]
   have h2:(q.num:Rat) / (q.den:Rat)*(q.den:Rat)=q.num:=Zk (by grind);rw [show (q.num:Rat) / (q.den:Rat)=q from this] at h2; exact h2.symm
  rw [<-Tj,e];have h3:=Ge (x:=q) (y:=(q.den:Rat)) (b:=((D*2^k:Nat):Rat)) h.b (by
   have:Uu (q.den:Rat)=(q.den:Rat):=by unfold Uu; rw [if_neg (by grind)]
   rw [this]; exact Zd.2 hd)
  push_cast at h3 ⊢; exact h3
 have h1:=Zd.1 h1;refine ⟨?_,?_⟩
 ·have:=Qla (z:=q.num) h1; omega
 ·have:=Qla (z:=(q.den:Int)) (a:=M) (b:=D) (k:=k) (by
   rw [Z9];exact Qc hd (Nat.le_mul_of_pos_left _ hM))
  omega
theorem Qc9 (a b:Rat):Om a b=(a+b) / 2:=by
 unfold Om;rw [<-Gs];have ha:(a.num:Rat)=a*(a.den:Rat):=by
  have:(a.num:Rat) / (((a.den:Int)):Rat)=a:=by rw [Gs,Zs]
  have h2:(a.num:Rat) / (a.den:Rat)*(a.den:Rat)=a.num:=Zk (by have:=nat_pos a.den_pos; grind);rw [show (a.num:Rat) / (a.den:Rat)=a from this] at h2; exact h2.symm
 have hb:(b.num:Rat)=b*(b.den:Rat):=by
  have:(b.num:Rat) / (((b.den:Int)):Rat)=b:=by rw [Gs,Zs]
  have h2:(b.num:Rat) / (b.den:Rat)*(b.den:Rat)=b.num:=Zk (by have:=nat_pos b.den_pos; grind);rw [show (b.num:Rat) / (b.den:Rat)=b from this] at h2; exact h2.symm
 have pa:=nat_pos a.den_pos;have pb:=nat_pos b.den_pos;rw [Ke,X1,X1,X1,X1,ha,hb];rw [show (((a.den:Int)):Rat)=(a.den:Rat) from rfl,show (((b.den:Int)):Rat)=(b.den:Rat) from rfl,show (((2:Int)):Rat)=2 from rfl];generalize (a.den:Rat)=x at *;generalize (b.den:Rat)=y at *;have hxy:=E6 (E6 pa pb) (show (0:Rat)<2 by decide);have h1:(a*x*y+b*y*x) / (x*y*2)*(x*y*2)=a*x*y+b*y*x:=Fl hxy;have h2:(a+b) / 2*2=a+b:=Fl (by decide);generalize (a*x*y+b*y*x) / (x*y*2)=c at *;generalize (a+b) / 2=d at *;have h3:(x*y*2)*(c-d)=0:=by grind
 rcases Jw.1 h3 with h4 | h4 <;> grind
theorem Qjf (a b:Rat):Ql4 a b=a-b:=by
 unfold Ql4;rw [Rat.sub_def',<-Rat.divInt_ofNat]
 push_cast; rfl
theorem Df {a b:Rat}:Fi a b=0↔a=b:=by
 constructor
 ·intro h;have h1:¬a<b:=λh'=>by have:=B8.2 h'; omega
  have h2:¬b<a:=λh'=>by have:=Pn.2 h'; omega
  grind
 ·intro h; subst h; exact Bt a
theorem Ip {a b:Rat}:Fi a b<=0↔a<=b:=by
 constructor
 ·intro h;have h2:¬b<a:=λh'=>by have:=Pn.2 h'; omega
  grind
 ·intro h;have h2:¬0<Fi a b:=λh'=>by have:=Pn.1 h'; grind
  omega
theorem Qiv {a b:Rat}:0<=Fi a b↔b<=a:=by
 constructor
 ·intro h;have h2:¬a<b:=λh'=>by have:=B8.2 h'; omega
  grind
 ·intro h;have h2:¬Fi a b<0:=λh'=>by have:=B8.1 h'; grind
  omega
theorem Ta (a b:Rat):Fi a b=1/\b<a\/Fi a b=0/\a=b\/Fi a b=-1/\a<b:=by
 have hb:=Io a b;rcases (show Fi a b=1\/Fi a b=0\/Fi a b=-1 by omega) with h | h | h
 ·exact .inl ⟨h,Pn.1 (by omega)⟩
 ·exact .inr (.inl ⟨h,Df.1 h⟩)
 ·exact .inr (.inr ⟨h,B8.1 (by omega)⟩)
theorem Qup (p:List Int) (x:Rat):low p x=Tw (cz p) x:=by
 unfold low Tw;rw [Tu,Tu,Un,Lq]
theorem Tp {t:Tm} (h:t.lo<t.hi) (q:Rat):U0 t q=cq (cz t.p) t.lo t.hi q:=by
 have hp:t.point=false:=by
  unfold Tm.point;have:¬0<=Fi t.lo t.hi:=λh'=>by have:=Qiv.1 h'; grind
  simp [this]
 unfold U0 cq;rw [hp,if_neg (by decide)];have e1:(Fi q t.lo<=0)=(q<=t.lo):=propext Ip;have e2:(0<Fi q t.hi)=(t.hi<q):=propext Pn;rw [Tu,Qup,<-Un];simp only [e1,e2]
theorem Tt {t:Tm}:t.point=true↔t.hi<=t.lo:=by
 unfold Tm.point;rw [decide_eq_true_iff]; exact Qiv
theorem Eh {t:Tm} (h:t.lo=t.hi) (q:Rat):U0 t q=Fi t.lo q:=by
 have hp:t.point=true:=Tt.2 (by rw [h]; exact Qq);unfold U0; rw [if_pos hp]
theorem Zk7 {c:Rat->Int} {x:Rat} (h:∀ q,c q=Fi x q):Cut c where
 val q:=by rw [h]; have:=Io x q; omega
 mono q r hqr h1:=by
  rw [h] at h1 ⊢;rcases Ta x q with ⟨e,e'⟩ | ⟨e,e'⟩ | ⟨e,e'⟩
  ·exact absurd e h1
  ·rcases Ta x r with ⟨f,f'⟩ | ⟨f,f'⟩ | ⟨f,f'⟩ <;> grind
  ·rcases Ta x r with ⟨f,f'⟩ | ⟨f,f'⟩ | ⟨f,f'⟩ <;> grind
 up q h1:=by
  rw [h] at h1;have h2:=Pn.1 (show 0<Fi x q by omega);have h3:(x+q) / 2*2=x+q:=Fl (by decide);have h4:=Pn.2 (show (x+q) / 2<x by grind);have:=Io x ((x+q) / 2);exact ⟨(x+q) / 2,by grind,by rw [h]; omega⟩
 dn q h1:=by
  rw [h] at h1;have h2:=B8.1 (show Fi x q<0 by omega);have h3:(x+q) / 2*2=x+q:=Fl (by decide);have h4:=B8.2 (show x<(x+q) / 2 by grind);have:=Io x ((x+q) / 2);exact ⟨(x+q) / 2,by grind,by rw [h]; omega⟩
 lo:=⟨x-1,by
  rw [h];have h4:=Pn.2 (show x-1<x by grind);have:=Io x (x-1); omega⟩
 hi:=⟨x+1,by
  rw [h];have h4:=B8.2 (show x<x+1 by grind);have:=Io x (x+1); omega⟩
def lim (t:Tm):Nat:=if t.point=true then 3300000 else 1000000
theorem Qq3 {t:Tm} (h:t.point=false):lim t=1000000:=by simp [lim,h]
theorem Zlr (t:Tm):1000000<=lim t:=by unfold lim; split <;> omega
theorem Zls (t:Tm):lim t<=3300000:=by unfold lim; split <;> omega
structure Va (t:Tm):Prop where
 i:t.lo=t.hi/\Up t.p t.lo=0\/∃ L,Vt (cz t.p) L t.lo t.hi
 tr:Uo t.p
 n:t.p.length<=9
 n2:2<=t.p.length
 b:Bd 3300000 t.p
 bi:t.point=false->Bd 1260 t.p
 sc:t.point=false->∃ (l:List (List Int)) (P g:List Int),chF 66 t.p (Uq (Fe t.p))=some l/\Sqp P g t.p/\Vt (cz t.p) ((t.p::l).map cz) t.lo t.hi
 g:∃ D M k,Gr D M k t.lo/\Gr D M k t.hi/\0<M/\Uv (D:Int)+Uv (M:Int)+k<=lim t
theorem Va.le {t:Tm} (h:Va t):t.lo<=t.hi:=by
 rcases h.i with ⟨e,_⟩ | ⟨L,V⟩
 ·rw [e]; exact Qq
 ·exact Qo V.l
theorem Va.pt {t:Tm} (h:Va t) (hp:t.point=true):t.lo=t.hi/\Up t.p t.lo=0:=by
 rcases h.i with e | ⟨L,V⟩
 ·exact e
 ·have:=Tt.1 hp;have:=V.l;grind
theorem Va.iv {t:Tm} (h:Va t) (hp:t.point=false):∃ L,Vt (cz t.p) L t.lo t.hi:=by
 rcases h.i with ⟨e,_⟩ | h
 ·have:=Tt.2 (show t.hi<=t.lo by rw [e]; exact Qq);rw [hp] at this; cases this
 ·exact h
theorem Va.cut {t:Tm} (h:Va t):Cut (U0 t):=by
 rcases h.i with ⟨e,_⟩ | ⟨L,V⟩
 ·exact Zk7 (x:=t.lo) λq=>Eh e q
 ·have:U0 t=cq (cz t.p) t.lo t.hi:=funext λq=>Tp V.l q
  rw [this]; exact V.cut
theorem Zm6 {c:Rat->Int} (hc:Cut c) {p:List Rat} {x:Rat} (h:c x=0) (h0:ev p x=0):Ad p c:=by
 rcases Qbb hc p with h1 | ⟨s,hs,h1⟩
 ·exact h1
 ·have:=Qu4 hc h h1;rw [Fq.2 h0] at this; exact absurd this.symm hs
theorem Va.van {t:Tm} (h:Va t):Ad (cz t.p) (U0 t):=by
 have hc:=h.cut;rcases h.i with ⟨e,h0⟩ | ⟨L,V⟩
 ·exact Zm6 hc (x:=t.lo) (by rw [Eh e,Bt]) (by rw [Un]; exact h0)
 ·have:U0 t=cq (cz t.p) t.lo t.hi:=funext λq=>Tp V.l q
  rw [this]; exact V.van
theorem Va.qs {t:Tm} (h:Va t):Qs 3300000 t.lo/\Qs 3300000 t.hi:=by
 obtain ⟨D,M,k,h1,h2,h3,h4⟩:=h.g;have h4:=Qc h4 (Zls t);exact ⟨Qhr h1 h3 h4,Qhr h2 h3 h4⟩
theorem Va.qsn {t:Tm} (h:Va t) (hp:t.point=false):Qs 1000000 t.lo/\Qs 1000000 t.hi:=by
 obtain ⟨D,M,k,h1,h2,h3,h4⟩:=h.g;rw [Qq3 hp] at h4;exact ⟨Qhr h1 h3 h4,Qhr h2 h3 h4⟩
theorem Va.tb {t:Tm} (h:Va t):Tb t:=⟨⟨h.tr,by have:=h.n; omega,Uj h.b (by omega)⟩,h.qs.1.mono (t:=16777216) (by omega),h.qs.2.mono (t:=16777216) (by omega)⟩
structure Hv (t:Tm) (D M k:Nat) (u:Tm):Prop where
 p:u.p=t.p
 i:u.lo=u.hi/\Up u.p u.lo=0\/∃ L,Vt (cz u.p) L u.lo u.hi
 c:∀ q,U0 u q=U0 t q
 l:Gr D M k u.lo
 h:Gr D M k u.hi
theorem Qtr {c:Rat->Int} (hc:Cut c) {x:Rat} (h:c x=0) (q:Rat):c q=Fi x q:=by
 rcases Ta x q with ⟨e,e'⟩ | ⟨e,e'⟩ | ⟨e,e'⟩
 ·rw [e]; exact hc.mono' e' (by omega)
 ·rw [e,<-e',h]
 ·rw [e]; exact hc.mono x q e' (by omega)
theorem Qqv {t u:Tm} {D M k:Nat} (hu:Hv t D M k u) (hM:0<M) (hs:Uv (D:Int)+Uv (M:Int)+(k+1)<=16777216):∃ v,Qqu u=some v/\Hv t D M (k+1) v/\v.hi-v.lo<=(u.hi-u.lo) / 2/\u.lo<=v.lo/\v.hi<=u.hi:=by
 have h2:∀ x:Rat,x / 2*2=x:=λx=>Fl (by decide)
 unfold Qqu;rcases hu.i with ⟨e,h0⟩ | ⟨L,V⟩
 ·have hp:u.point=true:=Tt.2 (by rw [e]; exact Qq);rw [if_pos hp];refine ⟨u,rfl,⟨hu.p,hu.i,hu.c,Qhs hu.l,Qhs hu.h⟩,?_,Qq,Qq⟩;rw [e]; have:=h2 (u.hi-u.hi); grind
 ·have hp:u.point=false:=by
   have:¬u.point=true:=λh=>by have:=Tt.1 h; have:=V.l; grind
   simpa using this
  rw [hp,if_neg (by decide)];obtain ⟨m,hm⟩:=nmE ((u.lo+u.hi) / 2);have hmg:Gr D M (k+1) m:=by rw [hm]; exact Qyj hu.l hu.h
  have hmm:=h2 (u.lo+u.hi);rw [<-hm] at hmm;have hl:=V.l;have hl1:u.lo<m:=by grind
  have hl2:m<u.hi:=by grind
  have hch:chq (Om u.lo u.hi)=some m:=by
   rw [Qc9,<-hm];have:=Qhr hmg hM hs;unfold chq;rw [if_pos ⟨this.1,this.2⟩]
  have hcm:Om u.lo u.hi=m:=by rw [Qc9,<-hm]
  rw [hch];show ∃ v,some (if U0 u m=0 then (⟨u.p,m,m⟩:Tm) else if U0 u m=-1 then ⟨u.p,u.lo,m⟩ else ⟨u.p,m,u.hi⟩)=some v/\_;have hw:=h2 (u.hi-u.lo);have hcu:=Tp hl;have hcut:=V.cut;have hcut':Cut (U0 u):=by rw [show U0 u=cq (cz u.p) u.lo u.hi from funext hcu]; exact hcut
  by_cases c0:U0 u m=0
  ·rw [if_pos c0];have hz:Up u.p m=0:=by
    have:=Qhc hcut (q:=m) (by rw [<-hcu]; exact c0) V.van;rwa [Un] at this
   refine ⟨_,rfl,⟨hu.p,.inl ⟨rfl,hz⟩,λq=>?_,hmg,hmg⟩,by show m-m<=_; grind,by show u.lo<=m; grind,by show m<=u.hi; grind⟩;rw [Eh rfl,<-hu.c];exact (Qtr hcut' c0 q).symm
  ·rw [if_neg c0];by_cases c1:U0 u m=-1
   ·rw [if_pos c1];have hv:vv L m=vv L u.hi:=V.eq_hi hl1 (Qo hl2) (by rw [<-hcu,c1]; decide);have V':Vt (cz u.p) L u.lo m:=⟨V.s,hl1,by rw [hv]; exact V.v⟩;refine ⟨_,rfl,⟨hu.p,.inr ⟨L,V'⟩,λq=>?_,Qhs hu.l,hmg⟩,by show m-u.lo<=_; grind,Qq,by show m<=u.hi; grind⟩;rw [Tp hl1,<-hu.c,hcu];exact V.uniq V'.cut (Be Qq) (by rw [Ol hl1 hl2]; decide) V'.van q
   ·rw [if_neg c1];have c2:U0 u m=1:=by rcases hcut'.val m with h | h | h <;> omega
    have hv:vv L m=vv L u.lo:=V.eq_lo hl1 (Qo hl2) (by rw [<-hcu]; exact c2);have V':Vt (cz u.p) L m u.hi:=⟨V.s,hl2,by rw [hv]; exact V.v⟩;refine ⟨_,rfl,⟨hu.p,.inr ⟨L,V'⟩,λq=>?_,hmg,Qhs hu.h⟩,by show u.hi-m<=_; grind,by show u.lo<=m; grind,Qq⟩;rw [Tp hl2,<-hu.c,hcu];exact V.uniq V'.cut (Be (by grind)) V'.hi1 V'.van q
def Pw (a b:Tm):Prop:=∃ q,U0 a q=-1/\U0 b q=1
def TEq (a b:Tm):Prop:=∀ q,U0 a q=U0 b q
theorem tri {a b:Tm} (ha:Cut (U0 a)) (hb:Cut (U0 b)):Pw a b\/TEq a b\/Pw b a:=by
 rcases Classical.em (TEq a b) with h | h
 ·exact .inr (.inl h)
 ·obtain ⟨q,hq⟩:=Classical.not_forall.1 h;obtain ⟨r,⟨h1,h2⟩ | ⟨h1,h2⟩⟩:=Qtq ha hb hq
  ·exact .inl ⟨r,h1,h2⟩
  ·exact .inr (.inr ⟨r,h2,h1⟩)
theorem Qak {a b:Tm} (ha:Cut (U0 a)) (hb:Cut (U0 b)) (h:Pw a b) (h':Pw b a):False:=by
 obtain ⟨q,q1,q2⟩:=h;obtain ⟨r,r1,r2⟩:=h';have:=ha.lt r2 q1;have:=hb.lt q2 r1;grind
theorem Qvs {p:List Int} (k:Nat):(p.getD k 0).natAbs<=2^Ga p:=by
 have h:Uv (p.getD k 0)<=Ga p:=by
  have key:∀ (l:List Int) (n:Nat),n≤l.foldl (λn z=>max n (Uv z)) n/\∀ z∈l,Uv z≤l.foldl (λn z=>max n (Uv z)) n:=by
   intro l
   induction l with
   | nil=>exact λn=>⟨Qm _,λz hz=>by cases hz⟩
   |
    cons y l ih =>
    intro n;obtain ⟨i1,i2⟩:=ih (max n (Uv y));refine ⟨by simp only [Xe]; omega,λz hz=>?_⟩;simp only [Xe];rcases Qp.1 hz with rfl | hz
    ·omega
    ·exact i2 z hz
  exact Uw (s:=Ga p) (λz hz=>(key p 0).2 z hz) k
 rw [Rr] at h; omega
theorem Zjo {s:Nat}:∀ (B:List Int),(∀ z∈B,z.natAbs≤2^s)->gB B≤2^(s+(B.length-1))
 | [],_=>Qh _
 |
  c::B,h=>by
  have h1:=h c (Qr ..);have h2:=Zjo B λz hz=>h z (Qj _ hz)
  simp only [gB,Q6,Yh];have h3:2^s<=2^(s+B.length):=Zq (by decide) (by omega);cases B with
  | nil=>simp only [gB,Jc] at *; omega
  |
   cons d B =>
   have h4:2^(s+(d::B).length)=2*2^(s+((d::B).length-1)):=by
    rw [Zi,<-Zo]; congr 1
   rw [h4]; omega
def Rv (A B:List Int):Nat:=(Ga A+Ga B+(A.length+B.length)+8)*(2*(A.length+B.length-2)-1)
theorem Q9z {A B:List Int} (tA:Uo A) (tB:Uo B) (nA:A.length<=9) (nB:B.length<=9) (lA:2<=A.length) (lB:2<=B.length) {R d:Rat} (hR:1<=R) (dp:0<d)
 (hs:∀ e:Rat,0<e->∃ q r,Uu q<=R/\Uu r<=R/\d<=Uu (q-r)/\Uu (q-r)*((2^(Rv A B+1):Nat):Rat)<=1/\Uu (Up A q)<e/\Uu (Up B r)<e):False:=by
 obtain ⟨a,ha⟩:∃ a,A.length=a+1:=⟨A.length-1,by omega⟩;obtain ⟨b,hb⟩:∃ b,B.length=b+1:=⟨B.length-1,by omega⟩;obtain ⟨s,hsd⟩:=nmE (Ga A+Ga B+b);obtain ⟨N,hN⟩:∃ N,b*(2*(a*b))+a*(2*(a*b)-b)=N:=⟨_,rfl⟩;have hNt:N<=2^(a+9):=by
  rw [<-hN];have hab:∀ a b:Fin 9,b.1*(2*(a.1*b.1))+a.1*(2*(a.1*b.1)-b.1)<=2^(a.1+9):=by decide
  exact hab ⟨a,by omega⟩ ⟨b,by omega⟩
 have hK:Rv A B=(s+a+10)*(2*(a+b-1)+1):=by
  unfold Rv;rw [ha,hb,hsd,show a+1+(b+1)-2=a+b by omega,show 2*(a+b)-1=2*(a+b-1)+1 by omega];congr 1; omega
 have h0A:A.getD a 0≠0:=by have:=Gv tA (by omega); rwa [ha] at this
 have h0B:B.getD b 0≠0:=by have:=Gv tB (by omega); rwa [hb] at this
 have hp:∀ m,1<=2^m:=λm=>Zy (by decide)
 refine Zli (N:=N) (D:=2^(Rv A B-1)) ha hb h0A h0B (by omega) (by omega) (h:=2^s) (hp s) (λk=>Qc (Qvs k) (Zq (by decide) (by omega))) ?_ hN ?_ hR dp λe ep=>?_
 ·refine Qc (Zjo (s:=Ga B) B λz hz=>?_) (Zq (by decide) (by omega));obtain ⟨i,hi⟩:=Zh.1 hz;have:=Qvs (p:=B) i;rwa [Qg,hi] at this
 ·have h1:2*(N*2^s)<=2^(s+a+10):=by
   have:N*2^s<=2^(a+9)*2^s:=Qy _ hNt;rw [<-Xh] at this;rw [show s+a+10=(a+9+s)+1 by omega,Zo]; omega
  have h2:N*2^s<=2^(s+a+9):=by
   rw [show s+a+9=(a+9)+s by omega,Xh]; exact Qy _ hNt
  have h3:=Nat.pow_le_pow_left h1 (2*(a+b-1));have h4:=Zx h2 h3;rw [<-Uh,<-Xh] at h4;rw [<-Xq];refine Qc h4 (Zq (by decide) ?_);rw [hK,Xu,Yy]; omega
 ·obtain ⟨q,r,h1,h2,h3,h4,h5,h6⟩:=hs e ep;refine ⟨q,r,h1,h2,h3,?_,h5,h6⟩;have hK1:1<=Rv A B:=by
   rw [hK]; exact Yd (by omega) (by omega)
  have e1:2^(Rv A B+1)=4*2^(Rv A B-1):=by
   obtain ⟨m,hm⟩:∃ m,Rv A B=m+1:=⟨Rv A B-1,by omega⟩;rw [hm,Yh,Zo,Zo]; omega
  rw [e1] at h4
  push_cast at h4 ⊢
  exact h4
theorem Hv.lo' {t:Tm} {D M k:Nat} {u:Tm} (h:Hv t D M k u):U0 t u.lo=1\/U0 t u.lo=0/\u.lo=u.hi:=by
 rw [<-h.c];rcases h.i with ⟨e,_⟩ | ⟨L,V⟩
 ·exact .inr ⟨by rw [Eh e,Bt],e⟩
 ·exact .inl (by rw [Tp V.l]; exact Be Qq)
theorem Hv.hi' {t:Tm} {D M k:Nat} {u:Tm} (h:Hv t D M k u):U0 t u.hi=0\/U0 t u.hi=-1:=by
 rw [<-h.c];rcases h.i with ⟨e,_⟩ | ⟨L,V⟩
 ·exact .inl (by rw [Eh e,e,Bt])
 ·rw [Tp V.l];have:=V.hi1;rcases V.cut.val u.hi with h | h | h <;> omega
theorem Hv.le {t:Tm} {D M k:Nat} {u:Tm} (h:Hv t D M k u):u.lo<=u.hi:=by
 rcases h.i with ⟨e,_⟩ | ⟨L,V⟩
 ·rw [e]; exact Qq
 ·exact Qo V.l
theorem Q90 {a b:Tm} (ha:Va a) (hb:Va b) {D M k D' M' k':Nat} {u v:Tm} (hu:Hv a D M k u) (hv:Hv b D' M' k' v) (h:Pw a b):1<(v.hi-u.lo)*((2^(Rv a.p b.p+1):Nat):Rat):=by
 rcases U9 ((v.hi-u.lo)*((2^(Rv a.p b.p+1):Nat):Rat)) 1 with hw | hw
 ·exfalso;have ca:=ha.cut;have cb:=hb.cut;obtain ⟨m,m1,m2⟩:=h;obtain ⟨m',hm',m3⟩:=ca.dn m m1;have hpow:(0:Rat)<=((2^(Rv a.p b.p+1):Nat):Rat):=Xp;obtain ⟨R,hR⟩:=nmE (Uu u.lo+Uu m'+Uu m+Uu v.hi+1);have n1:=Gx u.lo; have n2:=Gx m'; have n3:=Gx m; have n4:=Gx v.hi;refine Q9z (R:=R) (d:=m-m') ha.tr hb.tr ha.n hb.n ha.n2 hb.n2 (by grind) (by grind) λe ep=>?_
  obtain ⟨q,q1,q2,q3⟩:∃ q,u.lo<=q/\q<=m'/\Uu (Up a.p q)<e:=by
   rcases hu.lo' with h1 | ⟨h1,_⟩
   ·obtain ⟨x,y,hx,hy,hq⟩:=ha.van e ep;rcases U9 x u.lo with e1 | e1
    ·exact ⟨u.lo,Qq,Qo (ca.lt h1 m3),by rw [<-Un]; exact hq u.lo e1 (Qo (ca.lt h1 hy))⟩
    ·exact ⟨x,Qo e1,Qo (ca.lt hx m3),by rw [<-Un]; exact hq x Qq (Qo (ca.lt hx hy))⟩
   ·refine ⟨u.lo,Qq,?_,by rw [<-Un,Qhc ca h1 ha.van,Hk]; exact ep⟩;rcases U9 u.lo m' with e1 | e1
    ·exact e1
    ·have:=ca.mono m' u.lo e1 (by omega); omega
  obtain ⟨r,r1,r2,r3⟩:∃ r,r<=v.hi/\m<=r/\Uu (Up b.p r)<e:=by
   rcases hv.hi' with h1 | h1
   ·refine ⟨v.hi,Qq,?_,by rw [<-Un,Qhc cb h1 hb.van,Hk]; exact ep⟩;rcases U9 m v.hi with e1 | e1
    ·exact e1
    ·have:=cb.mono v.hi m e1 (by omega); omega
   ·obtain ⟨x,y,hx,hy,hq⟩:=hb.van e ep;rcases U9 v.hi y with e1 | e1
    ·exact ⟨v.hi,Qq,Qo (cb.lt m2 h1),by rw [<-Un]; exact hq v.hi (Qo (cb.lt hx h1)) e1⟩
    ·exact ⟨y,Qo e1,Qo (cb.lt m2 hy),by rw [<-Un]; exact hq y (Qo (cb.lt hx hy)) Qq⟩
  have e1:Uu (q-r)=r-q:=by unfold Uu; split <;> grind
  have b1:Uu q<=R:=by
   have:=Qed (R:=R) (x:=u.lo) (y:=m') (t:=q) (by grind) (by grind) q1 q2; exact this
  have b2:Uu r<=R:=by
   have:=Qed (R:=R) (x:=m) (y:=v.hi) (t:=r) (by grind) (by grind) r2 r1; exact this
  refine ⟨q,r,b1,b2,by rw [e1]; grind,?_,q3,r3⟩;rw [e1];have:=Q5 (show r-q<=v.hi-u.lo by grind) hpow;exact Zc this hw
 ·exact hw
theorem Qs6 {a b:Tm} (ha:Va a) (hb:Va b) {D M k D' M' k':Nat} {u v:Tm} (hu:Hv a D M k u) (hv:Hv b D' M' k' v) (hne:¬TEq a b) (h:Ch u v=true):Pw a b:=by
 have h1:=(of_decide_eq_true h).1;have h1:=Ip.1 h1;rcases tri ha.cut hb.cut with h2 | h2 | ⟨m,m1,m2⟩
 ·exact h2
 ·exact absurd h2 hne
 ·exfalso;have e1:m<u.hi:=by
   rcases U9 u.hi m with e | e
   ·rcases Classical.em (u.hi=m) with e' | e'
    ·have:=hu.hi'; rw [e'] at this; omega
    ·have:=ha.cut.mono u.hi m (by grind) (by have:=hu.hi'; omega); omega
   ·exact e
  have e2:v.lo<m:=by
   rcases U9 m v.lo with e | e
   ·rcases Classical.em (m=v.lo) with e' | e'
    ·have:=hv.lo'; rw [<-e'] at this; omega
    ·have:=hb.cut.mono m v.lo (by grind) (by omega);have:=hv.lo'; omega
   ·exact e
  grind
theorem Q2y {a b:Tm} (ha:Va a) (hb:Va b) {D M k D' M' k':Nat} {u v:Tm} (hu:Hv a D M k u) (hv:Hv b D' M' k' v) (hlt:Pw a b) (h:Ch u v≠true):v.lo<=u.hi:=by
 rcases U9 v.lo u.hi with e | e
 ·exact e
 ·refine absurd (decide_eq_true ⟨Ip.2 (Qo e),λh'=>?_⟩) h;have:=Df.1 h'.2; grind
theorem Qow (m:Nat):((2^(m+1):Nat):Rat)=2*((2^m:Nat):Rat):=by rw [Zo]; push_cast; grind
def Zj7 (a b:Tm) (r:Tm×Tm×Int):Prop:=r.2.2=-1/\Pw a b\/r.2.2=1/\Pw b a
theorem Q47 (A B:List Int):Rv A B=Rv B A:=by unfold Rv; rw [Nat.add_comm A.length,Nat.add_comm (Ga A)]
theorem Znn {a b:Tm} (ha:Va a) (hb:Va b) (hne:¬TEq a b) {D M D' M':Nat} (hM:0<M) (hM':0<M'):∀ (i j:Nat) (u v:Tm) (k k':Nat) (W:Rat),2*i+1<=j->Hv a D M k u->Hv b D' M' k' v->Uv (D:Int)+Uv (M:Int)+(k+j)<=16777216->Uv (D':Int)+Uv (M':Int)+(k'+j)<=16777216->u.hi-u.lo<=W->v.hi-v.lo<=W->2*W*((2^(Rv a.p b.p+1):Nat):Rat)<=((2^i:Nat):Rat)->∃ r,apF j u v=some r/\Zj7 a b r:=by
 intro i;have step:∀ (j:Nat) (u v:Tm) (k k':Nat),Hv a D M k u->Hv b D' M' k' v->Uv (D:Int)+Uv (M:Int)+(k+(j+1))<=16777216->Uv (D':Int)+Uv (M':Int)+(k'+(j+1))<=16777216->(∃ r,apF (j+1) u v=some r/\Zj7 a b r)\/(Ch u v≠true/\Ch v u≠true/\∃ u' v' k1 k1',apF (j+1) u v=apF j u' v'/\Hv a D M k1 u'/\Hv b D' M' k1' v'/\k1<=k+1/\k1'<=k'+1/\(v.hi-v.lo<=u.hi-u.lo/\u'.hi-u'.lo<=(u.hi-u.lo) / 2/\v'=v\/u.hi-u.lo<=v.hi-v.lo/\v'.hi-v'.lo<=(v.hi-v.lo) / 2/\u'=u)):=by
  intro j u v k k' hu hv hs hs';by_cases h1:Ch u v=true
  ·exact .inl ⟨(u,v,-1),by simp only [apF]; rw [if_pos h1],.inl ⟨rfl,Qs6 ha hb hu hv hne h1⟩⟩
  by_cases h2:Ch v u=true
  ·exact .inl ⟨(u,v,1),by simp only [apF]; rw [if_neg h1,if_pos h2],.inr ⟨rfl,Qs6 hb ha hv hu (λh=>hne λq=>(h q).symm) h2⟩⟩
  refine .inr ⟨h1,h2,?_⟩;by_cases h3:0<=Fi (Ql4 u.hi u.lo) (Ql4 v.hi v.lo)
  ·obtain ⟨x,x1,x2,x3,_⟩:=Qqv hu hM (by omega);refine ⟨x,v,k+1,k',?_,x2,hv,by omega,by omega,.inl ⟨?_,x3,rfl⟩⟩
   ·simp only [apF]; rw [if_neg h1,if_neg h2,if_pos h3,x1]; rfl
   ·have:=Qiv.1 h3; rwa [Qjf,Qjf] at this
  ·obtain ⟨x,x1,x2,x3,_⟩:=Qqv hv hM' (by omega);refine ⟨u,x,k,k'+1,?_,hu,x2,by omega,by omega,.inr ⟨?_,x3,rfl⟩⟩
   ·simp only [apF]; rw [if_neg h1,if_neg h2,if_neg h3,x1]; rfl
   ·rcases U9 (u.hi-u.lo) (v.hi-v.lo) with e | e
    ·exact e
    ·refine absurd (Qiv.2 ?_) h3;rw [Qjf,Qjf]; exact Qo e
 induction i with
 |
  zero =>
  intro j u v k k' W hj hu hv hs hs' hW hW' hK;obtain ⟨j,rfl⟩:∃ m,j=m+1:=⟨j-1,by omega⟩;rcases step j u v k k' hu hv hs hs' with h | ⟨h1,h2,_⟩
  ·exact h
  ·exfalso;have hpow:(0:Rat)<=((2^(Rv a.p b.p+1):Nat):Rat):=Xp;rw [Y8] at hK;rcases tri ha.cut hb.cut with h3 | h3 | h3
   ·have h4:=Q2y ha hb hu hv h3 h1;have h5:=Q90 ha hb hu hv h3;have h6:=Q5 (show v.hi-u.lo<=2*W by clear step; grind) hpow;have h7:((1:Nat):Rat)=1:=rfl;rw [h7] at hK;clear step; grind
   ·exact hne h3
   ·have h4:=Q2y hb ha hv hu h3 h2;have h5:=Q90 hb ha hv hu h3;rw [Q47] at h5;have h6:=Q5 (show u.hi-v.lo<=2*W by clear step; grind) hpow;have h7:((1:Nat):Rat)=1:=rfl;rw [h7] at hK;clear step; grind
 |
  succ i ih =>
  intro j u v k k' W hj hu hv hs hs' hW hW' hK;obtain ⟨j,rfl⟩:∃ m,j=m+2:=⟨j-2,by omega⟩;have hd:∀ x:Rat,x / 2*2=x:=λx=>Fl (by decide)
  rcases step (j+1) u v k k' hu hv hs hs' with h | ⟨_,_,u1,v1,k1,k1',e1,hu1,hv1,hk1,hk1',hw1⟩
  ·exact h
  ·rw [e1];rcases step j u1 v1 k1 k1' hu1 hv1 (by omega) (by omega) with h | ⟨_,_,u2,v2,k2,k2',e2,hu2,hv2,hk2,hk2',hw2⟩
   ·exact h
   ·rw [e2];have a1:=hd (u.hi-u.lo); have a2:=hd (v.hi-v.lo); have a3:=hd (u1.hi-u1.lo); have a4:=hd (v1.hi-v1.lo); have a5:=hd W;have b1:=hu.le; have b2:=hv.le; have b3:=hu1.le; have b4:=hv1.le; have b5:=hu2.le; have b6:=hv2.le;have hww:u2.hi-u2.lo<=W / 2/\v2.hi-v2.lo<=W / 2:=by
     clear step ih;rcases hw1 with ⟨c1,c2,rfl⟩ | ⟨c1,c2,rfl⟩ <;> rcases hw2 with ⟨d1,d2,rfl⟩ | ⟨d1,d2,rfl⟩ <;> constructor <;> grind
    refine ih j u2 v2 k2 k2' (W / 2) (by omega) hu2 hv2 (by omega) (by omega) hww.1 hww.2 ?_;rw [Qow i] at hK;have:2*(W / 2)*((2^(Rv a.p b.p+1):Nat):Rat)*2=2*W*((2^(Rv a.p b.p+1):Nat):Rat):=by clear step ih hw1 hw2; grind
    clear step ih hw1 hw2; grind
def CmpOk (a b:Tm) (c:Int):Prop:=c=-1/\Pw a b\/c=0/\TEq a b\/c=1/\Pw b a
theorem Va.hv0 {t:Tm} (h:Va t):∃ D M k,Hv t D M k t/\0<M/\Uv (D:Int)+Uv (M:Int)+k<=lim t:=by
 obtain ⟨D,M,k,h1,h2,h3,h4⟩:=h.g;exact ⟨D,M,k,⟨rfl,h.i,λ_=>rfl,h1,h2⟩,h3,h4⟩
theorem Qzf {a:Tm} (ha:Va a) (hp:a.point=true) (q:Rat):U0 a q=Fi a.lo q:=Eh (ha.pt hp).1 q
theorem Q84 {a b:Tm} (hb:Va b) {x:Rat} (hx:∀ q,U0 a q=Fi x q):CmpOk a b (-U0 b x):=by
 have cb:=hb.cut;rcases cb.val x with h | h | h
 ·obtain ⟨q,q1,q2⟩:=cb.up x h;refine .inl ⟨by omega,q,?_,q2⟩;rw [hx]; rcases Ta x q with ⟨e,e'⟩ | ⟨e,e'⟩ | ⟨e,e'⟩ <;> grind
 ·exact .inr (.inl ⟨by omega,λq=>by rw [hx,Qtr cb h]⟩)
 ·obtain ⟨q,q1,q2⟩:=cb.dn x h;refine .inr (.inr ⟨by omega,q,q2,?_⟩);rw [hx]; rcases Ta x q with ⟨e,e'⟩ | ⟨e,e'⟩ | ⟨e,e'⟩ <;> grind
theorem CmpOk.symm {a b:Tm} {c:Int} (h:CmpOk a b c):CmpOk b a (-c):=by
 rcases h with ⟨h1,h2⟩ | ⟨h1,h2⟩ | ⟨h1,h2⟩
 ·exact .inr (.inr ⟨by omega,h2⟩)
 ·exact .inr (.inl ⟨by omega,λq=>(h2 q).symm⟩)
 ·exact .inl ⟨by omega,h2⟩
theorem Zpa:Szz 9 1260:=⟨by decide,by decide⟩
theorem Qec (g:List Int) (lo hi:Rat):Qeb g lo hi=true↔Qyk (cz g) lo hi:=by
 unfold Qeb Qyk;rw [decide_eq_true_iff,Tu,Qup,Un]
theorem Qt9 {g:List Int} (tg:Uo g) (hn:g.length≠0) {lo hi:Rat} (h:Qyk (cz g) lo hi):1<g.length:=by
 rcases Zb 1 g.length with e | e
 ·exact e
 ·exfalso;obtain ⟨c,rfl⟩:∃ c,g=[c]:=Ko.1 (by omega);have hc:c≠0:=by have:=Gv tg (by simp); simpa using this
  have hv:∀ t,ev (cz [c]) t=(c:Rat):=λt=>by rw [Un]; simp only [Up]; grind
  have hs:Uz (c:Rat)≠0:=λh=>I1 hc (Fq.1 h)
  unfold Qyk at h;rw [hv,Ln (by rw [hv]; exact hs),hv] at h;rcases h with h | h
  ·exact hs h
  ·exact h rfl
theorem Qc5 {q:Rat}:Uu q<=((2^Uv q.num:Nat):Rat):=by
 have h1:Uv q.num<=Uv q.num:=Qm _;rw [Rr] at h1;have e:(q.num:Rat)=q*(q.den:Rat):=by
  have:(q.num:Rat) / (((q.den:Int)):Rat)=q:=by rw [Gs,Zs]
  have h2:(q.num:Rat) / (q.den:Rat)*(q.den:Rat)=q.num:=Zk (by have:=nat_pos q.den_pos; grind);rw [show (q.num:Rat) / (q.den:Rat)=q from this] at h2; exact h2.symm
 have hd:(1:Rat)<=(q.den:Rat):=by
  have:((1:Nat):Rat)<=(q.den:Rat):=Zd.2 q.den_pos;exact this
 have h2:Uu q<=Uu (q.num:Rat):=by
  rw [e,Dn];have:Uu (q.den:Rat)=(q.den:Rat):=by unfold Uu; rw [if_neg (by grind)]
  rw [this];have:=Pd (a:=Uu q) (c:=1) (Gx q) Qq (by decide) hd;grind
 rw [Tj] at h2;exact Zc h2 (Zd.2 (Jz h1))
theorem Qhd {a:Tm} {w:Nat} (h:Uv a.lo.num+Uv a.hi.num<=w):a.hi-a.lo<=((2^(w+1):Nat):Rat):=by
 have h1:=Qc5 (q:=a.lo);have h2:=Qc5 (q:=a.hi);have h3:((2^Uv a.lo.num:Nat):Rat)<=((2^w:Nat):Rat):=Zd.2 (Zq (by decide) (by omega));have h4:((2^Uv a.hi.num:Nat):Rat)<=((2^w:Nat):Rat):=Zd.2 (Zq (by decide) (by omega));rw [Qow];rw [Rx] at h1 h2;grind
theorem A2 {p:List Int} {s:Nat} (h:Bd s p):Ga p<=s:=by
 have:=Pf h p.length; rwa [Q4] at this
theorem Zc6 {a b:Tm} (ha:Va a) (hb:Va b) (pa:a.point=false) (pb:b.point=false):Ss a b<=9000000:=by
 have q1:=ha.qsn pa; have q2:=hb.qsn pb;have l1:=ha.n; have l2:=hb.n;have s1:=A2 (ha.bi pa); have s2:=A2 (hb.bi pb);have b1:=q1.1.1; have b2:=q1.2.1; have b3:=q2.1.1; have b4:=q2.2.1;have:4*(a.p.length+b.p.length)*(Ga a.p+Ga b.p+(a.p.length+b.p.length)+8)<=4*18*2600:=Zx (by omega) (by omega);unfold Ss; omega
theorem Q6z {a b:Tm} (ha:Va a) (hb:Va b) (pa:a.point=false) (pb:b.point=false) (hne:¬TEq a b):∃ r,apF (Ss a b) a b=some r/\Zj7 a b r:=by
 obtain ⟨D,M,k,h1,h2,h3⟩:=ha.hv0;obtain ⟨D',M',k',h1',h2',h3'⟩:=hb.hv0;rw [Qq3 pa] at h3;rw [Qq3 pb] at h3';have hst:=Zc6 ha hb pa pb;obtain ⟨w,hw⟩:=nmE (Uv a.lo.num+Uv a.hi.num+Uv b.lo.num+Uv b.hi.num);obtain ⟨K,hK⟩:=nmE (Ga a.p+Ga b.p+(a.p.length+b.p.length)+8);obtain ⟨n,hn⟩:=nmE (a.p.length+b.p.length);have l1:=ha.n2; have l2:=hb.n2;have hsteps:Ss a b=64+2*w+4*n*K:=by unfold Ss; rw [hw,hK,hn]
 have hg:Rv a.p b.p=K*(2*(n-2)-1):=by unfold Rv; rw [hK,hn]
 have hgle:Rv a.p b.p+5*K<=2*n*K:=by
  rw [hg,Zi K,<-Js];exact Qy _ (by omega)
 have hKp:8<=K:=by omega
 refine Znn ha hb hne h2 h2' (31+w+2*n*K) (Ss a b) a b k k' ((2^(w+1):Nat):Rat) ?_ h1 h1' (by omega) (by omega) (Qhd (by omega)) (Qhd (by omega)) ?_
 ·rw [hsteps,Xu,Xq 4,Xq 2 n]; omega
 ·have e:2*(2^(w+1))*(2^(Rv a.p b.p+1))<=2^(31+w+2*n*K):=by
   rw [Zi 2,<-Zo,<-Xh];exact Zq (by decide) (by omega)
  have:=Zd.2 e
  push_cast at this ⊢
  exact this
theorem Qbi {a b:Tm} (ha:Va a) (hb:Va b):∃ c,Qie a b=some c/\CmpOk a b c:=by
 unfold Qie;by_cases pa:a.point=true
 ·rw [if_pos pa];exact ⟨_,rfl,Q84 hb (Qzf ha pa)⟩
 rw [if_neg pa];by_cases pb:b.point=true
 ·rw [if_pos pb];have:=(Q84 ha (Qzf hb pb)).symm;rw [Int.neg_neg] at this;exact ⟨_,rfl,this⟩
 rw [if_neg pb];have pa:a.point=false:=by simpa using pa
 have pb:b.point=false:=by simpa using pb
 obtain ⟨L,V⟩:=ha.iv pa;obtain ⟨L',V'⟩:=hb.iv pb;have eqa:∀ q,U0 a q=cq (cz a.p) a.lo a.hi q:=Tp V.l;have eqb:∀ q,U0 b q=cq (cz b.p) b.lo b.hi q:=Tp V'.l;obtain ⟨lo,hlo⟩:=nmE (if 0<Fi b.lo a.lo then b.lo else a.lo);obtain ⟨hi,hhi⟩:=nmE (if Fi b.hi a.hi<0 then b.hi else a.hi);show ∃ c,(if Fi (if 0<Fi b.lo a.lo then b.lo else a.lo) (if Fi b.hi a.hi<0 then b.hi else a.hi)<0 then _ else _)=some c/\_;rw [<-hlo,<-hhi];have e1:(0<Fi b.lo a.lo)=(a.lo<b.lo):=propext Pn;have e2:(Fi b.hi a.hi<0)=(b.hi<a.hi):=propext B8;have e3:(Fi lo hi<0)=(lo<hi):=propext B8;simp only [e1] at hlo;simp only [e2] at hhi;simp only [e3];obtain ⟨g,g1,g2,g3,g4⟩:=Q97 Zpa ha.tr hb.tr ha.n hb.n (ha.bi pa) (hb.bi pb) (by have:=ha.n2; omega);obtain ⟨U,W,hc⟩:=g2.c;obtain ⟨u,hu⟩:=g2.da;obtain ⟨u',hu'⟩:=g2.db;have key:=V.same V' (g:=cz g) (u:=u) (u':=u') (U:=U) (W:=W) (k:=1) (by decide) hu hu' (λt=>by rw [Un,Un,Un,hc]; grind) (a:=lo) (b:=hi) (by rw [hlo]; split <;> grind) (by rw [hlo]; split <;> grind) (by rw [hlo]; split <;> simp) (by rw [hhi]; split <;> grind) (by rw [hhi]; split <;> grind) (by rw [hhi]; split <;> simp);have hTE:(∀ q,cq (cz a.p) a.lo a.hi q=cq (cz b.p) b.lo b.hi q)↔TEq a b:=by
  unfold TEq; constructor
  ·intro h q; rw [eqa,eqb]; exact h q
  ·intro h q; rw [<-eqa,<-eqb]; exact h q
 rw [hTE] at key;have fin:¬TEq a b->∃ c,((apF (Ss a b) a b).bind λr=>some r.2.2)=some c/\CmpOk a b c:=λhne=>by
  obtain ⟨r,r1,r2⟩:=Q6z ha hb pa pb hne;refine ⟨r.2.2,by rw [r1]; rfl,?_⟩;rcases r2 with h | h
  ·exact .inl h
  ·exact .inr (.inr h)
 by_cases hl:lo<hi
 ·rw [if_pos hl,g1];show ∃ c,(if 1<g.length/\Qeb g lo hi=true then some 0 else (apF (Ss a b) a b).bind λr=>some r.2.2)=some c/\_;by_cases hh:Qeb g lo hi=true
  ·have hq:=(Qec g lo hi).1 hh;rw [if_pos ⟨Qt9 g2.t g2.n hq,hh⟩];exact ⟨0,rfl,.inr (.inl ⟨rfl,key.1 ⟨hl,hq⟩⟩)⟩
  ·rw [if_neg λh=>hh h.2];exact fin λh=>hh ((Qec g lo hi).2 (key.2 h).2)
 ·rw [if_neg hl];exact fin λh=>hl (key.2 h).1
def SgT (p:List Int) (a:Tm) (s:Int):Prop:=s=0/\Ad (cz p) (U0 a)\/s≠0/\NZ (cz p) (U0 a) s
theorem Zmj {p:List Int} {c:Rat->Int} (hc:Cut c) {x:Rat} (h:c x=0):Fc p x=0/\Ad (cz p) c\/Fc p x≠0/\NZ (cz p) c (Fc p x):=by
 rw [Tu,<-Un];rcases Qbb hc (cz p) with h1 | ⟨s,hs,h1⟩
 ·exact .inl ⟨Fq.2 (Qhc hc h h1),h1⟩
 ·have:=Qu4 hc h h1;rw [this]; exact .inr ⟨hs,h1⟩
theorem D7 {l:List (List Int)} {lo hi:Rat} (h:lo<=hi):Hd l lo hi=(vv (l.map cz) lo:Int)-(vv (l.map cz) hi:Int):=by
 unfold Hd;rw [if_neg λh'=>by have:=B8.1 h'; grind,Od,Od]
theorem Zmk {p q:List Int} {L:List (List Rat)} (hp:Uo p) (np:p.length<=9) (lp:2<=p.length) (hS:Stm (cz q) L) (hpq:Oj (cz q) (cz p)) {a:Tm} (ha:Va a) {s:Int} (hnz:NZ (cz p) (U0 a) s) {D M k:Nat} {x:Tm} (hx:Hv a D M k x) (hl:x.lo<x.hi) (hv:vv L x.lo≠vv L x.hi):1<(x.hi-x.lo)*((2^(Rv a.p p+1):Nat):Rat):=by
 rcases U9 ((x.hi-x.lo)*((2^(Rv a.p p+1):Nat):Rat)) 1 with hw | hw
 ·exfalso;have ca:=ha.cut;obtain ⟨d,dp,x1,y1,c1,c2,hn⟩:=hnz;obtain ⟨x2,x12,c3⟩:=ca.up x1 c1;obtain ⟨y2,y12,c4⟩:=ca.dn y1 c2;have hpow:(0:Rat)<=((2^(Rv a.p p+1):Nat):Rat):=Xp;obtain ⟨z,zp,z1,z2⟩:=min2 (a:=x2-x1) (b:=y1-y2) (by clear hn; grind) (by clear hn; grind);obtain ⟨R0,hR0,r1,r2⟩:=Qpp x.lo x.hi;obtain ⟨u,hu⟩:=hpq;refine Q9z (R:=R0+1) (d:=z) ha.tr hp ha.n np ha.n2 lp (by clear hn; grind) zp λe ep=>?_
  obtain ⟨q0,q1,q2,q3,q4,q5⟩:∃ q0,x.lo<=q0/\q0<=x.hi/\x2<=q0/\q0<=y2/\Uu (Up a.p q0)<e:=by
   rcases hx.lo' with h1 | ⟨h1,h2⟩
   ·obtain ⟨x',y',hx',hy',hq⟩:=ha.van e ep;obtain ⟨m,m1,m2,m3,m4⟩:∃ m,U0 a m=1/\x.lo<=m/\x2<=m/\x'<=m:=by
     rcases U9 x.lo x2 with e1 | e1
     ·rcases U9 x2 x' with e2 | e2
      ·exact ⟨x',hx',by clear hn hq; grind,e2,Qq⟩
      ·exact ⟨x2,c3,e1,Qq,Qo e2⟩
     ·rcases U9 x.lo x' with e2 | e2
      ·exact ⟨x',hx',e2,by clear hn hq; grind,Qq⟩
      ·exact ⟨x.lo,h1,Qq,Qo e1,Qo e2⟩
    refine ⟨m,m2,?_,m3,Qo (ca.lt m1 c4),by rw [<-Un]; exact hq m m4 (Qo (ca.lt m1 hy'))⟩;rcases hx.hi' with h3 | h3
    ·rcases U9 m x.hi with e1 | e1
     ·exact e1
     ·have:=ca.mono x.hi m e1 (by omega); omega
    ·exact Qo (ca.lt m1 h3)
   ·exact absurd h2 (by clear hn; grind)
  obtain ⟨b,hb⟩:=nmE (evB R0 u);have hb0:0<=b:=by rw [hb]; exact Iv hR0 u
  obtain ⟨f,fp,_,hf⟩:=Gj (b:=b) (d:=if e<=d then e else d) hb0 (by split <;> assumption);obtain ⟨r,r3,r4,r5⟩:=Qsh hS hl hv fp;have hrR:Uu r<=R0:=Qed r1 r2 r3 r4;have hpr:Uu (Up p r)<(if e<=d then e else d):=by
   rw [<-Un,hu];have:=Ge (Qo r5) (Qhm hrR u);rw [<-hb] at this;exact Jx.1 λh=>absurd (Zc h this) (Jx.2 hf)
  have hpe:Uu (Up p r)<e:=by split at hpr <;> (clear hn; grind)
  have hpd:Uu (Up p r)<d:=by split at hpr <;> (clear hn; grind)
  have hrout:r<x1\/y1<r:=by
   rcases U9 x1 r with e1 | e1
   ·rcases U9 r y1 with e2 | e2
    ·have:=(hn r e1 e2).2;rw [Un] at this;exact absurd this (Jx.2 hpd)
    ·exact .inr e2
   ·exact .inl e1
  have hqr:z<=Uu (q0-r):=by
   clear hn;rcases hrout with h | h
   ·have:Uu (q0-r)=q0-r:=by unfold Uu; split <;> grind
    rw [this]; grind
   ·have:Uu (q0-r)=r-q0:=by unfold Uu; split <;> grind
    rw [this]; grind
  have hq0R:Uu q0<=R0:=Qed r1 r2 q1 q2;refine ⟨q0,r,by clear hn; grind,by clear hn; grind,hqr,?_,q5,hpe⟩;have h1:Uu (q0-r)<=x.hi-x.lo:=by rw [Rx]; clear hn; constructor <;> grind
  exact Zc (Q5 h1 hpow) hw
 ·exact hw
theorem Zcs {p q:List Int} {l:List (List Int)} (hp:Uo p) (np:p.length<=9) (lp:2<=p.length) (hS:Stm (cz q) (l.map cz)) (hpq:Oj (cz q) (cz p)) {a:Tm} (ha:Va a) {s:Int} (hnz:NZ (cz p) (U0 a) s) {D M:Nat} (hM:0<M):∀ (j i:Nat) (x:Tm) (k:Nat) (W:Rat),i+1<=j->Hv a D M k x->Uv (D:Int)+Uv (M:Int)+(k+j)<=16777216->x.hi-x.lo<=W->W*((2^(Rv a.p p+1):Nat):Rat)<=((2^i:Nat):Rat)->∃ u k',sgF l j x=some u/\Hv a D M k' u/\(u.point=true\/Hd l u.lo u.hi=0)
 | 0,i,x,k,W,h,_,_,_,_=>by omega
 |
  j+1,i,x,k,W,hj,hx,hs,hW,hK=>by
  simp only [sgF];by_cases h:x.point=true\/Hd l x.lo x.hi=0
  ·rw [if_pos h]; exact ⟨x,k,rfl,hx,h⟩
  ·rw [if_neg h];obtain ⟨v,v1,v2,v3,_⟩:=Qqv hx hM (by omega);rw [v1];show ∃ u k',sgF l j v=some u/\_;have hpt:¬x.hi<=x.lo:=λh'=>h (.inl (Tt.2 h'))
   have hl:x.lo<x.hi:=by grind
   have hvv:vv (l.map cz) x.lo≠vv (l.map cz) x.hi:=λh'=>h (.inr (by rw [D7 (Qo hl)]; omega))
   have hg:=Zmk hp np lp hS hpq ha hnz hx hl hvv;have hpow:(0:Rat)<=((2^(Rv a.p p+1):Nat):Rat):=Xp;have hd:∀ x:Rat,x / 2*2=x:=λx=>Fl (by decide)
   cases i with
   |
    zero =>
    exfalso;rw [Y8] at hK;have:=Q5 hW hpow;have h7:((1:Nat):Rat)=1:=rfl;rw [h7] at hK;grind
   |
    succ i =>
    refine Zcs hp np lp hS hpq ha hnz hM j i v (k+1) (W / 2) (by omega) v2 (by omega) ?_ ?_
    ·have:=hd (x.hi-x.lo); have:=hd W; grind
    ·rw [Qow i] at hK;have:=hd W;have:W / 2*((2^(Rv a.p p+1):Nat):Rat)*2=W*((2^(Rv a.p p+1):Nat):Rat):=by grind
     grind
theorem Qvg {x y:Rat}:∀ {ws:List (List Rat)},(∀ w∈ws,Uz (ev w x)=Uz (ev w y))->Uz (ev (Au ws) x)=Uz (ev (Au ws) y)
 | [],_=>by simp only [Au]; rw [H4,H4]
 |
  w::l,h=>by
  simp only [Au];rw [Ur,Ur,Tg,Tg,h w (Qr ..),Qvg λv hv=>h v (Qj _ hv)]
theorem Q5n {p q o:List Int} (hpt:Parts p q o) (tp:Uo p) (hp:p.length≠0) {L:List (List Rat)} (hS:Stm (cz q) L) {x y:Rat} (hxy:x<y) (hv:vv L x=vv L y):∃ s,s≠0/\∀ z,x<z->z<=y->Uz (Up p z)=s:=by
 obtain ⟨ws,w1,w2⟩:=hpt.ws;obtain ⟨_,_,_,_,_,p6,p7⟩:=Td tp hp;have key:∀ z,x<z->z≤y->∀ w∈ws.map cz,Sm w x z:=λz h1 h2 w hw=>by
  obtain ⟨v,hv',rfl⟩:=Za.1 hw;obtain ⟨u,hu⟩:=(w1 v hv').2;have a1:=Lz hS h1;have a2:vv L y<=vv L z:=by
   rcases Classical.em (z=y) with e | e
   ·rw [e]; exact Qm _
   ·exact Lz hS (by grind)
  exact Qcn hS hu h1 (by omega)
 have hval:∀ z,Up p z=(Fy p:Rat)*ev (Au (ws.map cz)) z:=λz=>by rw [p7,w2]
 refine ⟨Uz (Up p y),λh0=>?_,λz h1 h2=>?_⟩
 ·rw [hval,Tg] at h0;rcases J7.1 h0 with h | h
  ·exact I1 p6 (Fq.1 h)
  ·have:∀ l:List (List Rat),(∀ w∈l,Uz (ev w y)≠0)->Uz (ev (Au l) y)≠0:=by
    intro l
    induction l with
    | nil=>intro _; simp only [Au]; rw [H4]; decide
    |
     cons w l ih =>
     intro h;simp only [Au];rw [Ur,Tg];exact Jk (h w (Qr ..)) (ih λv hv=>h v (Qj _ hv))
   refine this _ (λw hw=>?_) h;have hs:=key y hxy Qq w hw;rw [hs.s]; exact hs.n
 ·rw [hval,hval,Tg,Tg,Qvg (y:=y) λw hw=>(key z h1 h2 w hw).s.trans (key y hxy Qq w hw).s.symm]
theorem Zlj {g p P:List Int} {c:Rat->Int} (hc:Cut c) (hg:Gc g p P):Ad (cz g) c↔Ad (cz p) c/\Ad (cz P) c:=by
 constructor
 ·intro h;obtain ⟨u,hu⟩:=hg.da;obtain ⟨v,hv⟩:=hg.db;exact ⟨S4 hc hu h,S4 hc hv h⟩
 ·rintro ⟨h1,h2⟩
  obtain ⟨U,V,hcc⟩:=hg.c;have a1:Ad (Fx U (cz p)) c:=S4 hc (p:=cz p) (q:=U) (λt=>by rw [Ur]; grind) h1;have a2:Ad (Fx V (cz P)) c:=S4 hc (p:=cz P) (q:=V) (λt=>by rw [Ur]; grind) h2;exact Qjm (λt=>by rw [Un,hcc,Ur,Ur,Un,Un]) a1 a2
theorem Zc0 {p:List Int} (hp:Okp 9 1180 p) {a:Tm} (ha:Va a):∃ s,Qcl p a=some s/\SgT p a s:=by
 unfold Qcl;rw [if_neg hp.nz];have ca:=ha.cut;by_cases pa:a.point=true
 ·rw [if_pos pa];exact ⟨_,rfl,Zmj ca (x:=a.lo) (by rw [Qzf ha pa,Bt])⟩
 rw [if_neg pa];have pa:a.point=false:=by simpa using pa
 obtain ⟨L,V⟩:=ha.iv pa;have eqa:∀ q,U0 a q=cq (cz a.p) a.lo a.hi q:=Tp V.l;obtain ⟨g,g1,g2,g3,g4⟩:=Q97 Zpa hp.t ha.tr hp.l ha.n (Uj hp.b (by omega)) (ha.bi pa) hp.nz;obtain ⟨u',hu'⟩:=g2.db;have hhas:=V.has hu' (a:=a.lo) (b:=a.hi) Qq V.l Qq;have hvan:=Zlj ca g2;rw [show cq (cz a.p) a.lo a.hi=U0 a from (funext eqa).symm] at hhas;rw [g1];show ∃ s,(if 1<g.length/\Qeb g a.lo a.hi=true then some 0 else _)=some s/\_;by_cases hh:Qeb g a.lo a.hi=true
 ·have hq:=(Qec g _ _).1 hh;rw [if_pos ⟨Qt9 g2.t g2.n hq,hh⟩];exact ⟨0,rfl,.inl ⟨rfl,(hvan.1 (hhas.1 hq).1).1⟩⟩
 ·rw [if_neg λh=>hh h.2];have hnv:¬Ad (cz p) (U0 a):=λh=>hh ((Qec g _ _).2 (hhas.2 ⟨hvan.2 ⟨h,ha.van⟩,by rw [eqa]; exact Be Qq,by rw [eqa]; exact V.hi1⟩))
  rcases Qbb ca (cz p) with h | ⟨s,hs0,hnz⟩
  ·exact absurd h hnv
  obtain ⟨q,o,q1,q2,hpt⟩:=Qyz hp;obtain ⟨q',l,r1,r2,hS,hl0⟩:=chain_ok hp;rw [q1] at r1;injection r1 with r1;subst r1;rw [r2];show ∃ s,((sgF (q::l) (64+2*(Uv a.lo.num+Uv a.hi.num)+4*(a.p.length+p.length)*(Ga a.p+Ga p+(a.p.length+p.length)+8)) a).bind λx=>some (Fc p x.hi))=some s/\_;obtain ⟨w,hw⟩:=nmE (Uv a.lo.num+Uv a.hi.num);obtain ⟨K,hK⟩:=nmE (Ga a.p+Ga p+(a.p.length+p.length)+8);obtain ⟨n,hn⟩:=nmE (a.p.length+p.length);rw [<-hw,<-hK,<-hn];obtain ⟨gg,sq⟩:=hpt.sq;obtain ⟨_,_,_,_,_,pf0,pfe⟩:=Td hp.t hp.nz;have hpq:Oj (cz q) (cz p):=⟨P5 (Fy p) (cz gg),λt=>by rw [Un,Un,U7,Un,pfe,sq.e]; grind⟩;obtain ⟨D,M,k,h1,h2,h3⟩:=ha.hv0;rw [Qq3 pa] at h3;have b1:=(ha.qsn pa).1.1; have b2:=(ha.qsn pa).2.1;have l1:=ha.n; have l2:=hp.l; have l3:=ha.n2;have s1:=A2 (ha.bi pa); have s2:=A2 hp.b;have hst:4*n*K<=4*18*2466:=Zx (by omega) (by omega);have hend:∃ u k',sgF (q::l) (64+2*w+4*n*K) a=some u/\Hv a D M k' u/\(u.point=true\/Hd (q::l) u.lo u.hi=0):=by
   by_cases hpl:p.length<2
   ·have hq1:(Uq p)=[1]:=hp.pr.1.one (by have:=hp.pr.2.1; omega);have hql:q.length<2:=by
     have e:=sq.e;rw [hq1] at e;obtain ⟨p1,p2⟩:=Hm (c:=[1]) rfl (by simp) e;have:=Sw sq.pg.t sq.pq.t (c:=[1]) rfl e p1 p2;simp at this; omega
    have hbt:Hd (q::l) a.lo a.hi=0:=by
     rw [D7 (Qo V.l),hl0 hql,sq.pq.one hql];have hv1:∀ x:Rat,ev (cz [1]) x=1:=λx=>by rw [Un,Mi]
     simp only [Zz,X8,vv,tc,hv1]; omega
    refine ⟨a,k,?_,h1,.inr hbt⟩;obtain ⟨m,hm⟩:∃ m,64+2*w+4*n*K=m+1:=⟨63+2*w+4*n*K,by omega⟩;rw [hm];simp only [sgF];rw [if_pos (.inr hbt)]
   ·have hg:Rv a.p p=K*(2*(n-2)-1):=by unfold Rv; rw [hK,hn]
    have hgle:Rv a.p p+5*K<=2*n*K:=by
     rw [hg,Zi K,<-Js];exact Qy _ (by omega)
    have hKp:8<=K:=by omega
    have hnK:2*n*K<=4*n*K:=Qy _ (by omega);obtain ⟨u,k',u1,u2,u3⟩:=Zcs hp.t hp.l (by omega) hS hpq ha hnz h2 (64+2*w+4*n*K) (2+w+2*n*K) a k ((2^(w+1):Nat):Rat) (by omega) h1 (by omega) (Qhd (by omega)) (by
     have e:(2^(w+1))*(2^(Rv a.p p+1))<=2^(2+w+2*n*K):=by
      rw [<-Xh];exact Zq (by decide) (by omega)
     have:=Zd.2 e
     push_cast at this ⊢
     exact this)
    exact ⟨u,k',u1,u2,u3⟩
  obtain ⟨u,k',u1,u2,u3⟩:=hend;rw [u1];refine ⟨_,rfl,.inr ?_⟩;have hfin:Fc p u.hi=s:=by
   rcases u2.hi' with hz | hz
   ·have:=Qu4 ca hz hnz;rw [Tu,<-Un]; exact this
   ·rcases u2.i with ⟨e,_⟩ | ⟨L',V'⟩
    ·have:=u2.c u.hi;rw [Eh e,e,Bt] at this; omega
    ·have hup:u.point=false:=by
      have:¬u.point=true:=λh=>by have:=Tt.1 h; have:=V'.l; grind
      simpa using this
     rcases u3 with h | h
     ·rw [hup] at h; cases h
     ·rw [D7 (Qo V'.l)] at h;obtain ⟨s',hs',hps⟩:=Q5n hpt hp.t hp.nz hS V'.l (by omega);obtain ⟨d,dp,x,y,hx,hy,hq⟩:=hnz;have hlo1:U0 a u.lo=1:=by
       rcases u2.lo' with h | ⟨_,h⟩
       ·exact h
       ·have:=V'.l; clear hps hq; grind
      obtain ⟨m,m1,m2,m3⟩:=Qkc ca hlo1 hx;have e1:=(hq m (Qo m3) (Qo (ca.lt m1 hy))).1;have e2:=hps m m2 (Qo (ca.lt m1 hz));have e3:=hps u.hi V'.l Qq;rw [Tu,e3,<-e2,<-Un,e1]
  rw [hfin]; exact ⟨hs0,hnz⟩
structure Dp (p:List Int):Prop where
 t:Uo p
 l:p.length<=9
 b:Bd (1130+4*(9-p.length)) p
theorem Qrh:Szz 9 1253:=⟨by decide,by decide⟩
theorem Dp.ok {p:List Int} (h:Dp p) (h0:p.length≠0):Okp 9 1180 p:=⟨Qrh,h.t,h0,h.l,Uj h.b (by omega)⟩
theorem Dp.der {p:List Int} (h:Dp p):Dp (Fe p):=by
 have hl:=Tr p;have hl2:=h.l;refine ⟨U3 _ _,by omega,?_⟩;by_cases h0:p.length=0
 ·rw [Qi (l:=Fe p) (by omega)]; exact O2
 ·exact Uj (Qpt h.b (by omega)) (by omega)
def Pi (a:Tm) (p:List Int):Int:=(Qcl p a).getD 0
theorem Zcq {p:List Int} (h:Dp p) {a:Tm} (ha:Va a):Qcl p a=some (Pi a p)/\SgT p a (Pi a p):=by
 by_cases h0:p.length=0
 ·have e:p=[]:=Qi h0;subst e;refine ⟨rfl,.inl ⟨rfl,λd dp=>?_⟩⟩;obtain ⟨x,y,h1,h2,_⟩:=ha.cut.near (e:=1) (by decide);exact ⟨x,y,h1,h2,λq _ _=>by simp only [cz,X8,ev,Hk]; exact dp⟩
 ·obtain ⟨s,h1,h2⟩:=Zc0 (h.ok h0) ha;have e:Pi a p=s:=by unfold Pi; rw [h1]; rfl
  rw [e]; exact ⟨h1,h2⟩
theorem Zmg {c:Rat->Int} {p q:List Rat} {s:Int} (h:∀ t,ev p t=ev q t) (hp:RS p c s):RS q c s:=by
 obtain ⟨y,h1,h2⟩:=hp;exact ⟨y,h1,λz h3 h4=>by rw [<-h]; exact h2 z h3 h4⟩
theorem Qn9 {a:Tm} (ha:Va a):∀ (k:Nat) (p:List Int),Dp p->p.length<=k->p.length≠0->RS (cz p) (U0 a) (Rh (Pi a) k p)/\Rh (Pi a) k p≠0
 | 0,p,_,h1,h2=>by omega
 |
  k+1,p,h,h1,h2=>by
  simp only [Rh];rw [if_neg h2];obtain ⟨_,hs⟩:=Zcq h ha;rcases hs with ⟨e,hv⟩ | ⟨e,hn⟩
  ·rw [if_pos e];have hdn:(Fe p).length≠0:=λh0=>by
    by_cases h3:p.length=1
    ·obtain ⟨c,rfl⟩:∃ c,p=[c]:=Ko.1 h3;have hc:c≠0:=by have:=Gv h.t (by simp); simpa using this
     obtain ⟨q,hq,_⟩:=Qu0 ha.cut (hv (Uu (c:Rat)) (Ns (I1 hc)));rw [Un] at hq;have:Up [c] q=(c:Rat):=by simp only [Up]; grind
     rw [this] at hq; grind
    ·have h4:=Sk p (p.length-2);rw [Qi h0,show p.length-2+1=p.length-1 by omega] at h4;have h5:p.getD (p.length-1) 0≠0:=Gv h.t (by omega);rcases J7.1 (h4.symm.trans (by simp)) with h6 | h6
     ·exact h5 h6
     ·omega
   have hl:=Tr p;obtain ⟨i1,i2⟩:=Qn9 ha k (Fe p) h.der (by omega) hdn;exact ⟨Qr4 ha.cut hv (Zmg (λt=>by rw [Un,Lq,Hw]) i1) i2,i2⟩
  ·rw [if_neg e]; exact ⟨Qo4 ha.cut hn,e⟩
theorem Q15 {a:Tm} (ha:Va a) {p:List Int} (h:Dp p) (h0:p.length≠0):RS (cz p) (U0 a) (Mp (Pi a) p)/\Mp (Pi a) p≠0:=Qn9 ha _ p h (Qm _) h0
theorem Zg1 {l:List Int}:∀ z∈l,z.natAbs≤most l:=by
 have key:∀ (l:List Int) (m:Nat),m≤l.foldl (λm z=>if m<z.natAbs then z.natAbs else m) m/\∀ z∈l,z.natAbs≤l.foldl (λm z=>if m<z.natAbs then z.natAbs else m) m:=by
  intro l
  induction l with
  | nil=>exact λm=>⟨Qm _,λz hz=>by cases hz⟩
  |
   cons y l ih =>
   intro m;obtain ⟨e,he⟩:=nmE (if m<y.natAbs then y.natAbs else m);have h1:m<=e/\y.natAbs<=e:=by rw [he]; split <;> omega
   obtain ⟨i1,i2⟩:=ih e;simp only [Xe];rw [<-he];refine ⟨by omega,λz hz=>?_⟩;rcases Qp.1 hz with rfl | hz
   ·omega
   ·exact i2 z hz
 exact (key l 0).2
theorem Qju {p:List Int} (h:Ux p≠0):Fz p*((Ux p).natAbs:Rat)=((Ux p).natAbs:Rat)+((most (p.take (p.length-1)):Nat):Rat):=by
 unfold Fz;rw [<-Gs];have hp:0<(Ux p).natAbs:=by omega
 have:=nat_pos hp;rw [show ((((Ux p).natAbs:Int)):Rat)=((Ux p).natAbs:Rat) from rfl,Fl this];rw [Ke]; rfl
theorem Q11 {m:Nat} {x:Rat} (hx:1≤Uu x):∀ (p:List Int) (lp:p.length≠0),(∀ z∈p.take (p.length-1),z.natAbs≤m)->Ux p≠0->(m:Rat)≤(Uu x-1)*((Ux p).natAbs:Rat)->((Ux p).natAbs:Rat)≤Up p x*(((Int.sign (Ux p))*(if x<0/\p.length % 2=0 then -1 else 1):Int):Rat)
 | [],lp,_,_,_=>absurd rfl lp
 |
  [c],_,_,hc,_=>by
  have hl:Ux [c]=c:=rfl;rw [hl] at hc ⊢;rw [if_neg (by simp),Wl];have h1:Up [c] x=(c:Rat):=by simp only [Up]; grind
  rw [h1];have h2:c*Int.sign c=(c.natAbs:Int):=Int.mul_sign_self c;have:=congrArg (λz:Int=>(z:Rat)) h2;rw [X1] at this;rw [this]; exact Qq
 |
  c::d::p,_,hm,hc,hb=>by
  have hl:Ux (c::d::p)=Ux (d::p):=by unfold Ux; simp [List.getD_cons_succ]
  have ih:=Q11 hx (d::p) (by simp) (λz hz=>hm z (by
   have e:(c::d::p).take ((c::d::p).length-1)=c::(d::p).take ((d::p).length-1):=by simp
   rw [e]; exact Qj _ hz)) (by rw [<-hl]; exact hc) (by rw [<-hl]; exact hb)
  rw [hl] at hc hb ⊢;have hcm:=hm c (by simp);obtain ⟨s,hs⟩:∃ s:Int,s=Int.sign (Ux (d::p)):=⟨_,rfl⟩;have hsv:s=1\/s=-1:=by
   rw [hs];rcases Kf hc with h | h
   ·exact .inr (X4 h)
   ·exact .inl (Jf h)
  rw [<-hs] at ih ⊢;obtain ⟨ld,hld⟩:∃ ld:Rat,ld=((Ux (d::p)).natAbs:Rat):=⟨_,rfl⟩;rw [<-hld] at ih hb ⊢;have hcq:Uu (c:Rat)<=(m:Rat):=by rw [Tj]; exact Zd.2 hcm
  rw [Rx] at hcq;have e1:Up (c::d::p) x=(c:Rat)+x*Up (d::p) x:=rfl;rw [e1];have hlen:(c::d::p).length % 2=0↔¬(d::p).length % 2=0:=by simp only [Q6]; omega
  generalize Up (d::p) x=y at *;generalize (m:Rat)=mm at *;generalize (c:Rat)=cc at *;have hx0:=hx;by_cases hneg:x<0
  ·have hq:Uu x=-x:=by unfold Uu; rw [if_pos hneg]
   rw [hq] at hx0 hb;by_cases hpar:(d::p).length % 2=0
   ·rw [if_pos ⟨hneg,hpar⟩] at ih;rw [if_neg λh=>(hlen.1 h.2) hpar];rcases hsv with rfl | rfl
    ·have ih:ld<=y*(-1):=by simpa using ih
     have:=Zp ih (show 0<=-x by grind);have e:(((1:Int)*1:Int):Rat)=1:=rfl;rw [e]; grind
    ·have ih:ld<=y*1:=by simpa using ih
     have:=Zp ih (show 0<=-x by grind);have e:(((-1:Int)*1:Int):Rat)=-1:=rfl;rw [e]; grind
   ·rw [if_neg λh=>hpar h.2] at ih;rw [if_pos ⟨hneg,hlen.2 hpar⟩];rcases hsv with rfl | rfl
    ·have ih:ld<=y*1:=by simpa using ih
     have:=Zp ih (show 0<=-x by grind);have e:(((1:Int)*-1:Int):Rat)=-1:=rfl;rw [e]; grind
    ·have ih:ld<=y*(-1):=by simpa using ih
     have:=Zp ih (show 0<=-x by grind);have e:(((-1:Int)*-1:Int):Rat)=1:=rfl;rw [e]; grind
  ·have hq:Uu x=x:=by unfold Uu; rw [if_neg hneg]
   rw [hq] at hx0 hb;rw [if_neg λh=>hneg h.1] at ih ⊢;rcases hsv with rfl | rfl
   ·have ih:ld<=y*1:=by simpa using ih
    have:=Zp ih (show 0<=x by grind);have e:(((1:Int)*1:Int):Rat)=1:=rfl;rw [e]; grind
   ·have ih:ld<=y*(-1):=by simpa using ih
    have:=Zp ih (show 0<=x by grind);have e:(((-1:Int)*1:Int):Rat)=-1:=rfl;rw [e]; grind
theorem Qw1 {p:List Int} (tp:Uo p) (lp:p.length≠0) {x:Rat} (hx:Fz p<=Uu x):1<=Uu (Up p x)/\(0<=x->Fc p x=Qd6 p)/\(x<0->Fc p x=Ou p):=by
 have hl:=Cc tp lp;have hpos:0<(Ux p).natAbs:=by omega
 have h1:(1:Rat)<=((Ux p).natAbs:Rat):=by
  have:((1:Nat):Rat)<=((Ux p).natAbs:Rat):=Zd.2 hpos;exact this
 have hm0:(0:Rat)<=((most (p.take (p.length-1)):Nat):Rat):=Xp;have hb:=Qju hl;have hx1:=Q5 hx (show (0:Rat)<=((Ux p).natAbs:Rat) by grind);have hx2:1<=Uu x:=by
  rcases U9 1 (Uu x) with h | h
  ·exact h
  ·exfalso;have:=Vy h (show (0:Rat)<((Ux p).natAbs:Rat) by grind);grind
 have key:=Q11 (m:=most (p.take (p.length-1))) hx2 p lp (λz hz=>Zg1 z hz) hl (by grind);obtain ⟨s,hs⟩:∃ s:Int,s=Int.sign (Ux p)*(if x<0/\p.length % 2=0 then -1 else 1):=⟨_,rfl⟩;rw [<-hs] at key;have hsv:s=1\/s=-1:=by
  rw [hs];rcases Kf hl with h | h
  ·rw [X4 h]; split <;> simp
  ·rw [Jf h]; split <;> simp
 have hsg:Fc p x=s/\1<=Uu (Up p x):=by
  rw [Tu];rcases hsv with e | e
  ·rw [e] at key ⊢;have key:((Ux p).natAbs:Rat)<=Up p x:=by simpa using key
   exact ⟨Hl.2 (by grind),by unfold Uu; rw [if_neg (by grind)]; grind⟩
  ·rw [e] at key ⊢;have key:((Ux p).natAbs:Rat)<=Up p x*(-1):=by simpa using key
   exact ⟨Tv.2 (by grind),by unfold Uu; rw [if_pos (by grind)]; grind⟩
 refine ⟨hsg.2,λh=>?_,λh=>?_⟩
 ·rw [hsg.1,hs,if_neg λh'=>by have:=h'.1; grind]; unfold Qd6; omega
 ·rw [hsg.1,hs]; unfold Ou;by_cases he:p.length % 2=0
  ·rw [if_pos ⟨h,he⟩,if_pos he]; omega
  ·rw [if_neg λh'=>he h'.2,if_neg he]; omega
theorem Qa9 {f g:List Int->Int}:∀ {l:List (List Int)} (s:Nat×Int),(∀ p∈l,f p=g p)->l.foldl (Hz f) s=l.foldl (Hz g) s
 | [],s,_=>rfl
 |
  p::l,s,h=>by
  simp only [Xe];have e:Hz f s p=Hz g s p:=by unfold Hz; rw [h p (List.mem_cons_self ..)]
  rw [e]; exact Qa9 _ λq hq=>h q (Qj _ hq)
theorem Q1w:∀ (l:List (List Int)),(∀ p∈l,Uo p/\p.length≠0)->∃ X:Rat,0<X/\∀ x,X≤x->(∀ p∈l,Fc p x=Qd6 p)/\∀ p∈l,Fc p (-x)=Ou p
 | [],_=>⟨1,by decide,λx _=>⟨(λp hp=>by cases hp),(λp hp=>by cases hp)⟩⟩
 |
  p::l,h=>by
  obtain ⟨X,hX,hl⟩:=Q1w l λq hq=>h q (Qj _ hq)
  obtain ⟨tp,lp⟩:=h p (Qr ..);refine ⟨X+Uu (Fz p),by have:=Gx (Fz p); grind,λx hx=>?_⟩;have hb0:=Gx (Fz p);have hb1:Fz p<=Uu (Fz p):=by unfold Uu; split <;> grind
  obtain ⟨l1,l2⟩:=hl x (by grind);have e1:Uu x=x:=by unfold Uu; rw [if_neg (by grind)]
  have e2:Uu (-x)=x:=by rw [Do,e1]
  refine ⟨λq hq=>?_,λq hq=>?_⟩
  ·rcases Qp.1 hq with rfl | hq
   ·exact (Qw1 tp lp (x:=x) (by rw [e1]; grind)).2.1 (by grind)
   ·exact l1 q hq
  ·rcases Qp.1 hq with rfl | hq
   ·exact (Qw1 tp lp (x:=-x) (by rw [e2]; grind)).2.2 (by grind)
   ·exact l2 q hq
theorem Q0c {q:List Int} {L:List (List Rat)} (hS:Stm (cz q) L) (tq:Uo q) (lq:q.length≠0) {x y:Rat} (hxy:x<y) (h:Fz q<=x\/y<=-Fz q) (hb:0<Fz q):vv L x=vv L y:=by
 rcases Classical.em (vv L x=vv L y) with e | e
 ·exact e
 ·exfalso;obtain ⟨r,r1,r2,r3⟩:=Qsh hS hxy e (d:=1) (by decide);have:=(Qw1 tq lq (x:=r) (by rcases h with h | h <;> (unfold Uu; split <;> grind))).1;rw [Un] at r3; grind
theorem Qfz {p:List Int} (h:Ux p≠0):1<=Fz p:=by
 have hb:=Qju h;have hp:=nat_pos (show 0<(Ux p).natAbs by omega);have hm0:(0:Rat)<=((most (p.take (p.length-1)):Nat):Rat):=Xp;rcases U9 1 (Fz p) with h' | h'
 ·exact h'
 ·have:=Vy h' hp; grind
theorem Q5z {q:List Int} {l:List (List Int)} (hS:Stm (cz q) ((q::l).map cz)) (hl:∀ p∈q::l,Uo p/\p.length≠0):Qa2 (q::l)=(vv ((q::l).map cz) (-Fz q):Int)-(vv ((q::l).map cz) (Fz q):Int):=by
 obtain ⟨tq,lq⟩:=hl q (Qr ..);have hb:=Qfz (Cc tq lq);obtain ⟨X,hX,hx⟩:=Q1w (q::l) hl;obtain ⟨h1,h2⟩:=hx (X+Fz q) (by grind);have e1:Me Qd6 (q::l)=vv ((q::l).map cz) (X+Fz q):=by
  rw [<-Od]; unfold S0 Me;rw [Qa9 (f:=Qd6) (g:=λp=>Fc p (X+Fz q)) (0,0) λp hp=>(h1 p hp).symm]
 have e2:Me Ou (q::l)=vv ((q::l).map cz) (-(X+Fz q)):=by
  rw [<-Od]; unfold S0 Me;rw [Qa9 (f:=Ou) (g:=λp=>Fc p (-(X+Fz q))) (0,0) λp hp=>(h2 p hp).symm]
 unfold Qa2;rw [e1,e2,Q0c hS tq lq (x:=-(X+Fz q)) (y:=-Fz q) (by grind) (.inr Qq) (by grind),<-Q0c hS tq lq (x:=Fz q) (y:=X+Fz q) (by grind) (.inl Qq) (by grind)]
theorem Zl0 {f:List Rat} {L:List (List Rat)} (hS:Stm f L) {x y:Rat} (hxy:x<y) (hv:vv L y+2<=vv L x):∃ m,x<m/\m<y/\vv L m<vv L x/\vv L y<vv L m/\ev f m≠0:=by
 obtain ⟨R,hR,hx,hy⟩:=Qpp x y;obtain ⟨e,ep,he⟩:=Zds hS R hR;have key:∀ n:Nat,∀ x,Uu x<=R->x<y->vv L y+2<=vv L x->y-x<=(n:Rat)*e->∃ m,x<m/\m<y/\vv L m<vv L x/\vv L y<vv L m:=by
  intro n
  induction n with
  | zero=>intro x _ hxy _ hn; rw [show ((0:Nat):Rat)=0 from rfl] at hn; exfalso; clear he; grind
  |
   succ n ih =>
   intro x hx hxy hv hn;have hn':(((n+1:Nat):Rat))=(n:Rat)+1:=by push_cast; rfl
   rw [hn'] at hn;rcases U9 (y-x) e with h1 | h1
   ·have:=he x y hx hy hxy h1; omega
   ·have hm:Uu (x+e)<=R:=Qed hx hy (by clear he ih; grind) (by clear he ih; grind);have h2:=he x (x+e) hx hm (by clear he ih; grind) (by clear he ih; grind);have h3:=Lz hS (show x<x+e by clear he ih; grind);by_cases h4:vv L x=vv L (x+e)
    ·obtain ⟨m,m1,m2,m3,m4⟩:=ih (x+e) hm (by clear he ih; grind) (by omega) (by clear he ih; grind);exact ⟨m,by clear he ih; grind,m2,by omega,m4⟩
    ·exact ⟨x+e,by clear he ih; grind,by clear he ih; grind,by omega,by omega⟩
 obtain ⟨n,hn⟩:=O1 (z:=y-x) ep;obtain ⟨m,m1,m2,m3,m4⟩:=key n x hx hxy hv hn;rcases Classical.em (ev f m=0) with h0 | h0
 ·-- a little farther on
  obtain ⟨e2,e2p,hl⟩:=loc hR hS (w:=f) (u:=[1]) (λt=>by rw [H4]; grind);obtain ⟨d,dp,d1,d2⟩:=min2 (a:=e2) (b:=(y-m) / 2) e2p (Bu (by clear he key hl; grind) (by decide));have h2:(y-m) / 2*2=y-m:=Fl (by decide);have hmR:Uu m<=R:=Qed hx hy (Qo m1) (Qo m2);have hmR2:Uu (m+d)<=R:=Qed hx hy (by clear he key hl; grind) (by clear he key hl; grind);rcases hl m (m+d) hmR hmR2 (by clear he key hl; grind) (by clear he key hl; grind) with ⟨p1,p2,_⟩ | ⟨_,p1,_,p3,_⟩
  ·refine ⟨m+d,by clear he key hl; grind,by clear he key hl; grind,by omega,by omega,λh'=>?_⟩;have:=p2.s;rw [Fq.2 h'] at this; exact p2.n this.symm
  ·rw [Fq.2 h0] at p3; exact absurd p3.symm p1
 ·exact ⟨m,m1,m2,m3,m4,h0⟩
theorem Zip {q:List Int} {L:List (List Rat)} (hS:Stm (cz q) L) (tq:Uo q) (nq:q.length<=9) (lq:2<=q.length) {lo hi:Rat} (hl:lo<hi) (hv:vv L hi+2<=vv L lo):1<(hi-lo)*((2^(Rv q q+1):Nat):Rat):=by
 rcases U9 ((hi-lo)*((2^(Rv q q+1):Nat):Rat)) 1 with hw | hw
 ·exfalso;have hpow:(0:Rat)<=((2^(Rv q q+1):Nat):Rat):=Xp;obtain ⟨m,m1,m2,m3,m4,m0⟩:=Zl0 hS hl hv;obtain ⟨R,hR,r1,r2⟩:=Qpp lo hi;have hd:=Ns m0;obtain ⟨d,dp,_,db⟩:=Gj (b:=dqB R (cz q)) (d:=Uu (ev (cz q) m) / 2) (S8 hR _) (Bu hd (by decide));have hd2:Uu (ev (cz q) m) / 2*2=Uu (ev (cz q) m):=Fl (by decide);have hmR:Uu m<=R:=Qed r1 r2 (Qo m1) (Qo m2);have hnear:∀ r,Uu r<=R->Uu (ev (cz q) r)<Uu (ev (cz q) m) / 2->d<Uu (r-m):=λr hr hs=>by
   rcases U9 (Uu (r-m)) d with h | h
   ·exfalso;have h1:=Pa (p:=cz q) hmR hr hR h db;have h2:=Te (ev (cz q) m-ev (cz q) r) (ev (cz q) r);rw [show ev (cz q) m-ev (cz q) r+ev (cz q) r=ev (cz q) m by grind,Q3f] at h2;grind
   ·exact h
  refine Q9z (R:=R+1) (d:=d+d) tq tq nq nq lq lq (by grind) (by grind) λe ep=>?_
  obtain ⟨e',ep',e1,e2⟩:=min2 (a:=e) (b:=Uu (ev (cz q) m) / 2) ep (Bu hd (by decide));obtain ⟨x,x1,x2,x3⟩:=Qsh hS m1 (by omega) ep';obtain ⟨y,y1,y2,y3⟩:=Qsh hS m2 (by omega) ep';have hxR:Uu x<=R:=Qed r1 r2 x1 (by grind);have hyR:Uu y<=R:=Qed r1 r2 (by grind) y2;have nx:=hnear x hxR (by grind);have ny:=hnear y hyR (by grind);have ex:Uu (x-m)=m-x:=by unfold Uu; split <;> grind
  have ey:Uu (y-m)=y-m:=by unfold Uu; split <;> grind
  rw [ex] at nx;rw [ey] at ny;have exy:Uu (x-y)=y-x:=by unfold Uu; split <;> grind
  refine ⟨x,y,by grind,by grind,by rw [exy]; grind,?_,by rw [<-Un]; grind,by rw [<-Un]; grind⟩;rw [exy];exact Zc (Q5 (show y-x<=hi-lo by grind) hpow) hw
 ·exact hw
theorem Q8x:∀ {k:Nat} {a b:List Int} {l:List (List Int)},chF k a b=some l->∀ p∈l,p.length≠0
 | 0,_,_,_,h=>by cases h
 |
  k+1,a,b,l,h=>by
  simp only [chF] at h
  split at h
  ·injection h with h; subst h; exact λp hp=>by cases hp
  ·rename_i h0;obtain ⟨r,_,h⟩:=Qf.1 h;obtain ⟨l',h1,h⟩:=Qf.1 h;injection h with h; subst h;intro p hp;rcases Qp.1 hp with rfl | hp
   ·exact h0
   ·exact Q8x h1 p hp
theorem Okp.pb {n s:Nat} {p:List Int} (h:Okp n s p) (hs:s<=16777216):Pb p:=⟨h.t,by have:=h.l; have:=h.z.1; omega,Uj h.b hs⟩
theorem Q4o {p:List Int} {q:List Int} {l:List (List Int)} (hp:Pb p) (h:chain p=some (q::l)) (hq:q.length≠0):∀ r∈q::l,Uo r/\r.length≠0:=by
 have h1:=(Orr.chain_ok hp h).2;unfold chain at h;obtain ⟨a,_,h⟩:=Qf.1 h
 split at h
 ·cases h
 ·obtain ⟨d,_,h⟩:=Qf.1 h;obtain ⟨l',h3,h⟩:=Qf.1 h;injection h with h;injection h with e1 e2;subst e1; subst e2;intro r hr;refine ⟨(h1 r hr).t,?_⟩;rcases Qp.1 hr with rfl | hr
  ·exact hq
  ·exact Q8x h3 r hr
inductive RI (q:List Int) (L:List (List Rat)):Rat->List Tm->Rat->Prop
 | nil {lo hi:Rat} (h:lo<=hi) (hv:vv L lo=vv L hi):RI q L lo [] hi
 | cons {lo hi:Rat} {t:Tm} {l:List Tm} (h:lo<=t.lo) (hv:vv L lo=vv L t.lo) (ht:Vt (cz q) L t.lo t.hi) (hp:t.p=q) (hl:RI q L t.hi l hi):RI q L lo (t::l) hi
theorem RI.app {q:List Int} {L:List (List Rat)} {lo m hi:Rat} {l l':List Tm} (h:RI q L lo l m) (h':RI q L m l' hi):RI q L lo (l++l') hi:=by
 induction h with
 |
  nil h hv =>
  cases h' with
  | nil h2 hv2=>exact .nil (by grind) (by omega)
  | cons h2 hv2 ht hp hl=>exact .cons (by grind) (by omega) ht hp hl
 | cons h hv ht hp _ ih=>exact .cons h hv ht hp (ih h')
theorem Q8z {D M k:Nat} {m:Rat} (h:Gr D M k m) (hM:0<M) (hs:Uv (D:Int)+Uv (M:Int)+k<=16777216):chq m=some m:=by
 have:=Qhr h hM hs;unfold chq;rw [if_pos ⟨this.1,this.2⟩]
theorem Qjb {q:List Int} {c:List (List Int)} (hS:Stm (cz q) (c.map cz)) (tq:Uo q) (nq:q.length<=9) (hc1:q.length<2->c=[q]) {D M F:Nat} (hM:0<M):∀ (k j:Nat) (lo hi:Rat),lo<hi->Gr D M j lo->Gr D M j hi->Uv (D:Int)+Uv (M:Int)+(j+k)<=16777216->(hi-lo)*((2^(Rv q q+1):Nat):Rat)<=((2^k:Nat):Rat) ->
 ∃ l,Lu q c (F+k+1) lo hi ((vv (c.map cz) lo:Int)-(vv (c.map cz) hi:Int))=some l/\RI q (c.map cz) lo l hi/\∀ t∈l,∃ k',k'≤j+k/\Gr D M k' t.lo/\Gr D M k' t.hi:=by
 intro k
 induction k with
 |
  zero =>
  intro j lo hi hl g1 g2 hs hK;have hle:=Lz hS hl;have h2:vv (c.map cz) lo<vv (c.map cz) hi+2:=by
   rcases Zb (vv (c.map cz) lo) (vv (c.map cz) hi+2) with h | h
   ·exact h
   ·exfalso;have lq:2<=q.length:=by
     rcases Zb q.length 2 with e | e
     ·have hvv:∀ x,vv (c.map cz) x=vv (c.map cz) 0:=λx=>by
       rcases hS with ⟨c0,hc0,hcc,hl'⟩ | ⟨g',l',k',hk,hg,hsc,hl'⟩
       ·rw [hl']; simp only [vv,tc,hcc]
       ·rw [hc1 e] at hl'; cases hl'
      rw [hvv lo,hvv hi] at h; omega
     ·exact e
    have:=Zip hS tq nq lq hl h;rw [Y8] at hK;have h7:((1:Nat):Rat)=1:=rfl;rw [h7] at hK; grind
  simp only [Lu];by_cases e0:vv (c.map cz) lo=vv (c.map cz) hi
  ·rw [if_pos (by omega)];exact ⟨[],rfl,.nil (Qo hl) e0,λt ht=>by cases ht⟩
  ·rw [if_neg (by omega),if_pos (by omega)];refine ⟨[⟨q,lo,hi⟩],rfl,.cons Qq rfl ⟨hS,hl,by show vv _ lo=vv _ hi+1; omega⟩ rfl (.nil Qq rfl),λt ht=>?_⟩;rw [Ql.1 ht]; exact ⟨j,by omega,g1,g2⟩
 |
  succ k ih =>
  intro j lo hi hl g1 g2 hs hK;have hle:=Lz hS hl;show ∃ l,(if (vv (c.map cz) lo:Int)-(vv (c.map cz) hi:Int)=0 then some [] else if (vv (c.map cz) lo:Int)-(vv (c.map cz) hi:Int)=1 then some [⟨q,lo,hi⟩] else (chq (Om lo hi)).bind λm=>(Lu q c (F+k+1) lo m (Hd c lo m)).bind λl=>(Lu q c (F+k+1) m hi ((vv (c.map cz) lo:Int)-(vv (c.map cz) hi:Int)-Hd c lo m)).bind λr=>some (l++r))=some l/\_;by_cases e0:vv (c.map cz) lo=vv (c.map cz) hi
  ·rw [if_pos (by omega)];exact ⟨[],rfl,.nil (Qo hl) e0,λt ht=>by cases ht⟩
  by_cases e1:vv (c.map cz) lo=vv (c.map cz) hi+1
  ·rw [if_neg (by omega),if_pos (by omega)];refine ⟨[⟨q,lo,hi⟩],rfl,.cons Qq rfl ⟨hS,hl,e1⟩ rfl (.nil Qq rfl),λt ht=>?_⟩;rw [Ql.1 ht]; exact ⟨j,by omega,g1,g2⟩
  ·rw [if_neg (by omega),if_neg (by omega)];obtain ⟨m,hm⟩:=nmE ((lo+hi) / 2);have h2:(lo+hi) / 2*2=lo+hi:=Fl (by decide);rw [<-hm] at h2;have gm:Gr D M (j+1) m:=by rw [hm]; exact Qyj g1 g2
   have l1:lo<m:=by grind
   have l2:m<hi:=by grind
   rw [Qc9,<-hm,Q8z gm hM (by omega)];show ∃ l,((Lu q c (F+k+1) lo m (Hd c lo m)).bind λl=>(Lu q c (F+k+1) m hi ((vv (c.map cz) lo:Int)-(vv (c.map cz) hi:Int)-Hd c lo m)).bind λr=>some (l++r))=some l/\_;rw [D7 (Qo l1),show (vv (c.map cz) lo:Int)-(vv (c.map cz) hi:Int)-((vv (c.map cz) lo:Int)-(vv (c.map cz) m:Int))=(vv (c.map cz) m:Int)-(vv (c.map cz) hi:Int) by omega];rw [Qow k] at hK;have hp:∀ x y:Rat,(y-x)*2=hi-lo->(y-x)*((2^(Rv q q+1):Nat):Rat)<=((2^k:Nat):Rat):=λx y h=>by
    have:(y-x)*((2^(Rv q q+1):Nat):Rat)*2=(hi-lo)*((2^(Rv q q+1):Nat):Rat):=by rw [<-h]; grind
    grind
   obtain ⟨la,a1,a2,a3⟩:=ih (j+1) lo m l1 (Qhs g1) gm (by omega) (hp lo m (by grind));obtain ⟨lb,b1,b2,b3⟩:=ih (j+1) m hi l2 gm (Qhs g2) (by omega) (hp m hi (by grind));rw [a1];show ∃ l,((Lu q c (F+k+1) m hi ((vv (c.map cz) m:Int)-(vv (c.map cz) hi:Int))).bind λr=>some (la++r))=some l/\_;rw [b1];refine ⟨la++lb,rfl,a2.app b2,λt ht=>?_⟩;rcases Qw.1 ht with ht | ht
   ·obtain ⟨k',h1,h2,h3⟩:=a3 t ht; exact ⟨k',by omega,h2,h3⟩
   ·obtain ⟨k',h1,h2,h3⟩:=b3 t ht; exact ⟨k',by omega,h2,h3⟩
theorem Zln {D M k:Nat} {q:Rat} (h:Gr D M k q):Gr D M k (-q):=by
 obtain ⟨u,hu⟩:=h.u;exact ⟨⟨-u,by rw [Vi,<-hu]; grind⟩,by rw [Do]; exact h.b,h.d⟩
theorem Quj {m s:Nat} (h:m<2^s):Uv ((m+1:Nat):Int)<=s+1:=by
 rw [Rr,Z9,Zo]; omega
theorem Q5b {z:Int} {s:Nat} (h:Uv z<=s):Uv ((z.natAbs+1:Nat):Int)<=s+1:=Quj (Rr.1 h)
theorem Zie {x:Rat} {m s g N:Nat} (hx:x<=2*((m+1:Nat):Rat)) (hm:m+1<=2^s) (hN:s+1+g<=N):x*((2^g:Nat):Rat)<=((2^N:Nat):Rat):=by
 have h3:=Zd.2 hm;have e:=Qow s;have h4:(0:Rat)<=((2^s:Nat):Rat):=Xp;have h1:x<=((2^(s+1):Nat):Rat):=by rw [e]; grind
 have h5:(0:Rat)<=((2^g:Nat):Rat):=Xp;refine Zc (Q5 h1 h5) ?_;have h6:2^(s+1)*2^g<=2^N:=by
  rw [<-Xh]; exact Zq (by decide) hN
 have:=Zd.2 h6;rw [Rat.natCast_mul] at this;exact this
theorem Zel {s:Nat} {l:List Int} (h:Bd s l):most l<2^s:=by
 have key:∀ (l:List Int) (m:Nat),m<2^s->Bd s l->l.foldl (λm z=>if m<z.natAbs then z.natAbs else m) m<2^s:=by
  intro l
  induction l with
  | nil=>exact λm h _=>h
  |
   cons y l ih =>
   intro m hm hb;simp only [Xe];refine ih _ ?_ λz hz=>hb z (Qj _ hz)
   have:=hb y (Qr ..);rw [Rr] at this
   split <;> assumption
 exact key l 0 (Zy (by decide)) h
theorem Zk1 {p q:List Int} (h:chk p=some q):q=p:=by
 unfold chk at h
 split at h
 ·injection h with h; exact h.symm
 ·cases h
theorem Qv2 {s:Nat} {p:List Int} (hs9:s≤1180) (h:Okp 9 s p):∃ q c l,Sy p=some q/\chain p=some c/\Ql2 p=some l/\Stm (cz q) (c.map cz)/\RI q (c.map cz) (-Fz q) l (Fz q)/\(∀ t∈l,Va t)/\(∀ x y,x<y->Fz q≤x\/y≤-Fz q->vv (c.map cz) x=vv (c.map cz) y)/\q.length≤p.length/\∀ t∈l,t.p=q/\t.lo<t.hi/\Bd (s+69) q/\∃ D M k,Gr D M k t.lo/\Gr D M k t.hi/\0<M/\Uv (D:Int)≤s+69/\Uv (M:Int)≤s+70/\k≤63*s+5160:=by
 obtain ⟨pp,hpl,hpb⟩:=h.pr;obtain ⟨g,q',hq',sq⟩:=Qb2 h;obtain ⟨q,l,q1,q2,hS,hl0⟩:=chain_ok h;rw [hq'] at q1;injection q1 with q1;subst q1;have e1:∀ t,Up (Uq p) t=Up q' t*Up g t:=λt=>by rw [sq.e]; grind
 obtain ⟨p1,p2⟩:=Hm pp.t pp.n e1;have hch:chF 66 q' (Uq (Fe q'))=some l:=by
  have h2:=q2;unfold chain at h2;rw [hq'] at h2;simp only [Jh] at h2
  split at h2
  ·cases h2
  ·cases hd:chk (Fe q') with
   | none=>rw [hd] at h2; cases h2
   |
    some d =>
    rw [hd] at h2;simp only [Jh] at h2;obtain rfl:d=Fe q':=Zk1 hd;cases hc:chF 66 q' (Uq (Fe q')) with
    | none=>rw [hc] at h2; cases h2
    | some l'=>rw [hc] at h2; simp at h2; rw [h2]
 have hll:=Sw sq.pq.t sq.pg.t pp.t e1 p1 p2;have hl9:=h.l;have bq:Bd (s+69) q':=Iw hpb (by omega) pp.t sq.pq.t sq.pg.t pp.n e1;have hall:=Q4o (h.pb (by omega)) q2 sq.pq.n;have hld:Ux q'≠0:=by have:=sq.pq.l; omega
 have hb1:=Qfz hld;obtain ⟨D,hD⟩:=nmE ((Ux q').natAbs);obtain ⟨m,hm⟩:=nmE (most (q'.take (q'.length-1)));have hm2:m<2^(s+69):=by rw [hm]; exact Zel (s:=s+69) λz hz=>bq z (Qn hz)
 have hD0:0<D:=by omega
 have hDs:Uv (D:Int)<=s+69:=by
  have:=P7 bq;rw [Rr] at this ⊢;rw [Z9,hD]; exact this
 have hbe:=Qju hld;rw [<-hD,<-hm] at hbe;have hDq:=nat_pos hD0;have hbm:Fz q'<=((m+1:Nat):Rat):=by
  have hD1:(1:Rat)<=(D:Rat):=by
   have:((1:Nat):Rat)<=(D:Rat):=Zd.2 hD0;exact this
  have hm0:(0:Rat)<=(m:Rat):=Xp;have h3:=Pd (a:=(m:Rat)) (c:=1) hm0 Qq (by decide) hD1;rcases U9 (Fz q') ((m+1:Nat):Rat) with h' | h'
  ·exact h'
  ·exfalso;have:=Vy h' hDq
   push_cast at this; grind
 have gb:Gr D (m+1) 0 (Fz q'):=by
  refine ⟨⟨(D+m:Nat),?_⟩,?_,hD0⟩
  ·rw [Y8,Yy,hbe];rw [show ((((D+m:Nat):Int)):Rat)=((D+m:Nat):Rat) from rfl]; push_cast; rfl
  ·have:Uu (Fz q')=Fz q':=by unfold Uu; rw [if_neg (by grind)]
   rw [this]; exact hbm
 have hMs:Uv ((m+1:Nat):Int)<=s+69+1:=Quj (s:=s+69) hm2;have hK:(Fz q' - -Fz q')*((2^(Rv q' q'+1):Nat):Rat)<=((2^(63*s+5160):Nat):Rat):=by
  have hps:=A2 bq;have hg:Rv q' q'<=(2*s+164)*31:=by
   unfold Rv;exact Zx (by omega) (by omega)
  exact Zie (s:=s+69) (g:=Rv q' q'+1) (N:=63*s+5160) (by grind) hm2 (by omega)
 have hN:Uv (D:Int)+Uv ((m+1:Nat):Int)+(0+(63*s+5160))<=16777216:=by omega
 obtain ⟨ls,r1,r2,r3⟩:=Qjb (F:=99999-(63*s+5160)) hS sq.pq.t (by omega) (λh=>by rw [hl0 h]) (W5 m) (63*s+5160) 0 (-Fz q') (Fz q') (by grind) (Zln gb) gb hN hK;rw [show 99999-(63*s+5160)+(63*s+5160)+1=100000 by omega] at r1;have hchq:chq (Fz q')=some (Fz q'):=Q8z gb (W5 m) (by omega);have key:∀ t∈ls,Va t/\t.p=q'/\t.lo<t.hi/\Bd (s+69) q'/\∃ D M k,Gr D M k t.lo/\Gr D M k t.hi/\0<M/\Uv (D:Int)≤s+69/\Uv (M:Int)≤s+70/\k≤63*s+5160:=λt ht=>by
  obtain ⟨k',k1,k2,k3⟩:=r3 t ht;have hmem:∀ {lo hi:Rat} {ls:List Tm},RI q' ((q'::l).map cz) lo ls hi->t∈ls->Vt (cz q') ((q'::l).map cz) t.lo t.hi/\t.p=q':=λh=>by
   induction h with
   | nil=>intro ht; cases ht
   |
    cons h hv ht' hp hl ih =>
    intro ht;rcases Qp.1 ht with rfl | ht
    ·exact ⟨ht',hp⟩
    ·exact ih ht
  obtain ⟨v1,v2⟩:=hmem r2 ht;have lq2:2<=q'.length:=by
   rcases Zb q'.length 2 with e | e
   ·exfalso;have hvv:∀ x,vv ((q'::l).map cz) x=0:=λx=>by
     rw [hl0 e,sq.pq.one e];have hv1:∀ x:Rat,ev (cz [1]) x=1:=λx=>by rw [Un,Mi]
     simp only [Zz,X8,vv,tc,hv1];have:Uz 1=1:=by decide
     rw [this]; decide
    have:=v1.v;rw [hvv,hvv] at this; omega
   ·exact e
  exact ⟨⟨.inr ⟨_,by rw [v2]; exact v1⟩,by rw [v2]; exact sq.pq.t,by rw [v2]; omega,by rw [v2]; exact lq2,by rw [v2]; exact Uj bq (by omega),λ_=>by rw [v2]; exact Uj bq (by omega),λ_=>by rw [v2]; exact ⟨l,_,g,hch,sq,v1⟩,D,m+1,k',k2,k3,W5 m,Qc (show _<=1000000 by omega) (Zlr t)⟩,v2,v1.l,bq,D,m+1,k',k2,k3,W5 m,hDs,Qc hMs (Qm (s+70)),by rw [Xa] at k1; exact k1⟩
 refine ⟨q',q'::l,ls,hq',q2,?_,hS,r2,λt ht=>(key t ht).1,λx y hxy hb=>Q0c hS sq.pq.t sq.pq.n hxy hb (by grind),by omega,λt ht=>(key t ht).2⟩
 ·unfold Ql2;rw [q2,hq'];show (chq (Fz q')).bind _=_;rw [hchq];show Lu q' (q'::l) 100000 (-Fz q') (Fz q') (Qa2 (q'::l))=_;rw [Q5z hS hall];exact r1
theorem Zcb {p:List Int} (h:Okp 9 1180 p):∃ q c l,Sy p=some q/\chain p=some c/\Ql2 p=some l/\Stm (cz q) (c.map cz)/\RI q (c.map cz) (-Fz q) l (Fz q)/\(∀ t∈l,Va t)/\(∀ x y,x<y->Fz q≤x\/y≤-Fz q->vv (c.map cz) x=vv (c.map cz) y):=by
 obtain ⟨q,c,l,h1,h2,h3,h4,h5,h6,h7,_⟩:=Qv2 (Qm _) h;exact ⟨q,c,l,h1,h2,h3,h4,h5,h6,h7⟩
theorem Db {q:List Int} {L:List (List Rat)} (hS:Stm (cz q) L) {c:Rat->Int} (hc:Cut c) {lo:Rat} (hH:∀ z,c z=-1->z<=lo->vv L z=vv L lo) {y0:Rat} (hy:c y0=-1) (hv:∀ z,lo<z->z<=y0->vv L z=vv L lo):∃ s,s≠0/\∀ z,c z=-1->z<=y0->Uz (ev (cz q) z)=s:=by
 have hall:∀ z,c z=-1->z<=y0->vv L z=vv L lo:=λz h1 h2=>by
  rcases U9 z lo with e | e
  ·exact hH z h1 e
  ·exact hv z e h2
 have hne:∀ z,c z=-1->z<=y0->Uz (ev (cz q) z)≠0:=λz h1 h2=>by
  obtain ⟨w,w1,w2⟩:=hc.dn z h1;have:=Qsp hS w1 (by rw [hall w w2 (by grind),hall z h1 h2]);rw [this.s]; exact this.n
 refine ⟨Uz (ev (cz q) y0),hne y0 hy Qq,λz h1 h2=>?_⟩;rcases Classical.em (z=y0) with e | e
 ·rw [e]
 ·have:=Qsp hS (x:=z) (y:=y0) (by grind) (by rw [hall z h1 h2,hall y0 hy Qq]);rw [this.s,Ln (hne z h1 h2)]
structure Fst (o:List Int) (a t:Tm):Prop where
 lt:Pw a t
 s:∃ s,s≠0/\(∀ z,U0 a z=-1->U0 t z=1->Uz (ev (cz o) z)=s)/\RS (cz o) (U0 t) (-s)
def Non (o:List Int) (a:Tm):Prop:=∃ s,s≠0/\∀ z,U0 a z=-1->Uz (ev (cz o) z)=s
theorem Q5m {q:List Int} {L:List (List Rat)} (hS:Stm (cz q) L) {a:Tm} (ha:Va a) {lo hi:Rat} {l:List Tm} (hR:RI q L lo l hi):(∀ t∈l,Va t)->(∀ z,hi<z->vv L z=vv L hi)->(∀ z,U0 a z=-1->z≤lo->vv L z=vv L lo)->∃ r,Qcg a l=some r/\match r with
 | none=>Non q a
 | some t=>t∈l/\Fst q a t:=by
 have ca:=ha.cut
 induction hR with
 |
  @nil lo hi h hv =>
  intro _ hhi hH;refine ⟨none,rfl,?_⟩;obtain ⟨y1,hy1⟩:=ca.hi;have hall:∀ z,lo<z->vv L z=vv L lo:=λz hz=>by
   rcases U9 z hi with e | e
   ·have h1:=Lz hS hz;have h2:vv L hi<=vv L z:=by
     rcases Classical.em (z=hi) with e' | e'
     ·rw [e']; exact Qm _
     ·exact Lz hS (by grind)
    omega
   ·rw [hhi z e,hv]
  obtain ⟨s,s0,hs⟩:=Db hS ca hH hy1 λz h1 _=>hall z h1
  refine ⟨s,s0,λz hz=>?_⟩;rcases U9 z y1 with e | e
  ·exact hs z hz e
  ·obtain ⟨s',s0',hs'⟩:=Db hS ca hH hz λz h1 _=>hall z h1
   rw [hs' z hz Qq,<-hs' y1 hy1 (Qo e),hs y1 hy1 Qq]
 |
  @cons lo hi t l h hv ht hp hl ih =>
  intro hV hhi hH;have hvt:=hV t (Qr ..);have ct:=hvt.cut;have ht':=ht;rw [<-hp] at ht';have ect:∀ z,U0 t z=cq (cz t.p) t.lo t.hi z:=Tp ht.l;obtain ⟨c,c1,c2⟩:=Qbi hvt ha;show ∃ r,((Qie t a).bind λc=>if 0<c then some (some t) else Qcg a l)=some r/\_;rw [c1];show ∃ r,(if 0<c then some (some t) else Qcg a l)=some r/\_;have hlo1:U0 t t.lo=1:=by rw [ect]; exact Be Qq
  have hlow:∀ z,lo<z->U0 t z=1->vv L z=vv L lo:=λz h1 h2=>by
   rcases U9 z t.lo with e | e
   ·have a1:=Lz hS h1;have a2:vv L t.lo<=vv L z:=by
     rcases Classical.em (z=t.lo) with e' | e'
     ·rw [e']; exact Qm _
     ·exact Lz hS (by grind)
    omega
   ·rw [ect] at h2;have hz:z<=t.hi:=by
     rcases U9 z t.hi with e' | e'
     ·exact e'
     ·rw [Ol ht.l e'] at h2; omega
    rw [ht'.eq_lo e hz h2,hv]
  by_cases hc:0<c
  ·rw [if_pos hc];refine ⟨some t,rfl,Qr ..,?_⟩;have hlt:Pw a t:=by
    rcases c2 with ⟨e,_⟩ | ⟨e,_⟩ | ⟨_,h⟩
    ·omega
    ·omega
    ·exact h
   refine ⟨hlt,?_⟩;obtain ⟨m,m1,m2⟩:=hlt;obtain ⟨s,s0,hs⟩:=Db hS ca hH m1 λz h1 h2=>hlow z h1 (by
    rcases Classical.em (z=m) with e | e
    ·rw [e]; exact m2
    ·exact ct.mono' (q:=z) (r:=m) (by grind) (by omega))
   have hall:∀ z,U0 a z=-1->U0 t z=1->Uz (ev (cz q) z)=s:=λz h1 h2=>by
    rcases U9 z m with e | e
    ·exact hs z h1 e
    ·obtain ⟨s',s0',hs'⟩:=Db hS ca hH h1 λw w1 w2=>hlow w w1 (by
      rcases Classical.em (w=z) with e | e
      ·rw [e]; exact h2
      ·exact ct.mono' (q:=w) (r:=z) (by grind) (by omega))
     rw [hs' z h1 Qq,<-hs' m m1 (Qo e),hs m m1 Qq]
   refine ⟨s,s0,hall,?_⟩;obtain ⟨w,w1,w2,w3⟩:=Qkc ct m2 hlo1;have hwa:U0 a w=-1:=ca.mono m w w2 (by omega);have hsw:=hall w hwa w1;have hwh:w<t.hi:=by
    rw [ect] at w1;rcases U9 t.hi w with e | e
    ·have:=ht'.hi1;rcases Classical.em (t.hi=w) with e' | e'
     ·rw [<-e'] at w1; exact absurd w1 this
     ·rw [Ol ht.l (by grind)] at w1; omega
    ·exact e
   have hww:vv L w=vv L t.lo:=ht'.eq_lo w3 (Qo hwh) (by rw [<-ect]; exact w1);have hvv:=ht.v;have hone:=Qso hS hwh (by omega);have hlw:Tw (cz q) w=s:=by rw [Ln (by rw [hsw]; exact s0),hsw]
   rw [hlw] at hone;have hd:∀ z,w<z->z<=t.hi->U0 t z=-1->Uz (ev (cz q) z)=-s:=λz z1 z2 z3=>by
    rw [ect] at z3;have e1:=ht'.eq_hi (by grind) z2 (by omega);have e2:=Qso hS z1 (by omega);rw [hlw] at e2;have hz0:Uz (ev (cz q) z)≠0:=by
     rw [Nc (by grind) z2,hp] at z3;intro h0;rw [if_pos h0] at z3; omega
    rw [Ln hz0] at e2; exact e2.2
   rcases ct.val t.hi with e | e | e
   ·rw [ect] at e; exact absurd e ht'.hi1
   ·obtain ⟨d,dp,hd'⟩:=Zoj (p:=cz q) (x:=t.hi) (by rw [hone.2]; omega);refine ⟨t.hi+d,ct.mono t.hi _ (by grind) (by omega),λz h1 h2=>?_⟩;have hz:t.hi<z:=by
     rcases U9 z t.hi with e' | e'
     ·rcases Classical.em (z=t.hi) with e'' | e''
      ·rw [e''] at h1; omega
      ·have:=ct.mono z t.hi (by grind) (by omega); omega
     ·exact e'
    rw [hd' z hz (by grind),hone.2]
   ·exact ⟨t.hi,e,λz h1 h2=>hd z (ct.lt w1 h1) h2 h1⟩
  ·rw [if_neg hc];have hle:¬Pw a t:=λh=>by
    rcases c2 with ⟨e,h'⟩ | ⟨e,h'⟩ | ⟨e,_⟩
    ·exact Qak ct ca h' h
    ·obtain ⟨z,z1,z2⟩:=h;have:=h' z; omega
    ·omega
   obtain ⟨r,r1,r2⟩:=ih (λx hx=>hV x (Qj _ hx)) hhi λz z1 z2=>by
    have hz:U0 t z≠1:=λh=>hle ⟨z,z1,h⟩
    have hzl:t.lo<z:=by
     rcases U9 z t.lo with e | e
     ·refine absurd ?_ hz;rw [ect]; exact Be e
     ·exact e
    exact ht'.eq_hi hzl z2 (by rw [<-ect]; exact hz)
   refine ⟨r,r1,?_⟩;cases r with
   | none=>exact r2
   | some x=>exact ⟨Qj _ r2.1,r2.2⟩
theorem Zjz {c:Rat->Int} (hc:Cut c):∀ (n:Nat) (f:List Rat),HD f n->∃ s,s≠0/\RS f c s
 |
  n,f,h=>by
  rcases Qbb hc f with hv | ⟨s,hs,hn⟩
  ·cases n with
   |
    zero =>
    exfalso;obtain ⟨q,hq,_⟩:=Qu0 hc (hv (Uu (f.getD 0 0)) (Ns h.1));cases f with
    | nil=>exact h.1 (by simp)
    |
     cons a l =>
     have:=Cj (p:=l) λk=>by have:=h.2 (k+1) (by omega); rwa [Q3] at this
     simp only [ev,this,Zr] at hq; grind
   |
    succ n =>
    have hd:HD (Ms f) n:=by
     have key:∀ (f:List Rat) (k:Nat),(Ms f).getD k 0=((k+1:Nat):Rat)*f.getD (k+1) 0:=by
      intro f
      induction f with
      | nil=>intro k; simp only [Ms,Kr]; grind
      |
       cons a f ih =>
       intro k;simp only [Ms];rw [Hg,Q3];cases k with
       | zero=>rw [Zr]; push_cast; grind
       | succ k=>rw [Q3,ih]; push_cast; grind
     refine ⟨λh0=>?_,λk hk=>by rw [key,h.2 (k+1) (by omega)]; grind⟩;rw [key] at h0;rcases Jw.1 h0 with h1 | h1
     ·have:=nat_pos (show 0<n+1 by omega); grind
     ·exact h.1 h1
    obtain ⟨s,hs,h1⟩:=Zjz hc n (Ms f) hd;exact ⟨s,hs,Qr4 hc hv h1 hs⟩
  ·exact ⟨s,hs,Qo4 hc hn⟩
theorem Zce {c:Rat->Int} (hc:Cut c) {f p q:List Rat} {s s':Int} (hf:∀ t,ev f t=ev p t*ev q t) (h:RS p c s) (h':RS q c s'):RS f c (s*s'):=by
 obtain ⟨y,h1,h2⟩:=h;obtain ⟨y',h3,h4⟩:=h';refine ⟨if y<=y' then y else y',by split <;> assumption,λz z1 z2=>?_⟩;rw [hf,Tg,h2 z z1 (by clear h2 h4; grind),h4 z z1 (by clear h2 h4; grind)]
theorem Zcf {c:Rat->Int} (hc:Cut c) {f o S:List Rat} {k:Rat} (hk:k≠0) (hf:∀ t,ev f t=k*(ev o t*(ev S t*ev S t))) (hnz:¬∀ t,ev f t=0) {s:Int} (h:RS o c s):RS f c (Uz k*s):=by
 obtain ⟨n,_,hn⟩:∃ n,n<S.length/\HD S n:=by
  rcases Qht S with h1 | h1
  ·exact absurd (λt=>by rw [hf,h1]; grind) hnz
  ·exact h1
 obtain ⟨s',hs',h'⟩:=Zjz hc n S hn;have h1:=Zce hc (f:=Fx S S) (λt=>Ur t _ _) h' h';have h2:=Zce hc (f:=Fx o (Fx S S)) (λt=>Ur t _ _) h h1;have hsq:s'*s'=1:=by
  obtain ⟨y,y1,y2⟩:=h';have:=y2 y y1 Qq;rcases Gf (ev S y) with ⟨e,_⟩ | ⟨e,_⟩ | ⟨e,_⟩
  ·rw [<-this,e]; rfl
  ·omega
  ·rw [<-this,e]; rfl
 rw [hsq,Wl] at h2;obtain ⟨y,y1,y2⟩:=h2;exact ⟨y,y1,λz z1 z2=>by
  have:=y2 z z1 z2;rw [Ur,Ur] at this;rw [hf,Tg,this]⟩
structure Cp (p:List Int):Prop where
 t:Uo p
 l:p.length<=9
 b:Bd 1110 p
theorem Cp.dp {p:List Int} (h:Cp p):Dp p:=⟨h.t,h.l,Uj h.b (by omega)⟩
theorem Cp.ok {p:List Int} (h:Cp p) (h0:p.length≠0):Okp 9 1180 p:=h.dp.ok h0
def Leq (a:Tm) (c:Rat->Int):Prop:=∀ q,c q=-1->U0 a q=-1
def Tq (p:List Int) (a:Tm):Option Tm->Prop
 | none=>p=[]\/∃ s,s≠0/\∀ c,Cut c->Leq a c->RS (cz p) c s
 | some t=>p≠[]/\Va t/\Pw a t/\∃ s,s≠0/\(∀ c,Cut c->Leq a c->(∃ m,c m=-1/\U0 t m=1)->RS (cz p) c s)/\RS (cz p) (U0 t) (-s)
theorem RI.len {q:List Int} {L:List (List Rat)} {lo hi:Rat} {l:List Tm} (h:RI q L lo l hi):l.length+vv L hi<=vv L lo:=by
 induction h with
 | nil h hv=>simp; omega
 | cons h hv ht hp hl ih=>have:=ht.v; simp only [Q6]; omega
theorem Zdg (x:Rat):∀ (L:List (List Rat)) (s:Int),tc x s L<=L.length
 | [],_=>Qm _
 |
  f::l,s=>by
  have h1:=Zdg x l;simp only [tc,Q6]
  repeat' split
  all_goals (first | (have:=h1 s; omega) | (have:=h1 (Uz (ev f x)); omega))
theorem Zm7 (L:List (List Rat)) (x:Rat):vv L x<=L.length:=Zdg x L 0
theorem Qba {p:List Int} (h:Cp p):∃ l,E9 p=some l/\l.length≤67/\(∀ t∈l,Va t)/\∀ a,Va a->∃ r,Qcg a l=some r/\Tq p a r/\∀ t,r=some t->t∈l:=by
 unfold E9;by_cases h0:p.length=0
 ·have e:p=[]:=Qi h0;subst e;exact ⟨[],rfl,by decide,(λt ht=>by cases ht),λa _=>⟨none,rfl,.inl rfl,λt ht=>by cases ht⟩⟩
 ·obtain ⟨qp,o,q1,o1,hpt⟩:=Qyz (n:=9) (s:=1110) (p:=p) ⟨⟨by decide,by decide⟩,h.t,h0,h.l,h.b⟩;obtain ⟨g,sq⟩:=hpt.sq;obtain ⟨S,hS⟩:=hpt.os;obtain ⟨p1,p2,p3,p4,p5,p6,p7⟩:=Td h.t h0;have hpl:=h.l;obtain ⟨hh,th,eh⟩:=hpt.oh;have bo:Bd 1179 o:=Iw (p5 1110 h.b) (by omega) p1 hpt.ot th (by omega) eh;obtain ⟨lo1,lo2⟩:=Hm p1 (by omega) eh;have hlen:=Sw hpt.ot th p1 eh lo1 lo2;have oko:Okp 9 1180 o:=⟨Qrh,hpt.ot,by omega,by omega,Uj bo (by omega)⟩;obtain ⟨q,c,l,r1,r2,r3,hSt,hRI,hVa,hout⟩:=Zcb oko;obtain ⟨g',q',s1,s2⟩:=Qb2 oko;rw [r1] at s1;injection s1 with s1;subst s1;obtain ⟨_,_,_,_,_,o6,o7⟩:=Td hpt.ot (by omega);have hg1:g'=[1]:=by
   refine s2.pg.one ?_;obtain ⟨E,hE⟩:=hpt.oq;have hE:∀ t,Up qp t=Up o t*ev E t:=λt=>by have:=hE t; rwa [Un,Un] at this
   obtain ⟨z,hz⟩:=s2.d;have hd1:∀ t,Up o t=Up g' t*(Fy o*Up q t):=λt=>by rw [o7,s2.e]; grind
   have hdo:∀ t,dv (cz o) t=Up g' t*(Fy o*ev z t):=λt=>by
    have:=Q9h (p:=cz o) (q:=P5 (Fy o) (cz (Uq o))) (λt=>by rw [Un,U7,Un,o7]) t;rw [this,Qf8,hz]; grind
   obtain ⟨k,hk,hkk⟩:=sq.num (d:=cz g') ⟨Fx (P5 (Fy o) (cz q)) E,λt=>by rw [Un,Un,hE,hd1,Ur,U7,Un]; grind⟩ ⟨Ra (Fx (P5 (Fy o) z) E) (Fx (P5 (Fy o) (cz q)) (Ms E)),λt=>by
    have:=Iu (f:=cz qp) (w:=cz o) (u:=E) (λt=>by rw [Un,Un,hE]) t;rw [Hw,this,hdo,Un,Un,hd1,Fh,Ur,Ur,U7,U7,Hw,Un]; grind⟩
   rcases Zb g'.length 2 with e | e
   ·exact e
   ·exfalso;have h1:=(Qce s2.pg.t (by omega)).1;have h2:=Ni (p:=cz g') (q:=[k]) (λt=>by rw [hkk]; simp only [ev]; grind) (g'.length-1);rw [h2,Qg,Qt (by simp; omega)] at h1;exact h1 rfl
  have hpq:∀ t,ev (cz p) t=((Fy p:Rat)*(Fy o:Rat))*(ev (cz q) t*(ev S t*ev S t)):=λt=>by
   rw [Un,Un,p7,hS,o7,s2.e,hg1,Mi]; grind
  have hk0:(Fy p:Rat)*(Fy o:Rat)≠0:=λh=>(Jw.1 h).elim (I1 p6) (I1 o6)
  have hpz:¬∀ t,ev (cz p) t=0:=λh'=>Qhk h.t (by omega) λt=>by rw [<-Un]; exact h' t
  obtain ⟨k,hk⟩:=nmE (Uz ((Fy p:Rat)*(Fy o:Rat)));have hkn:k≠0:=λh=>hk0 (Fq.1 (by rw [<-hk]; exact h))
  have ho:o.length≠0:=by omega
  rw [o1];show ∃ l,(if o.length=0 then some [] else Ql2 o)=some l/\l.length<=67/\_;rw [if_neg ho];have hb1:=Qfz (Cc s2.pq.t s2.pq.n);have hll:=hRI.len;have hlv:=Zm7 (c.map cz) (-Fz q);have hcl:=(Orr.chain_ok (p:=o) ⟨hpt.ot,by omega,Uj bo (by omega)⟩ r2).1;rw [Q8] at hlv;refine ⟨l,r3,by omega,hVa,λa ha=>?_⟩;obtain ⟨r,n1,n2⟩:=Q5m hSt ha hRI hVa (λz hz=>(hout _ _ hz (.inl Qq)).symm) λz _ hz=>by
   rcases Classical.em (z=-Fz q) with e | e
   ·rw [e]
   ·exact hout z _ (by grind) (.inr Qq)
  refine ⟨r,n1,?_,λt ht=>by subst ht; exact n2.1⟩;cases r with
  |
   none =>
   obtain ⟨s,hs,hz⟩:=n2;refine .inr ⟨k*s,Jk hkn hs,λc hc hac=>?_⟩;obtain ⟨y,hy⟩:=hc.hi;have h1:RS (cz q) c s:=⟨y,hy,λz z1 _=>hz z (hac z z1)⟩;rw [hk]; exact Zcf hc hk0 hpq hpz h1
  |
   some t =>
   obtain ⟨hm,hlt,s,hs,hz,hrs⟩:=n2;refine ⟨λe=>h0 (by rw [e]; rfl),hVa t hm,hlt,k*s,Jk hkn hs,λc hc hac ⟨m,m1,m2⟩=>?_,?_⟩
   ·have h1:RS (cz q) c s:=⟨m,m1,λz z1 z2=>hz z (hac z z1) (by
     rcases Classical.em (z=m) with e | e
     ·rw [e]; exact m2
     ·exact (hVa t hm).cut.mono' (q:=z) (r:=m) (by grind) (by omega))⟩
    rw [hk]; exact Zcf hc hk0 hpq hpz h1
   ·have:=Zcf (hVa t hm).cut hk0 hpq hpz hrs;rw [<-hk] at this;rw [show -(k*s)=k*-s by rw [V7]]; exact this
structure Sz (s n:Nat) (t:Tm):Prop where
 n:t.p.length<=n
 b:Bd (s+138) t.p
 g:∃ D M k,Gr D M k t.lo/\Gr D M k t.hi/\0<M/\Uv (D:Int)<=s+138/\Uv (M:Int)<=s+139/\k<=63*s+9507
theorem Zdn {p:List Int} (h:Cp p) {s:Nat} (hs:s≤1110) (hb:Bd s p) {l:List Tm} (hl:E9 p=some l):∀ t∈l,t.point=false/\Sz s p.length t:=by
 unfold E9 at hl;by_cases h0:p.length=0
 ·have e:p=[]:=Qi h0;subst e;injection hl with hl;intro t ht; rw [<-hl] at ht; cases ht
 ·obtain ⟨qp,o,q1,o1,hpt⟩:=Qyz (n:=9) (s:=1110) (p:=p) ⟨⟨by decide,by decide⟩,h.t,h0,h.l,h.b⟩;obtain ⟨p1,p2,p3,p4,p5,p6,p7⟩:=Td h.t h0;have hpl:=h.l;obtain ⟨hh,th,eh⟩:=hpt.oh;have bo:Bd (s+69) o:=Iw (p5 s hb) (by omega) p1 hpt.ot th (by omega) eh;obtain ⟨lo1,lo2⟩:=Hm p1 (by omega) eh;have hlen:=Sw hpt.ot th p1 eh lo1 lo2;have ho:o.length≠0:=by omega
  have oko:Okp 9 (s+69) o:=⟨Zmw Qrh (by omega),hpt.ot,by omega,by omega,bo⟩;obtain ⟨q,c,l',r1,r2,r3,_,_,_,_,hlq,hz⟩:=Qv2 (by omega) oko;rw [o1,Jh,if_neg ho,r3] at hl;have hl:=Option.some.inj hl;subst hl;intro t ht;obtain ⟨e,hlh,bq,D,M,k,g1,g2,g3,g4,g5,g6⟩:=hz t ht;have e6:63*(s+69)+5160=63*s+9507:=by rw [Xu,Yf]
  rw [e6] at g6;refine ⟨?_,⟨by rw [e]; omega,by rw [e]; exact Uj bq (by omega),D,M,k,g1,g2,g3,by clear g6 e6; omega,by clear g6 e6; omega,g6⟩⟩;cases hp:t.point with
  | false=>rfl
  |
   true =>
   have:=Tt.1 hp;grind
theorem Za5 {p:List Int} (h:Cp p) {a:Tm} (ha:Va a):∃ r,Qh0 p a=some r/\Tq p a r:=by
 obtain ⟨l,l1,_,_,l3⟩:=Qba h;obtain ⟨r,r1,r2,_⟩:=l3 a ha;refine ⟨r,?_,r2⟩;unfold Qh0;rw [l1]; exact r1
theorem Qgq:∀ (l:List Tm) (b:Tm),(∀ t∈b::l,Va t)->∃ m,I4 b l=some m/\m∈b::l/\∀ t∈b::l,¬Pw t m
 |
  [],b,h=>⟨b,rfl,Qr ..,λt ht h'=>by
  rw [Ql.1 ht] at h';have hb:=(h b (Qr ..)).cut;exact Qak hb hb h' h'⟩
 |
  a::l,b,h=>by
  have ha:=h a (by simp);have hb:=h b (by simp);obtain ⟨c,c1,c2⟩:=Qbi ha hb;obtain ⟨m,m1,m2,m3⟩:=Qgq l (if c<0 then a else b) λt ht=>by
   rcases Qp.1 ht with rfl | ht
   ·split <;> assumption
   ·exact h t (by simp [ht])
  refine ⟨m,by simp only [I4]; rw [c1]; exact m1,?_,λt ht=>?_⟩
  ·rcases Qp.1 m2 with e | e
   ·rw [e]; split <;> simp
   ·simp [e]
  ·have hm:Va m:=by
    rcases Qp.1 m2 with e | e
    ·rw [e]; split <;> assumption
    ·exact h m (by simp [e])
   have hfst:=m3 _ (Qr ..);have tr:∀ x y:Tm,Va x->Va y->¬Pw x y->¬Pw y m->¬Pw x m:=λx y hx hy h1 h2 h3=>by
    rcases tri hy.cut hm.cut with h4 | h4 | h4
    ·exact h2 h4
    ·obtain ⟨q,q1,q2⟩:=h3;exact h1 ⟨q,q1,by rw [h4]; exact q2⟩
    ·obtain ⟨q,q1,q2⟩:=h3;obtain ⟨r,r1,r2⟩:=h4;have:=hm.cut.lt q2 r1;exact h1 ⟨q,q1,hy.cut.mono' this (by omega)⟩
   rcases Qp.1 ht with rfl | ht
   ·by_cases hc:c<0
    ·rw [if_pos hc] at hfst;refine tr _ a hb ha ?_ hfst;rcases c2 with ⟨_,h'⟩ | ⟨e,_⟩ | ⟨e,_⟩
     ·exact λh''=>Qak ha.cut hb.cut h' h''
     ·omega
     ·omega
    ·rw [if_neg hc] at hfst; exact hfst
   ·rcases Qp.1 ht with rfl | ht
    ·by_cases hc:c<0
     ·rw [if_pos hc] at hfst; exact hfst
     ·rw [if_neg hc] at hfst;refine tr _ b ha hb ?_ hfst;rcases c2 with ⟨e,_⟩ | ⟨_,h'⟩ | ⟨_,h'⟩
      ·omega
      ·rintro ⟨q,q1,q2⟩
       have:=h' q; omega
      ·exact λh''=>Qak ha.cut hb.cut h'' h'
    ·exact m3 t (by simp [ht])
end Orq
namespace Orr
open Go Go.Proofs Orq
set_option maxRecDepth 10000
theorem Dp.pb {p:List Int} (h:Dp p):Pb p:=⟨h.t,by have:=h.l; omega,Uj h.b (by have:=h.l; omega)⟩
theorem Znx {p:List Int} {a:Tm} (hp:Dp p) (ha:Va a):Uk Tryz.prog 219 [pr p,.agg (ta a)] [.one (.int .i64 (Pi a p))]:=Zer (Dp.pb hp) ha.tb (Zcq hp ha).1
theorem Znp {p:List Int} {a:Tm} (hp:Dp p) (ha:Va a):Uk Tryz.prog 218 [pr p,.one (.sh (ta a))] [.one (.int .i64 (Pi a p))]:=w tt Tryz.func218 rfl [.c [] (Znx hp ha)] rfl rfl trivial
theorem Zfb {p:List Int} {fid:Nat} {l1:List LV} {sgn:List Int->Int} (hp:Dp p) (h:∀ p,Dp p->Uk Tryz.prog fid [pr p,.one (.sh l1)] [.one (.int .i64 (sgn p))]):Uk Tryz.prog 217 [pr p,.one (.fn fid [] [.sh l1])] [.one (.int .i64 (Rh sgn p.length p))]:=by
 have hpb:=Dp.pb hp;refine Gm Tryz.func217 rfl ?_;refine go tt [.c [] (G8 hpb.t hpb.ln hpb.bd)] rfl trivial ?_;refine lp (S:=List Int) 0 (λL1 s=>(0,.v (pr s))::L1) (λ_=>[]) (λs=>s.length) (λs=>Dp s/\Rh sgn s.length s=Rh sgn p.length p) p ⟨hp,rfl⟩ rfl (λ_ _=>rfl) rfl λr ⟨j1,j4⟩=>?_
 rw [<-j4];have jb:=Dp.pb j1;by_cases h0:r.length=0
 ·have e:=Qhq sgn h0;rw [e];exact en tt [.f (by simp; exact Qi h0)] rfl rfl trivial
 ·have hs:=h r j1;by_cases hz:sgn r=0
  ·have hlp:=Tr r;refine go tt [.t (by simp; omega),.c [] hs,.f (by simpa using hz),.c [] (Ag jb.ln jb.bd)] rfl trivial ?_;exact rd (Fe r) (by omega) ⟨j1.der,by rw [<-Qhp sgn (by omega) hz]⟩ rfl
  ·rw [Qho sgn (by omega) hz];exact en tt [.t (by simp; omega),.c [] hs,.t (by simpa using hz)] rfl rfl trivial
abbrev gmA (a:Tm) (p:List Int):Int:=Mp (Pi a) p
theorem Zjb {p:List Int} {a:Tm} (hp:Dp p) (ha:Va a):Uk Tryz.prog 174 [pr p,.agg (ta a)] [.one (.int .i64 (gmA a p))] :=
 w tt Tryz.func174 rfl [.c [] (Zfb (sgn:=Pi a) hp λ_ h=>Znp h ha)] rfl rfl trivial
structure Sc (k:Crv):Prop where
 n:Nml k
 c:Cs 128 3 k
theorem Sc.cb {k:Crv} (h:Sc k):Cb k:=h.c.mono (by omega) (by omega)
theorem Zj6 (q:Rat) {P:Prop} (h:(tq q).point=false):P:=by
 have e:(tq q).point=true:=Tt.2 Qq;rw [e] at h; cases h
theorem Zlt (q:Rat):lim (tq q)=3300000:=by unfold lim; rw [if_pos (Tt.2 Rat.le_refl)]
theorem Zdr {q:Rat} (hq:Qs 1640000 q):Va (tq q):=by
 have hd:=q.den_nz;refine ⟨.inl ⟨rfl,?_⟩,Qse q,by show 2<=9; omega,by show 2<=2; omega,Zno (hq.mono (by omega)),Zj6 q,Zj6 q,q.den,q.num.natAbs+1,0,?_,?_,by omega,?_⟩
 ·have e:(q.num:Rat)=q*(q.den:Rat):=by
   have:(q.num:Rat) / (((q.den:Int)):Rat)=q:=by rw [Gs,Zs]
   have h2:(q.num:Rat) / (q.den:Rat)*(q.den:Rat)=q.num:=Zk (by have:=Orq.nat_pos q.den_pos; grind);rw [show (q.num:Rat) / (q.den:Rat)=q from this] at h2; exact h2.symm
  show Up [-q.num,(q.den:Int)] q=0;simp only [Up];rw [Vi,e,show (((q.den:Int)):Rat)=(q.den:Rat) from rfl]; grind
 all_goals first | (have h1:Uv (q.den:Int)<=1640000:=hq.2; have h2:Uv ((q.num.natAbs+1:Nat):Int)<=1640001:=Q5b hq.1; rw [Zlt]; omega) | skip
 all_goals
  refine ⟨⟨q.num,?_⟩,?_,q.den_pos⟩
  ·rw [Y8,Yy];have:(q.num:Rat) / (((q.den:Int)):Rat)=q:=by rw [Gs,Zs]
   have h2:(q.num:Rat) / (q.den:Rat)*(q.den:Rat)=q.num:=Zk (by have:=Orq.nat_pos q.den_pos; grind);rw [show (q.num:Rat) / (q.den:Rat)=q from this] at h2; exact h2
  ·have h1:Uu q<=Uu (q.num:Rat):=by
    have e:(q.num:Rat)=q*(q.den:Rat):=by
     have:(q.num:Rat) / (((q.den:Int)):Rat)=q:=by rw [Gs,Zs]
     have h2:(q.num:Rat) / (q.den:Rat)*(q.den:Rat)=q.num:=Zk (by have:=Orq.nat_pos q.den_pos; grind);rw [show (q.num:Rat) / (q.den:Rat)=q from this] at h2; exact h2.symm
    rw [e,Dn];have hd1:(1:Rat)<=(q.den:Rat):=by
     have:((1:Nat):Rat)<=(q.den:Rat):=Zd.2 q.den_pos;exact this
    have e2:Uu (q.den:Rat)=(q.den:Rat):=by unfold Uu; rw [if_neg (by grind)]
    rw [e2];have:=Pd (a:=Uu q) (c:=1) (Gx q) Qq (by decide) hd1;grind
   rw [Tj] at h1;refine Zc h1 (Zd.2 (by omega))
end Orr
namespace Orr
variable {α:Type}
def No (lt:α->α->Bool) (out:List α) (x:α):Nat->Nat
 | 0=>0
 |
  k+1=>match out[k]? with
  | some y=>if lt x y=true then No lt out x k else k+1
  | none=>k+1
theorem Qro (lt:α->α->Bool) (out:List α) (x:α):∀ k,No lt out x k<=k
 | 0=>Qm _
 |
  k+1=>by
  simp only [No]
  split
  ·split
   ·exact Nat.le_succ_of_le (Qro lt out x k)
   ·exact Qm _
  ·exact Qm _
theorem Qrp {lt:α->α->Bool} {out:List α} {x y:α} {k:Nat} (hx:out[k]? = some y) (h:lt x y=true):No lt out x (k+1)=No lt out x k:=by
 simp only [No,hx,h,if_true]
theorem Qlu {lt:α->α->Bool} {out:List α} {x y:α} {k:Nat} (hx:out[k]? = some y) (h:lt x y=false):No lt out x (k+1)=k+1:=by
 simp [No,hx,h]
def Di (lt:α->α->Bool) (out:List α) (x:α):List α:=out.take (No lt out x out.length)++x::out.drop (No lt out x out.length)
theorem Zah (lt:α->α->Bool) (out:List α) (x:α):(Di lt out x).length=out.length+1:=by
 have:=Qro lt out x out.length;simp [Di]; omega
theorem Qk6 {lt:α->α->Bool} {out:List α} {x y:α}:y∈Di lt out x↔y=x\/y∈out:=by
 have h:y∈out↔y∈out.take (No lt out x out.length)\/y∈out.drop (No lt out x out.length):=by
  rw [<-Qw,Ze]
 simp only [Di,Qw,Qp,h];constructor
 ·rintro (h | h | h)
  ·exact .inr (.inl h)
  ·exact .inl h
  ·exact .inr (.inr h)
 ·rintro (h | h | h)
  ·exact .inr (.inl h)
  ·exact .inl h
  ·exact .inr (.inr h)
def Rt (lt:α->α->Bool) (l:List α):List α:=l.foldl (Di lt) []
theorem Qz4 (lt:α->α->Bool) (l:List α) (x:α):Rt lt (l++[x])=Di lt (Rt lt l) x:=by simp [Rt,Y6]
theorem Qma {lt:α->α->Bool} {l:List α} {i:Nat} {x:α} (h:l[i]? = some x):Rt lt (l.take (i+1))=Di lt (Rt lt (l.take i)) x:=by
 rw [Zw,h]; exact Qz4 _ _ _
theorem Qky (lt:α->α->Bool):∀ (l acc:List α),(l.foldl (Di lt) acc).length=acc.length+l.length
 | [],acc=>by simp
 | c::l,acc=>by simp only [Xe]; rw [Qky lt l (Di lt acc c),Zah]; simp; omega
theorem B5 (lt:α->α->Bool) (l:List α):(Rt lt l).length=l.length:=by unfold Rt; rw [Qky]; simp
theorem Qkz (lt:α->α->Bool):∀ (l acc:List α) {y:α},y∈l.foldl (Di lt) acc↔y∈l\/y∈acc
 | [],acc,y=>by simp
 |
  c::l,acc,y=>by
  simp only [Xe];rw [Qkz lt l,Qk6,Qp];constructor
  ·rintro (h | h | h)
   ·exact .inl (.inr h)
   ·exact .inl (.inl h)
   ·exact .inr h
  ·rintro ((h | h) | h)
   ·exact .inr (.inl h)
   ·exact .inl h
   ·exact .inr (.inr h)
theorem A6 {lt:α->α->Bool} {l:List α} {y:α}:y∈Rt lt l↔y∈l:=by
 unfold Rt; rw [Qkz]; simp
end Orr
namespace Orr
open Go Orq
structure Wt where
 c:Ct
 known:Bool
 fails:Option Tm
def f0:Option Tm->LV | none=>.row [] | some t=>pl t.p
def f1:Option Tm->LV | none=>.bool false | some t=>sg t.lo.num
def f2:Option Tm->LV | none=>.row [] | some t=>mg t.lo.num
def f3:Option Tm->LV | none=>.bool false | some t=>sg (t.lo.den:Int)
def f4:Option Tm->LV | none=>.row [] | some t=>mg (t.lo.den:Int)
def f5:Option Tm->LV | none=>.bool false | some t=>sg t.hi.num
def f6:Option Tm->LV | none=>.row [] | some t=>mg t.hi.num
def f7:Option Tm->LV | none=>.bool false | some t=>sg (t.hi.den:Int)
def f8:Option Tm->LV | none=>.row [] | some t=>mg (t.hi.den:Int)
abbrev fl (o:Option Tm):List LV:=[f0 o,f1 o,f2 o,f3 o,f4 o,f5 o,f6 o,f7 o,f8 o]
abbrev wl (w:Wt):List LV:=[.int .i64 w.c.kind,.int .i64 w.c.i0,.int .i64 w.c.i1,.int .i64 w.c.i2,.int .i64 w.c.i3,pl w.c.p,.int .i64 w.c.want,.bool w.known,.bool w.fails.isSome,f0 w.fails,f1 w.fails,f2 w.fails,f3 w.fails,f4 w.fails,f5 w.fails,f6 w.fails,f7 w.fails,f8 w.fails]
def Og (l:List Wt):List (List LV):=l.map λw=>wl w
theorem Ti {l:List Wt} {i:Nat} {w:Wt} (h:l[i]? = some w):(Og l)[i]? = some (wl w):=Gh h
theorem Nx (l:List Wt):(Og l).length=l.length:=by simp [Og]
structure Cr where
 now:Tm
 l:List Wt
 ev:Int
abbrev M3 (c:Cr) (r0 r1:List (List LV)):List LV:=.bool true::pl c.now.p::sg c.now.lo.num::mg c.now.lo.num::sg (c.now.lo.den:Int)::mg (c.now.lo.den:Int)::sg c.now.hi.num::mg c.now.hi.num::sg (c.now.hi.den:Int)::mg (c.now.hi.den:Int)::.row (Og c.l)::.int .i64 c.ev::[.row r0,.row r1]
structure WtOk (w:Wt):Prop where
 p:Cp w.c.p
 f:∀ t,w.fails=some t->Va t
structure CrOk (c:Cr):Prop where
 n:Va c.now
 l:∀ w∈c.l,WtOk w
 k:c.l.length<=1000
def Zcn (a b:Ct):Bool:=decide ([a.kind,a.i0,a.i1,a.i2,a.i3]=[b.kind,b.i0,b.i1,b.i2,b.i3])
def fresh (x:Ct):Wt:=⟨x,false,none⟩
def Ll:List Wt->Ct->Tm->Option Wt
 | [],x,_=>some (fresh x)
 |
  w::l,x,at_=>if Zcn w.c x=true/\w.known=true/\w.c.p=x.p then
   match w.fails with
   | none=>some ⟨x,true,none⟩
   | some t=>(Qie t at_).bind λc=>if 0<c then some ⟨x,true,some t⟩ else Ll l x at_
  else Ll l x at_
def Qee (old:List Wt) (at_:Tm):List Ct->Option (List Wt)
 | []=>some []
 | x::l=>(Ll old x at_).bind λw=>(Qee old at_ l).bind λr=>some (w::r)
end Orr
namespace Orr
open Go Go.Proofs Orq
set_option maxRecDepth 10000
theorem Qxb {T:Nat} {c:Cr} {r0 r1:List (List LV)} (hc:Va c.now):Ht Tryz.prog 27 [.one (.ow 0 0)] [.blk T (M3 c r0 r1)] [.agg (ta c.now)] [.blk T (M3 c r0 r1)]:=by
 have cl:=Af (b:=c.now) (l:=[]) hc.tb (λt ht=>by cases ht) (by decide) rfl;refine Gm Tryz.func27 rfl ?_;exact ed tt [] [0] [.f rfl,.c [] cl] rfl trivial
theorem Q7j {T:Nat} {c:Cr} {r0 r1:List (List LV)} (hc:CrOk c):Ht Tryz.prog 25 [.one (.ow 0 0)] [.blk T (M3 c r0 r1)] [.one (.row (Fa (G5 (c.l.map (·.c)))))] [.blk T (M3 c r0 r1)]:=by
 have hk:=hc.k;have hw:=Nx c.l;refine Gm Tryz.func25 rfl ?_;refine go tt [.o 3 99 7] rfl trivial ?_;refine lp (S:=Nat) 2 (λL1 i=>(11,.v (.one (.int .i64 (i:Int))))::(3,.v (.one (.orow 1 7 none)))::L1) (λi=>[.blk T (M3 c r0 r1),.row false 99 7 (Fa ((c.l.map (·.c)).take i))]) (λi=>c.l.length-i) (λi=>i<=c.l.length) 0 (Qh _) rfl (λ_ _=>rfl) rfl λi hi=>?_
 by_cases hlt:i<c.l.length
 ·obtain ⟨x,hx⟩:=gxE (l:=c.l) (i:=i) hlt;have hm:∀ y∈[Qep x.c],y.length=7:=λy hy=>by rw [Ql.1 hy]; rfl
  have hg:(c.l.map (·.c)).take (i+1)=(c.l.map (·.c)).take i++[x.c]:=by
   rw [Zw,Q9,hx]; rfl
  have hl:decide ((i:Int)<((Og c.l).length:Int))=true:=by simp [hw]; omega
  obtain ⟨xc,xk,xf⟩:=x;cases xf <;> (refine go tt [.t hl,.x (Ti hx),.s (sz:=7) hm] rfl (by simp [Ui,Nf]; omega) ?_; exact rd (i+1) (by omega) hlt (by rw [hg]; simp [Fa]; rfl))
 ·obtain rfl:i=c.l.length:=by omega
  have e:(c.l.map (·.c)).take c.l.length=c.l.map (·.c):=Qk (by simp);rw [e];have cs:=Qxi (l:=c.l.map (·.c)) (λx hx=>by
   obtain ⟨w,hw,rfl⟩:=Za.1 hx;exact Dp.pb (hc.l w hw).p.dp) (by simp; omega)
  exact ed tt [] [0] [.f (by simp [hw]),.c [] cs] rfl trivial
theorem Zko {T:Nat} {c:Cr} {r0 r1:List (List LV)} {x:Ct} {at_:Tm} {w:Wt} (hc:CrOk c) (hx:Cp x.p) (ha:Va at_) (h:Ll c.l x at_=some w):Ht Tryz.prog 161 [.one (.ow 0 0),.agg (Qep x),.agg (ta at_)] [.blk T (M3 c r0 r1)] [.agg (wl w)] [.blk T (M3 c r0 r1)]:=by
 have hk:=hc.k;have hw:=Nx c.l;refine Gm Tryz.func161 rfl ?_;refine go tt [] rfl trivial ?_;refine lp (S:=Nat) 4 (λL1 i=>(14,.v (.one (.int .i64 (i:Int))))::L1) (λ_=>[.blk T (M3 c r0 r1),.blk 99 (Qep x),.blk 79 (ta at_),.blk 146 [.int .i64 0,.int .i64 0,.int .i64 0,.int .i64 0,.int .i64 0,.nils,.int .i64 0,.bool false,.bool false,.nils,.bool false,.nils,.bool false,.nils,.bool false,.nils,.bool false,.nils]]) (λi=>c.l.length-i) (λi=>i<=c.l.length/\Ll (c.l.drop i) x at_=some w) 0 ⟨Qh _,h⟩ rfl (λ_ _=>rfl) rfl λi ⟨hi,hf⟩=>?_
 by_cases hlt:i<c.l.length
 ·obtain ⟨v,hv⟩:=gxE (l:=c.l) (i:=i) hlt;have hdr:c.l.drop i=v::c.l.drop (i+1):=by
   rw [Zl hlt]; congr 1;have:=Qe hlt; rw [hv] at this; injection this with this; exact this.symm
  have hvo:=hc.l v (Qa hv);rw [hdr] at hf;simp only [Ll] at hf;have hl:decide ((i:Int)<((Og c.l).length:Int))=true:=by simp [hw]; omega
  by_cases A:Zcn v.c x=true
  ·have A':(!decide ([v.c.kind,v.c.i0,v.c.i1,v.c.i2,v.c.i3]=[x.kind,x.i0,x.i1,x.i2,x.i3]))=false:=by
    unfold Zcn at A; rw [A]; rfl
   by_cases B:v.known=true
   ·have B':(!v.known)=false:=by rw [B]; rfl
    have cs:=Qpz (p:=v.c.p) (q:=x.p) (Dp.pb hvo.p.dp).ln (Dp.pb hx.dp).ln (Dp.pb hvo.p.dp).bd (Dp.pb hx.dp).bd;rw [hvo.p.t,hx.t] at cs;by_cases C:v.c.p=x.p
    ·have C':(!decide (v.c.p=x.p))=false:=by simp [C]
     rw [if_pos ⟨A,B,C⟩] at hf;obtain ⟨vc,vk,vf⟩:=v;cases vf with
     |
      none =>
      injection hf with hf; subst hf;exact ed tt [] [0] [.t hl,.x (Ti hv),.g 24 false A',.g 29 false B',.c [] cs,.f C',.g 41 true rfl,.t rfl] rfl trivial
     |
      some t =>
      obtain ⟨r,r1',hf⟩:=Qf.1 hf;have cc:=Qjw (hvo.f t rfl).tb ha.tb r1';by_cases D:0<r
      ·rw [if_pos D] at hf;injection hf with hf; subst hf;exact ed tt [] [0] [.t hl,.x (Ti hv),.g 24 false A',.g 29 false B',.c [] cs,.f C',.g 41 false rfl,.c [] cc,.t (by simpa using D)] rfl trivial
      ·rw [if_neg D] at hf;refine go tt [.t hl,.x (Ti hv),.g 24 false A',.g 29 false B',.c [] cs,.f C',.g 41 false rfl,.c [] cc,.f (by simpa using D)] rfl (by simp [Ui]; omega) ?_;exact rd (i+1) (by omega) ⟨hlt,hf⟩ rfl
    ·rw [if_neg λh=>C h.2.2] at hf;refine go tt [.t hl,.x (Ti hv),.g 24 false A',.g 29 false B',.c [] cs,.t (by simp [C])] rfl (by simp [Ui]; omega) ?_;exact rd (i+1) (by omega) ⟨hlt,hf⟩ rfl
   ·rw [if_neg λh=>B h.2.1] at hf;refine go tt [.t hl,.x (Ti hv),.g 24 false A',.g 29 true (by simpa using B),.t rfl] rfl (by simp [Ui]; omega) ?_;exact rd (i+1) (by omega) ⟨hlt,hf⟩ rfl
  ·rw [if_neg λh=>A h.1] at hf;refine go tt [.t hl,.x (Ti hv),.g 24 true (by rw [show decide ([v.c.kind,v.c.i0,v.c.i1,v.c.i2,v.c.i3]=[x.kind,x.i0,x.i1,x.i2,x.i3])=false from Bool.eq_false_iff.2 A]; rfl),.g 29 true rfl,.t rfl] rfl (by simp [Ui]; omega) ?_;exact rd (i+1) (by omega) ⟨hlt,hf⟩ rfl
 ·obtain rfl:i=c.l.length:=by omega
  rw [Vz] at hf;simp only [Ll] at hf;injection hf with hf; subst hf;exact ed tt [] [0] [.f (by simp [hw])] rfl trivial
theorem Qef {old:List Wt} {at_:Tm}:∀ {l:List Ct} {ws:List Wt},Qee old at_ l=some ws->ws.length=l.length/\∀ (i:Nat) (x:Ct),l[i]? = some x->∃ w,Ll old x at_=some w/\ws[i]? = some w
 | [],ws,h=>by injection h with h; subst h; exact ⟨rfl,λi x hx=>by simp at hx⟩
 |
  y::l,ws,h=>by
  simp only [Qee] at h;obtain ⟨w,hw,h⟩:=Qf.1 h;obtain ⟨r,hr,h⟩:=Qf.1 h;injection h with h; subst h;obtain ⟨a,b⟩:=Qef hr;refine ⟨by simp [a],λi x hx=>?_⟩;cases i with
  | zero=>injection hx with hx; subst hx; exact ⟨w,hw,rfl⟩
  | succ i=>exact b i x (by simpa using hx)
theorem Qhe {l:List Wt} {i:Nat} {w:Wt} (h:l[i]? = some w):Og (l.take (i+1))=Og (l.take i)++[wl w]:=by
 rw [Zw,h]; simp [Og]
theorem Zex {T:Nat} {c:Cr} {r0 r1:List (List LV)} {at_:Tm} {l:List Ct} {ws:List Wt} (hc:CrOk c) (ha:Va at_) (hl:∀ x∈l,Cp x.p) (hn:l.length≤1000) (h:Qee c.l at_ (G5 l)=some ws):Ht Tryz.prog 116 [.one (.ow 0 0),.agg (ta at_),.one (.bool true),.one (.row (Fa l))] [.blk T (M3 c r0 r1)] [] [.blk T (M3 ⟨at_,ws,c.ev⟩ r0 r1)]:=by
 have cs:=Qxi (l:=l) (λx hx=>Dp.pb (hl x hx).dp) (by omega);have cl:=Af (b:=at_) (l:=[]) ha.tb (λt ht=>by cases ht) (by decide) rfl;obtain ⟨h1,h2⟩:=Qef h;have hs:(G5 l).length=l.length:=D4 l;refine Gm Tryz.func116 rfl ?_;refine go tt [.o 8 146 18,.c [] cs] rfl trivial ?_;refine lp (S:=Nat) 3 (λL1 i=>(15,.v (.one (.int .i64 (i:Int))))::(8,.v (.one (.orow 2 18 none)))::L1) (λi=>[.blk T (M3 c r0 r1),.blk 79 (ta at_),.row false 146 18 (Og (ws.take i))]) (λi=>ws.length-i) (λi=>i<=ws.length) 0 (Qh _) rfl (λ_ _=>rfl) rfl λi hi=>?_
 by_cases hlt:i<ws.length
 ·obtain ⟨x,hx⟩:=gxE (l:=(G5 l)) (i:=i) (by omega);obtain ⟨w,hw,hw'⟩:=h2 i x hx;have hm:∀ y∈[wl w],y.length=18:=λy hy=>by rw [Ql.1 hy]; rfl
  have hlt':decide ((i:Int)<((Fa (G5 l)).length:Int))=true:=by simp [Fa]; omega
  have ck:=Zko (T:=T) (r0:=r0) (r1:=r1) hc (hl x (Qg8 (Qa hx))) ha hw;have hg:=Qhe hw';obtain ⟨wc,wk,wf⟩:=w;cases wf <;> (refine go tt [.t hlt',.x (Qcx hx),.t rfl,.c [0] ck,.s (sz:=18) hm] rfl (by simp [Ui,Nx]; omega) ?_; exact rd (i+1) (by omega) hlt (by rw [hg]; rfl))
 ·obtain rfl:i=ws.length:=by omega
  rw [Q4];have hge:decide ((ws.length:Int)<((Fa (G5 l)).length:Int))=false:=by simp [Fa]; omega
  exact ed tt [] [0] [.f hge,.p 2,.c [] cl] rfl trivial
abbrev crz (r0 r1:LV):List LV:=[.bool false,.nils,.bool false,.nils,.bool false,.nils,.bool false,.nils,.bool false,.nils,.nils,.int .i64 0,r0,r1]
theorem Zew {T:Nat} {r0 r1:List (List LV)} {at_:Tm} {l:List Ct} (ha:Va at_) (hl:∀ x∈l,Cp x.p) (hn:l.length≤1000):Ht Tryz.prog 116 [.one (.ow 0 0),.agg (ta at_),.one (.bool false),.one (.row (Fa l))] [.blk T (crz (.row r0) (.row r1))] [] [.blk T (M3 ⟨at_,(G5 l).map fresh,0⟩ r0 r1)]:=by
 have cs:=Qxi (l:=l) (λx hx=>Dp.pb (hl x hx).dp) (by omega);have cl:=Af (b:=at_) (l:=[]) ha.tb (λt ht=>by cases ht) (by decide) rfl;have hs:(G5 l).length=l.length:=D4 l;refine Gm Tryz.func116 rfl ?_;refine go tt [.o 8 146 18,.c [] cs] rfl trivial ?_;refine lp (S:=Nat) 3 (λL1 i=>(15,.v (.one (.int .i64 (i:Int))))::(8,.v (.one (.orow 2 18 none)))::L1) (λi=>[.blk T (crz (.row r0) (.row r1)),.blk 79 (ta at_),.row false 146 18 (Og (((G5 l).map fresh).take i))]) (λi=>l.length-i) (λi=>i<=l.length) 0 (Qh _) rfl (λ_ _=>rfl) rfl λi hi=>?_
 by_cases hlt:i<l.length
 ·obtain ⟨x,hx⟩:=gxE (l:=(G5 l)) (i:=i) (by omega);have hm:∀ y∈[wl (fresh x)],y.length=18:=λy hy=>by rw [Ql.1 hy]; rfl
  have hlt':decide ((i:Int)<((Fa (G5 l)).length:Int))=true:=by simp [Fa]; omega
  have hg:=Qhe (l:=(G5 l).map fresh) (i:=i) (w:=fresh x) (by rw [Q9,hx]; rfl);refine go tt [.t hlt',.x (Qcx hx),.z 20,.f rfl,.s (sz:=18) hm] rfl (by simp [Ui,Nx]; omega) ?_;exact rd (i+1) (by omega) hlt (by rw [hg]; rfl)
 ·obtain rfl:i=l.length:=by omega
  rw [Qk (by simp; omega)];have hge:decide ((l.length:Int)<((Fa (G5 l)).length:Int))=false:=by simp [Fa]; omega
  exact ed tt [] [0] [.f hge,.p 2,.c [] cl] rfl trivial
theorem Q4d {T:Nat} {r0 r1:List (List LV)} {at_:Tm} {l:List Ct} (ha:Va at_) (hl:∀ x∈l,Cp x.p) (hn:l.length≤1000):Ht Tryz.prog 97 [.one (.ow 0 0),.agg (ta at_),.one (.row (Fa l))] [.blk T (crz (.row r0) (.row r1))] [] [.blk T (M3 ⟨at_,(G5 l).map fresh,0⟩ r0 r1)]:=by
 have cl:=Zew (T:=T) (r0:=r0) (r1:=r1) ha hl hn;refine Gm Tryz.func97 rfl ?_;exact ed tt [] [0] [.g 12 false rfl,.c [0] cl] rfl trivial
theorem eB {a b:Bool} (h:a=b):TV.one (LV.bool a)=.one (.bool b):=h ▸ rfl
theorem Qi3:∀ {k:Nat} {g:List Int} {l:List (List Int)},Pb g->Qgp k g=some l->l.length≤k/\∀ p∈l,Pb p
 | 0,_,_,_,h=>by cases h
 |
  k+1,g,l,hg,h=>by
  simp only [Qgp] at h
  split at h
  ·injection h with h; subst h; exact ⟨by simp,λp hp=>by cases hp⟩
  ·obtain ⟨d,hd,h⟩:=Qf.1 h;obtain ⟨rfl,hdp⟩:=Qln hd;obtain ⟨x,hx,h⟩:=Qf.1 h;obtain ⟨q,hq,h⟩:=Qf.1 h;obtain ⟨r,hr,h⟩:=Qf.1 h;injection h with h; subst h;obtain ⟨i1,i2⟩:=Qi3 (Qgy hg hdp hx) hr;refine ⟨by simp; exact i1,λp hp=>?_⟩;rcases Qp.1 hp with rfl | hp
   ·exact Qy5 hq
   ·exact i2 p hp
theorem Q8c {a:List Int} {l:List (List Int)} (ha:Pb a) (h:Qgp 66 (Uq a)=some l):Uk Tryz.prog 284 [pr a] [.one (.row (Sx l))]:=by
 have hp:=Hr ha;refine Gm Tryz.func284 rfl ?_;refine go tt [.o 3 52 1,.c [] (Ee ha)] rfl trivial ?_;refine lp (S:=Nat×List (List Int)×List Int) 1 (λL1 s=>(4,.v (pr s.2.2))::(3,.v (.one (.orow 0 1 none)))::L1) (λs=>[.row false 52 1 (Sx s.2.1)]) (λs=>s.1) (λs=>Pb s.2.2/\s.2.1.length+s.1<=66/\∃ m,Qgp s.1 s.2.2=some m/\s.2.1++m=l) (66,[],Uq a) ⟨hp,Qm _,l,h,rfl⟩ rfl (λ_ _=>rfl) rfl λ⟨k,out,g⟩ ⟨j1,j2,m,j3,j4⟩=>?_
 dsimp only at j1 j2 j3 j4 ⊢;cases k with
 | zero=>cases j3
 |
  succ k =>
  simp only [Qgp] at j3
  split at j3
  ·rename_i h0;injection j3 with j3; subst j3;rw [Xi] at j4;subst j4;exact en tt [.c [] (Mz _),.f (by simp; omega)] rfl rfl trivial
  ·rename_i h0;obtain ⟨d,hd,j3⟩:=Qf.1 j3;obtain ⟨rfl,hdp⟩:=Qln hd;obtain ⟨x,hx,j3⟩:=Qf.1 j3;obtain ⟨q,hq,j3⟩:=Qf.1 j3;obtain ⟨r,hr,j3⟩:=Qf.1 j3;injection j3 with j3; subst j3;have hxp:=Qgy j1 hdp hx;refine go tt [.c [] (Mz _),.t (by simp; omega),.c [] (Ag j1.ln j1.bd),.c [] (Q1c j1 hdp hx),.c [] (Q8k j1 hxp hq),.s (sz:=1) (l:=[[pl q]]) (λc hc=>by rw [Ql.1 hc]; rfl)] rfl (by simp [Ui,Dy]; omega) ?_;exact rd (k,out++[q],x) (by dsimp only; omega) ⟨hxp,by simp; omega,r,hr,by rw [<-j4]; simp⟩ (by rw [Qlq]; rfl)
theorem Qks:∀ {l r:List (List Int)},Qmw l=some r->r.length=l.length/\∀ i w,l[i]? = some w->(match l[i+1]? with | some v=>∃ f,Qav w v=some f/\r[i]? = some f | none=>r[i]? = some w)
 | [],r,h=>by injection h with h; subst h; exact ⟨rfl,λi w hw=>by simp at hw⟩
 |
  [w],r,h=>by
  injection h with h; subst h;refine ⟨rfl,λi x hx=>?_⟩;cases i with
  | zero=>simpa using hx
  | succ i=>simp at hx
 |
  w::v::l,r,h=>by
  simp only [Qmw] at h;obtain ⟨f,hf,h⟩:=Qf.1 h;obtain ⟨s,hs,h⟩:=Qf.1 h;injection h with h; subst h;obtain ⟨i1,i2⟩:=Qks hs;refine ⟨by simp [i1],λi x hx=>?_⟩;cases i with
  |
   zero =>
   injection hx with hx; subst hx;exact ⟨f,hf,rfl⟩
  |
   succ i =>
   have:=i2 i x (by simpa using hx);simpa using this
theorem Qqo:∀ {l r:List (List Int)},(∀ p∈l,Pb p)->Qmw l=some r->∀ p∈r,Pb p
 | [],r,_,h=>by injection h with h; subst h; exact λp hp=>by cases hp
 | [w],r,hl,h=>by injection h with h; subst h; exact hl
 |
  w::v::l,r,hl,h=>by
  simp only [Qmw] at h;obtain ⟨f,hf,h⟩:=Qf.1 h;obtain ⟨s,hs,h⟩:=Qf.1 h;injection h with h; subst h;intro p hp;rcases Qp.1 hp with rfl | hp
  ·exact Qy5 hf
  ·exact Qqo (λp hp=>hl p (Qj _ hp)) hs p hp
theorem Q4c {a:List Int} {l r:List (List Int)} (ha:Pb a) (h:Qgp 66 (Uq a)=some l) (hr:Qmw l=some r):Uk Tryz.prog 256 [pr a] [.one (.row (Sx r))]:=by
 obtain ⟨i1,i2⟩:=Qi3 (Hr ha) h;obtain ⟨j1,j2⟩:=Qks hr;have hw:=Dy l;refine Gm Tryz.func256 rfl ?_;refine go tt [.c [] (Q8c ha h),.i (Sx l).length,.i (Sx l).length] rfl (by simp [Ui,hw]; omega) ?_;rw [hw,Lh λi=>[pl (r.getD i [])]];refine lp (S:=Nat) 1 (λL1 k=>(14,.v (.one (.int .i64 (k:Int))))::L1) (λk=>[.row false 52 1 (fil (λi=>[pl (r.getD i [])]) [.nils] l.length k)]) (λk=>l.length-k) (λk=>k<=l.length) 0 (Qh _) rfl (λ_ _=>rfl) rfl λk hk=>?_
 by_cases hlt:k<l.length
 ·obtain ⟨w,hx⟩:=gxE (l:=l) (i:=k) hlt;have e:=Iy (λi=>[pl (r.getD i [])]) [.nils] hlt;have hg:=j2 k w hx;by_cases h2:k+1<l.length
  ·obtain ⟨v,hv⟩:=gxE (l:=l) (i:=k+1) h2;rw [hv] at hg;obtain ⟨f,f1,f2⟩:=hg;have e2:r.getD k []=f:=by rw [Qg,f2]; rfl
   rw [e2] at e;refine go tt [.t (by simp [hw]; omega),.x (Ro hx),.i k,.t (by simp [hw]; omega),.x (i:=k+1) (Ro hv),.c [] (Q8k (i2 w (Qa hx)) (i2 v (Qa hv)) f1),.i k] rfl (by simp [Ui,Eo,hw]; omega) ?_;rw [List.set_set,e];exact rd (k+1) (by omega) hlt rfl
  ·have hv:l[k+1]? = none:=Qt (by omega);rw [hv] at hg;have e2:r.getD k []=w:=by rw [Qg,hg]; rfl
   rw [e2] at e;refine go tt [.t (by simp [hw]; omega),.x (Ro hx),.i k,.f (by simp [hw]; omega)] rfl (by simp [Ui,Eo,hw]; omega) ?_;rw [e];exact rd (k+1) (by omega) hlt rfl
 ·obtain rfl:k=l.length:=by omega
  have e:fil (λi=>[pl (r.getD i [])]) [.nils] l.length l.length=Sx r:=by
   rw [Ix,<-j1];refine Xt λi=>?_
   simp only [Sx,Q9];by_cases hi:i<r.length
   ·rw [X3 hi]; simp [Qg,Qe hi]
   ·rw [Qt (by simpa using hi),Qt (by simpa using hi)]; rfl
  rw [e];exact en tt [.f (by simp [hw])] rfl rfl trivial
theorem Qzb {p:List Int} (tp:Uo p):Uq (Uq p)=Uq p:=by
 by_cases h:p.length=0
 ·have e:Uq p=[]:=by unfold Uq; rw [if_pos h]
  rw [e]; rfl
 ·obtain ⟨h1,h2,h3,h4,_⟩:=Td tp h;have hc:Rk (Uq p)=1:=by
   have h5:Rk (Uq p)∣1:=h3 _ λk=>by
    by_cases hk:k<(Uq p).length
    ·rw [Qg,Qe hk]; exact Dx _ (Xw hk)
    ·rw [Qg,Qt (by omega)]; exact Int.dvd_zero _
   have h6:0<=Rk (Uq p):=by unfold Rk; omega
   exact Int.eq_one_of_dvd_one h6 h5
  have hf:∀ q:List Int,0<Ux q->Fy q=Rk q:=λq hq=>by unfold Fy; rw [if_neg (by omega)]
  have hf:=(hf _ h4).trans hc;have e0:∀ q:List Int,q.length≠0->Uq q=Bm q (Fy q):=λq hq=>by unfold Uq; rw [if_neg hq]
  have e:=e0 (Uq p) (by omega);rw [hf] at e;rw [e];unfold Bm;have e2:(Uq p).map (· / (1:Int))=Uq p:=by
   conv=>rhs; rw [<-List.map_id (Uq p)]
   exact Ju λz _=>by simp
  rw [e2];exact h1
theorem Q3r (i:Nat):(i:Int).tmod 2=((i % 2:Nat):Int):=rfl
theorem Zkt {a:List Int} (ha:Pb a) (h:(Uq a).length=0):Uk Tryz.prog 222 [pr a] [pr []] :=
 w tt Tryz.func222 rfl [.c [] (Ee ha),.t (by simp [Qi h])] rfl rfl trivial
theorem Qbt:∀ {l:List (List Int)} {i:Nat} {p o:List Int},Pb p->(∀ f∈l,Pb f)->Qeo i p l=some o->Pb o
 | [],i,p,o,hp,_,h=>by simp only [Qeo] at h; injection h with h; subst h; exact hp
 |
  f::l,i,p,o,hp,hl,h=>by
  simp only [Qeo] at h
  split at h
  ·obtain ⟨q,hq,h⟩:=Qf.1 h;obtain ⟨rfl,hq'⟩:=Il (Gu _ _) hq;exact Qbt hq' (λf hf=>hl f (Qj _ hf)) h
  ·exact Qbt hp (λf hf=>hl f (Qj _ hf)) h
theorem Zbg:Pb [1]:=⟨rfl,by decide,λz hz=>by rw [Ql.1 hz]; decide⟩
theorem Znu {a o:List Int} (ha:Pb a) (h:Qy8 a=some o):Uk Tryz.prog 222 [pr a] [pr o]:=by
 unfold Qy8 at h
 split at h
 ·rename_i h0;injection h with h; subst h;exact Zkt ha h0
 rename_i h0;obtain ⟨l,hl,h⟩:=Qf.1 h;obtain ⟨fs,hf,h⟩:=Qf.1 h;have hpa:=Hr ha;have hl':Qgp 66 (Uq (Uq a))=some l:=by rw [Qzb ha.t]; exact hl
 obtain ⟨i1,i2⟩:=Qi3 (Hr ha) hl;have i3:=Qqo i2 hf;obtain ⟨j1,_⟩:=Qks hf;have hw:=Dy fs;have co:=Q0y (p:=[1]) (by decide) (λz hz=>by rw [Ql.1 hz]; decide);rw [show trim [1]=[1] from rfl] at co;refine Gm Tryz.func222 rfl ?_;refine go tt [.c [] (Ee ha),.f (by simpa using h0),.c [] co,.c [] (Q4c hpa hl' hf)] rfl (by simp [Ui]) ?_;refine lp (S:=Nat×List Int) 0 (λL1 s=>(16,.v (.one (.int .i64 (s.1:Int))))::(3,.v (pr s.2))::L1) (λ_=>[]) (λs=>fs.length-s.1) (λs=>s.1<=fs.length/\Pb s.2/\Qeo s.1 s.2 (fs.drop s.1)=some o) (0,[1]) ⟨Qh _,Zbg,h⟩ rfl (λ_ _=>rfl) rfl λ⟨i,p⟩ ⟨k1,k2,k3⟩=>?_
 dsimp only at k1 k2 k3 ⊢;by_cases hlt:i<fs.length
 ·obtain ⟨f,hx⟩:=gxE (l:=fs) (i:=i) hlt;have hdr:fs.drop i=f::fs.drop (i+1):=by
   rw [Zl hlt]; congr 1;have:=Qe hlt; rw [hx] at this; injection this with this; exact this.symm
  rw [hdr] at k3;simp only [Qeo] at k3;have pf:=i3 f (Qa hx);by_cases h2:i % 2=0
  ·rw [if_pos h2] at k3;obtain ⟨q,hq,k3⟩:=Qf.1 k3;obtain ⟨rfl,hq'⟩:=Il (Gu _ _) hq;refine go tt [.t (by simp [hw]; omega),.x (Ro hx),.t (by rw [Q3r,h2]; rfl),.c [] (Qpx k2.t pf.t (Zv k2.l (by decide)) (Zv pf.l (by decide)) k2.b pf.b (by decide))] rfl (by simp [Ui]; omega) ?_;exact rd (i+1,U5 p f) (by dsimp only; omega) ⟨hlt,hq',k3⟩ rfl
  ·rw [if_neg h2] at k3;refine go tt [.t (by simp [hw]; omega),.x (Ro hx),.f (by rw [Q3r,show i % 2=1 by omega]; rfl)] rfl (by simp [Ui]; omega) ?_;exact rd (i+1,p) (by dsimp only; omega) ⟨hlt,k2,k3⟩ rfl
 ·obtain rfl:i=fs.length:=by omega
  rw [Vz] at k3;simp only [Qeo] at k3;injection k3 with k3; subst k3;exact en tt [.f (by simp [hw])] rfl rfl trivial
theorem I2 (z:Int):Uv (z.natAbs:Int)=Uv z:=by unfold Uv; simp
theorem Q73 {x y:LV} {z:Int} (hi:Hu x y z) (hs:Uv z<=4294967295):Uk Tryz.prog 280 [.agg [x,y]] [.agg (Gk (z.natAbs:Int))]:=by
 obtain ⟨b,l,rfl,rfl,hl,rfl⟩:=hi;have e:(Us false (val l))=((Us b (val l)).natAbs:Int):=by rw [Hp]; rfl
 rw [<-e];exact w tt Tryz.func280 rfl [.c [] (Qcs hl (Qc (Sj hs) (by decide))),.c [] (So _ _)] rfl rfl trivial
theorem Zfl {n d:Int} (h0:d≠0) (hn:Uv n<=4294967295) (hd:Uv d<=4294967295):Uk Tryz.prog 281 [.agg (Gk n),.agg (Gk d)] [.agg (rl (Rat.divInt n d)),.one (.int .i64 0)] :=
 w tt Tryz.func281 rfl [.c [] (Dd (Ul d) hd),.c [] Ex,.f (by simpa using h0),.c [] (Dd (Ul n) hn),.c [] (O3 h0 hn hd)] rfl rfl trivial
theorem Q5h (l:List Int) (z:Int):most (l++[z])=if most l<z.natAbs then z.natAbs else most l:=by unfold most; rw [List.foldl_append]; rfl
theorem Q2s {s:Nat}:∀ {l:List Int},Bd s l->Uv (most l:Int)<=s:=λ{l}=>by
 suffices h:∀ (l:List Int) (m:Nat),Bd s l->Uv (m:Int)<=s->Uv ((l.foldl (λm z=>if m<z.natAbs then z.natAbs else m) m:Nat):Int)<=s from λhb=>h l 0 hb (by simp [Uv,sz])
 intro l
 induction l with
 | nil=>exact λm _ h=>h
 |
  cons z l ih =>
  intro m hb hm;refine ih _ (λy hy=>hb y (Qj _ hy)) ?_;show Uv ((if m<z.natAbs then z.natAbs else m:Nat):Int)<=s
  split
  ·rw [I2]; exact hb z (Qr ..)
  ·exact hm
def ozi:Option Nat->List LV
 | none=>[.bool false,.nils]
 | some m=>Gk (m:Int)
def ozr:Option Nat->List LV
 | none=>[.bool false,.row []]
 | some m=>Gk (m:Int)
theorem Zes {p:List Int} (hp:Pb p) (h0:p.length≠0):Uk Tryz.prog 252 [pr p] [.agg (rl (Fz p)),.one (.int .i64 0)]:=by
 have hl:=hp.l;have hll:(p.take (p.length-1)).length=p.length-1:=by simp
 have hbt:Bd 16777216 (p.take (p.length-1)):=λz hz=>hp.b z (Qn hz)
 refine Gm Tryz.func252 rfl ?_;refine go tt [.c [] (G8 hp.t hp.ln hp.bd),.f (by simpa using h0),.r 18 (eI (b:=((p.length-1:Nat):Int)) (by simp; omega)),.i (p.length-1)] rfl (by simp [Ui]; omega) ?_;rw [<-Yn];refine lp (S:=Nat×Option Nat) 2 (λL1 s=>(21,.v (.one (.int .i64 (s.1:Int))))::L1) (λs=>[.blk 74 [.bool false,.nils,.bool false,.nils],.blk 55 (ozi s.2)]) (λs=>p.length-1-s.1) (λs=>s.1<=p.length-1/\most ((p.take (p.length-1)).take s.1)=s.2.getD 0) (0,none) ⟨Qh _,rfl⟩ rfl (λ_ _=>rfl) rfl λ⟨i,o⟩ ⟨j1,j2⟩=>?_
 dsimp only at j1 j2 ⊢;by_cases hlt:i<p.length-1
 ·obtain ⟨z,hz⟩:=gxE (l:=(p.take (p.length-1))) (i:=i) (by omega);have bz:Uv z<=16777216:=hbt z (Qa hz);have hst:most ((p.take (p.length-1)).take (i+1))=if o.getD 0<z.natAbs then z.natAbs else o.getD 0:=by
   rw [Zw,hz]; show most (_++[z])=_; rw [Q5h,j2]
  have ca:=Q73 (Ul z) (Qc bz (by decide));have hl1:decide ((i:Int)<(((p.take (p.length-1)).map Gk).length:Int))=true:=by simp; omega
  have bm:Uv ((o.getD 0:Nat):Int)<=16777216:=by rw [<-j2]; exact Q2s λy hy=>hbt y (Qn hy)
  have hcm:Na (z.natAbs:Int) ((o.getD 0:Nat):Int)>0↔o.getD 0<z.natAbs:=by unfold Na; split <;> (try split) <;> omega
  have cc:Uk Tryz.prog 165 [.agg (Gk (z.natAbs:Int)),.agg (ozr o)] [.one (.int .i64 (Na (z.natAbs:Int) ((o.getD 0:Nat):Int)))]:=by
   cases o with
   | none=>exact Qf2 (Ul _) Bw (by rw [I2]; omega) (by decide)
   | some m=>exact Qf2 (Ul _) (Ul _) (by rw [I2]; omega) (Qc bm (by decide))
  by_cases hc:o.getD 0<z.natAbs
  ·rw [if_pos hc] at hst;have hd:decide (Na (z.natAbs:Int) ((o.getD 0:Nat):Int)>0)=true:=by simpa using hcm.2 hc
   cases o <;> (refine go tt [.t hl1,.x (Gh (f:=Gk) hz),.c [] ca,.c [] cc,.t hd] rfl (by simp [Ui]; omega) ?_; exact rd (i+1,some z.natAbs) (by dsimp only; omega) ⟨hlt,hst⟩ rfl)
  ·rw [if_neg hc] at hst;have hd:decide (Na (z.natAbs:Int) ((o.getD 0:Nat):Int)>0)=false:=by
    have:=mt hcm.1 hc; simpa using this
   cases o with
   | none=>refine go tt [.t hl1,.x (Gh (f:=Gk) hz),.c [] ca,.c [] cc,.f hd] rfl (by simp [Ui]; omega) ?_; exact rd (i+1,none) (by dsimp only; omega) ⟨hlt,hst⟩ rfl
   | some m=>refine go tt [.t hl1,.x (Gh (f:=Gk) hz),.c [] ca,.c [] cc,.f hd] rfl (by simp [Ui]; omega) ?_; exact rd (i+1,some m) (by dsimp only; omega) ⟨hlt,hst⟩ rfl
 ·obtain rfl:i=p.length-1:=by omega
  rw [Qk (by omega)] at j2;have bl:Uv (Ux p)<=16777216:=hp.b _ (Qlc h0);have ln:((Ux p).natAbs:Int)≠0:=by have:=Cc hp.t h0; omega
  have cl:=B7 hp.t hp.ln hp.bd;have ca:=Q73 (Ul (Ux p)) (Qc bl (by decide));have bm:Uv ((o.getD 0:Nat):Int)<=16777216:=by rw [<-j2]; exact Q2s hbt
  have cd:Uk Tryz.prog 239 [.agg (Gk ((Ux p).natAbs:Int)),.agg (ozr o)] [.agg (Gk (((Ux p).natAbs:Int)+(most (p.take (p.length-1)):Int)))]:=by
   rw [j2];cases o with
   | none=>exact Qct (Ul _) Bw (by rw [I2]; omega) (by decide)
   | some m=>exact Qct (Ul _) (Ul _) (by rw [I2]; omega) (Qc bm (by decide))
  have cm:=Zfl (n:=((Ux p).natAbs:Int)+(most (p.take (p.length-1)):Int)) ln (Qc (I3 _ _) (by rw [I2,j2]; omega)) (by rw [I2]; omega);have hf:decide (((p.length-1:Nat):Int)<(((p.take (p.length-1)).map Gk).length:Int))=false:=by simp
  cases o <;> exact en tt [.f hf,.c [] cl,.c [] ca,.c [] cd,.c [] cm] rfl rfl trivial
theorem Zi8 {z:Int}:Uk Tryz.prog 296 [.agg (Gk z)] [.one (.int .i64 (Int.sign z))]:=by
 by_cases h0:z=0
 ·subst h0;exact w tt Tryz.func296 rfl [.t (by simp [Um,Gd])] rfl rfl trivial
 ·have hl:(U8 z.natAbs).length≠0:=λh=>h0 (Q5d.1 h)
  have hl':decide (((lm (U8 z.natAbs)).length:Int)=0)=false:=by simpa [Um] using hl
  by_cases h1:z<0
  ·rw [X4 h1];exact w tt Tryz.func296 rfl [.f hl',.t (by simpa using h1)] rfl rfl trivial
  ·rw [Jf (by omega)];exact w tt Tryz.func296 rfl [.f hl',.f (by simpa using h1)] rfl rfl trivial
theorem Q7c {p:List Int} (hp:Pb p):Uk Tryz.prog 294 [pr p] [.one (.int .i64 (Ou p)),.one (.int .i64 (Qd6 p))]:=by
 have hb:-1<=(Ux p).sign/\(Ux p).sign<=1:=by rcases Lx (Ux p) with h | h | h <;> omega
 by_cases h:p.length % 2=0
 ·have e:Ou p=-(Ux p).sign:=by unfold Ou; rw [if_pos h]
  rw [e];exact w tt Tryz.func294 rfl [.c [] (G8 hp.t hp.ln hp.bd),.c [] (B7 hp.t hp.ln hp.bd),.c [] Zi8,.t (by rw [Q3r]; simp [h])] rfl rfl (by simp [Ui,Ux] at hb ⊢; omega)
 ·have e:Ou p=(Ux p).sign:=by unfold Ou; rw [if_neg h]
  rw [e];exact w tt Tryz.func294 rfl [.c [] (G8 hp.t hp.ln hp.bd),.c [] (B7 hp.t hp.ln hp.bd),.c [] Zi8,.f (by rw [Q3r]; simp; omega)] rfl rfl (by simp [Ui])
theorem Q8e {p:List Int} (hp:Pb p):Uk Tryz.prog 293 [pr p] [.one (.int .i64 (Ou p))]:=w tt Tryz.func293 rfl [.c [] (Q7c hp)] rfl rfl trivial
theorem Zfg {p:List Int} (hp:Pb p):Uk Tryz.prog 295 [pr p] [.one (.int .i64 (Qd6 p))]:=w tt Tryz.func295 rfl [.c [] (Q7c hp)] rfl rfl trivial
theorem Zk0 {q:Rat} (hq:Qs 4294967295 q):Uk Tryz.prog 254 [.agg (rl q)] [.agg (rl (-q))]:=by
 exact w tt Tryz.func254 rfl [.c [] (Qj9 hq),.c [] (Qjz (Ul _) hq.1)] rfl rfl trivial
theorem Qte {l:List (List Int)} {fid:Nat} {sg:List Int->Int} (hl:l.length≤1000) (hs:∀ p,-1≤sg p/\sg p≤1) (h:∀ p∈l,Uk Tryz.prog fid [pr p] [.one (.int .i64 (sg p))]):Uk Tryz.prog 290 [.one (.sh [.row (Sx l)]),.one (.fn fid [] [])] [.one (.int .i64 (Me sg l:Nat))]:=by
 have hpl:=Dy l;refine Gm Tryz.func290 rfl ?_;refine go tt [] rfl trivial ?_;refine lp (S:=Nat) 0 (λL1 i=>(15,.v (.one (.int .i64 (i:Int))))::(5,.v (.one (.int .i64 ((D6 sg l i).1:Int))))::(6,.v (.one (.int .i64 (D6 sg l i).2)))::L1) (λ_=>[]) (λi=>l.length-i) (λi=>i<=l.length) 0 (Qh _) rfl (λ_ _=>rfl) rfl λi hi=>?_
 by_cases hlt:i<l.length
 ·obtain ⟨p,hp⟩:=gxE (l:=l) (i:=i) hlt;have hst:D6 sg l (i+1)=Hz sg (D6 sg l i) p:=Hh _ _ _ hp;obtain ⟨b1,b2,b3⟩:=Qmk hs l i;have b4:=hs p;by_cases h0:sg p=0
  ·refine go tt [.t (by simp [hpl]; omega),.x (Ro hp),.c [] (h p (Qa hp)),.t (by simpa using h0)] rfl (by simp [Ui]; omega) ?_;exact rd (i+1) (by omega) hlt (by rw [hst,show Hz sg (D6 sg l i) p=D6 sg l i from by unfold Hz; rw [if_pos h0]]; rfl)
  ·by_cases h1:(D6 sg l i).2=-(sg p)
   ·refine go tt [.t (by simp [hpl]; omega),.x (Ro hp),.c [] (h p (Qa hp)),.f (by simpa using h0),.t (by simpa using h1)] rfl (by simp [Ui]; omega) ?_;exact rd (i+1) (by omega) hlt (by rw [hst,show Hz sg (D6 sg l i) p=((D6 sg l i).1+1,sg p) from by unfold Hz; rw [if_neg h0,if_pos h1]]; rfl)
   ·refine go tt [.t (by simp [hpl]; omega),.x (Ro hp),.c [] (h p (Qa hp)),.f (by simpa using h0),.f (by simpa using h1)] rfl (by simp [Ui]; omega) ?_;exact rd (i+1) (by omega) hlt (by rw [hst,show Hz sg (D6 sg l i) p=((D6 sg l i).1,sg p) from by unfold Hz; rw [if_neg h0,if_neg h1]]; rfl)
 ·obtain rfl:i=l.length:=by omega
  refine en tt [.f (by simp [hpl])] rfl ?_ trivial;unfold D6 Me; rw [List.take_length]
theorem Qf9 (p:List Int):(-1<=Ou p/\Ou p<=1)/\-1<=Qd6 p/\Qd6 p<=1:=by
 have hb:-1<=(Ux p).sign/\(Ux p).sign<=1:=by rcases Lx (Ux p) with h | h | h <;> omega
 unfold Ou Qd6
 split <;> omega
theorem Zet {l:List (List Int)} (hl:l.length≤1000) (hp:∀ p∈l,Pb p):Uk Tryz.prog 255 [.one (.sh [.row (Sx l)])] [.one (.int .i64 (Qa2 l))]:=by
 have c1:Uk Tryz.prog 282 [.one (.sh [.row (Sx l)])] [.one (.int .i64 (Me Ou l:Nat))] :=
  w tt Tryz.func282 rfl [.c [] (Qte hl (λp=>(Qf9 p).1) λp h=>Q8e (hp p h))] rfl rfl trivial
 have c2:Uk Tryz.prog 283 [.one (.sh [.row (Sx l)])] [.one (.int .i64 (Me Qd6 l:Nat))] :=
  w tt Tryz.func283 rfl [.c [] (Qte hl (λp=>(Qf9 p).2) λp h=>Zfg (hp p h))] rfl rfl trivial
 have b1:Me Ou l<=l.length:=Mf (λp=>(Qf9 p).1) l;have b2:Me Qd6 l<=l.length:=Mf (λp=>(Qf9 p).2) l;exact w tt Tryz.func255 rfl [.c [] c1,.c [] c2] rfl rfl (by simp [Ui]; omega)
theorem Qw0 {l:List (List Int)} {lo hi:Rat} (hl:l.length<=1000):-1000<=Hd l lo hi/\Hd l lo hi<=1000:=by
 have b1:S0 l lo<=l.length:=Mf (λp=>Np p lo) l;have b2:S0 l hi<=l.length:=Mf (λp=>Np p hi) l;unfold Hd; split <;> omega
abbrev tal (l:List Tm):List (List LV):=l.map λt=>ta t
theorem Qjb {p:List Int} {c:List (List Int)} (hp:Pb p):∀ {k:Nat} {lo hi:Rat} {n:Int} {r:List Tm},Qb lo->Qb hi->Lu p c k lo hi n=some r->∀ t∈r,Tb t
 | 0,_,_,_,_,_,_,h=>by cases h
 |
  k+1,lo,hi,n,r,hl,hh,h=>by
  simp only [Lu] at h
  split at h
  ·injection h with h; subst h; exact λt ht=>by cases ht
  ·split at h
   ·injection h with h; subst h;intro t ht; rw [Ql.1 ht]; exact ⟨hp,hl,hh⟩
   ·obtain ⟨m,hm,h⟩:=Qf.1 h;obtain ⟨rfl,qm⟩:=Qka hm;obtain ⟨x,hx,h⟩:=Qf.1 h;obtain ⟨y,hy,h⟩:=Qf.1 h;injection h with h; subst h;intro t ht;rcases Qw.1 ht with ht | ht
    ·exact Qjb hp hl qm hx t ht
    ·exact Qjb hp qm hh hy t ht
theorem Zmx (l:List Tm):∀ c∈tal l,c.length=9:=λc hc=>by obtain ⟨t,_,rfl⟩:=Za.1 hc; rfl
theorem Qxw {p:List Int} {c:List (List Int)} (hp:Pb p) (hcl:c.length≤1000) (hc:∀ q∈c,Pb q):∀ {k:Nat} {lo hi:Rat} {n:Int} {r:List Tm},Qb lo->Qb hi->k≤100000->-(1000*(100001-k:Nat))≤n/\n≤1000*(100001-k:Nat)->Lu p c k lo hi n=some r->r.length≤1000000->Ht Tryz.prog 253 [pr p,.one (.sh [.row (Sx c)]),.agg (rl lo),.agg (rl hi),.one (.int .i64 n)] [] [.one (.orow 0 9 none)] [.row false 79 9 (tal r)]
 | 0,_,_,_,_,_,_,_,_,h,_=>by cases h
 |
  k+1,lo,hi,n,r,hl,hh,hk,hn,h,hr=>by
  simp only [Lu] at h
  split at h
  ·rename_i h0;injection h with h; subst h;refine Gm Tryz.func253 rfl ?_;exact ed tt [] [2] [.t (by simpa using h0),.o 10 79 9] rfl trivial
  ·rename_i h0
   split at h
   ·rename_i h1;injection h with h; subst h;refine Gm Tryz.func253 rfl ?_;exact ed tt [] [2] [.f (by simpa using h0),.t (by simpa using h1),.c [] (G8 hp.t hp.ln hp.bd),.c [] (Ik hl.s32),.c [] (Ik hh.s32),.lo] rfl trivial
   ·rename_i h1;obtain ⟨m,hm,h⟩:=Qf.1 h;obtain ⟨rfl,qm⟩:=Qka hm;obtain ⟨x,hx,h⟩:=Qf.1 h;obtain ⟨y,hy,h⟩:=Qf.1 h;injection h with h; subst h;have hb:=Qw0 (l:=c) (lo:=lo) (hi:=Om lo hi) hcl;rw [Q7] at hr;have c1:=Qxw hp hcl hc hl qm (by omega) (by omega) hx (by omega);have c2:=Qxw hp hcl hc qm hh (by omega) (by omega) hy (by omega);rw [show tal (x++y)=tal x++tal y from Xv];refine Gm Tryz.func253 rfl ?_;exact ed tt [] [3] [.f (by simpa using h0),.f (by simpa using h1),.c [] (Zi6 hl hh),.c [] (Qm9 hcl hc hl qm),.c [3] c1,.c [4] c2,.s (Zmx y)] rfl (by simp [Ui]; omega)
theorem Ze1 {p:List Int} {r:List Tm} (hp:Pb p) (h:Ql2 p=some r) (hr:r.length<=1000000):Uk Tryz.prog 221 [pr p] [.one (tas r),.one (.int .i64 0)]:=by
 unfold Ql2 at h;obtain ⟨c,h1,h⟩:=Qf.1 h;obtain ⟨q,h2,h⟩:=Qf.1 h;obtain ⟨b,h3,h⟩:=Qf.1 h;obtain ⟨rfl,hb⟩:=Qka h3;obtain ⟨k1,k2⟩:=chain_ok hp h1;have hq:=Qgx hp h2;have q0:q.length≠0:=by
  unfold chain at h1;obtain ⟨a,a1,h1⟩:=Qf.1 h1;rw [h2] at a1; injection a1 with a1; subst a1
  split at h1
  ·cases h1
  ·assumption
 have qn:Qb (-Fz q):=⟨by rw [Rat.neg_num,Gg]; exact hb.1,by rw [Rat.neg_den]; exact hb.2⟩;have bb1:Me Ou c<=c.length:=Mf (λp=>(Qf9 p).1) c;have bb2:Me Qd6 c<=c.length:=Mf (λp=>(Qf9 p).2) c;have hn:-(1000*(100001-100000:Nat):Int)<=Qa2 c/\Qa2 c<=1000*(100001-100000:Nat):=by unfold Qa2; omega
 have cr:=Qxw hq (by omega) k2 qn hb (Qm _) hn h hr;refine Gm Tryz.func221 rfl ?_;exact ed tt [1] [] [.c [] (Q7x hp h1),.f rfl,.c [] (Qj1 hp h2),.c [] (Zes hq q0),.c [] (Zk0 hb.s32),.c [] (Zet (by omega) k2),.c [1] cr] rfl trivial
def Ut (l:List Pt):List (List LV):=l.map G0
theorem Qa3 {l:List Pt} {i:Nat} {c:Pt} (h:l[i]? = some c):(Ut l)[i]? = some (G0 c):=Gh h
theorem Tl (l:List Pt):(Ut l).length=l.length:=by simp [Ut]
theorem Ze2:Uk Tryz.prog 249 [pr []] [.one .nilp,.one (.int .i64 2)]:=by
 have h:Sy []=some []:=rfl;exact w tt Tryz.func249 rfl [.c [] (Qj1 Qgw h),.t rfl] rfl rfl trivial
theorem Q7w:Uk Tryz.prog 221 [pr []] [.one (.row []),.one (.int .i64 2)] :=
 w tt Tryz.func221 rfl [.c [] Ze2,.t rfl] rfl rfl trivial
theorem Zl4 {a o:List Int} (ha:Pb a) (h:Qy8 a=some o):Pb o:=by
 unfold Qy8 at h
 split at h
 ·injection h with h; subst h; exact Qgw
 ·obtain ⟨l,hl,h⟩:=Qf.1 h;obtain ⟨fs,hf,h⟩:=Qf.1 h;exact Qbt Zbg (Qqo (Qi3 (Hr ha) hl).2 hf) h
theorem Q7f {p:List Int} {l:List Tm} (hp:Pb p) (h:E9 p=some l) (hl:l.length<=1000000):Uk Tryz.prog 179 [pr p] [.one (tas l)]:=by
 unfold E9 at h;obtain ⟨q,hq,h⟩:=Qf.1 h;have qp:=Zl4 hp hq;have co:=Znu hp hq
 split at h
 ·rename_i h0;injection h with h; subst h;obtain rfl:=Qi h0;exact w tt Tryz.func179 rfl [.c [] co,.c [] Q7w,.t rfl] rfl rfl trivial
 ·exact w tt Tryz.func179 rfl [.c [] co,.c [] (Ze1 qp h hl),.f rfl] rfl rfl trivial
def ota:Option Tm->List LV
 | none=>zTr
 | some t=>ta t
theorem Zev {p:List Int} {a:Tm} {l:List Tm} {r:Option Tm} (hp:Pb p) (ha:Tb a) (h:E9 p=some l) (hl:l.length≤1000000) (ht:∀ t∈l,Tb t) (hr:Qcg a l=some r):Uk Tryz.prog 132 [pr p,.agg (ta a)] [.agg (ota r),.one (.bool r.isSome)]:=by
 have hll:(l.map λt=>ta t).length=l.length:=by simp
 refine Gm Tryz.func132 rfl ?_;refine go tt [.c [] (Q7f hp h hl)] rfl trivial ?_;refine lp (S:=Nat) 2 (λL1 i=>(11,.v (.one (.int .i64 (i:Int))))::L1) (λ_=>[.blk 79 (ta a),.blk 79 zTm]) (λi=>l.length-i) (λi=>i<=l.length/\Qcg a (l.drop i)=some r) 0 ⟨Qh _,hr⟩ rfl (λ_ _=>rfl) rfl λi ⟨hi,hf⟩=>?_
 by_cases hlt:i<l.length
 ·obtain ⟨t,hx⟩:=gxE (l:=l) (i:=i) hlt;have hdr:l.drop i=t::l.drop (i+1):=by
   rw [Zl hlt]; congr 1;have:=Qe hlt; rw [hx] at this; injection this with this; exact this.symm
  rw [hdr] at hf;simp only [Qcg] at hf;obtain ⟨c,c1,hf⟩:=Qf.1 hf;have cc:=Qjw (ht t (Qa hx)) ha c1;by_cases hc:0<c
  ·rw [if_pos hc] at hf;injection hf with hf; subst hf;exact en tt [.t (by simp; omega),.x (Qjk hx),.c [] cc,.t (by simpa using hc)] rfl rfl trivial
  ·rw [if_neg hc] at hf;refine go tt [.t (by simp; omega),.x (Qjk hx),.c [] cc,.f (by simpa using hc)] rfl (by simp [Ui]; omega) ?_;exact rd (i+1) (by omega) ⟨hlt,hf⟩ rfl
 ·obtain rfl:i=l.length:=by omega
  rw [Vz] at hf;simp only [Qcg] at hf;injection hf with hf; subst hf;exact en tt [.f (by simp)] rfl rfl trivial
end Orr
