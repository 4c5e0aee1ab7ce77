/- T19 T20 T21 T22 T23 T24 T25 G1 G2 SortL KinL K1 K2 F6 F7 F8 F9 G3 G4 K3 K4 S1 S2 S3 R5 R6 RefGL -/
import Derived.Test.YtpnhifedfcgjbaaGreatPart06
import Derived.Test.YtpnhifedfcgjbaaGreatPart00
import Derived.Test.YtpnhifedfcgjbaaGreatPart05
set_option linter.all false
namespace Orq
open Orr Go
structure Pr1 (p:List Int):Prop where
 t:Um p
 m:Prm p
 l:0<Ux p
theorem Pr1.n {p:List Int} (h:Pr1 p):p.length≠0:=λe=>by
 have:=h.l;rw [Qi e] at this;exact absurd this (by decide)
theorem Pr1.one {p:List Int} (h:Pr1 p) (hl:p.length<2):p=[1]:=by
 have hn:=h.n;obtain ⟨c,rfl⟩:∃ c,p=[c]:=Ki.1 (by omega);have h1:=h.m c λk=>by cases k <;> simp
 have h2:0<c:=h.l;have:=Int.le_of_dvd (by decide) h1;rw [show c=1 by omega]
theorem Zeq {p g h:List Int} (hp:Prm p) (e:∀ t,Ui p t=Ui g t*Ui h t):Prm h:=λd hd=>by
 refine hp d λk=>?_
 have:=Bu (p:=p) (q:=Uq g h) (λt=>by rw [e,Uw]) k;rw [this];have e2:∀ t,Ui (Uq g h) t=(d:Rat)*Ui (Uq g (h.map (· / d))) t:=λt=>by
  have h1:Ui h t=(d:Rat)*Ui (h.map (· / d)) t:=by
   have:=M6 d 0 t (max h.length (h.map (· / d)).length) (h.map (· / d)) [] h (by omega) (by simp) (by omega) λk=>by
    rw [Qc7,K0 (hd k)]; simp
   rw [this]; simp only [Ui]; push_cast; grind
  rw [Uw,Uw,h1]; grind
 have:=Bu (p:=Uq g h) (q:=Uz (Uq g (h.map (· / d))) d) (λt=>by rw [e2,Tj]; grind) k;rw [this,Hh]; exact Y4 _ _
theorem Zep {p g h:List Int} (hp:Pr1 p) (hg:0<Ux g) (tg:Um g) (th:Um h) (e:∀ t,Ui p t=Ui g t*Ui h t):Pr1 h:=by
 obtain ⟨p1,p2⟩:=Ho hp.t hp.n e;have:=Qss tg th hp.t e p1 p2;refine ⟨th,Zeq hp.m e,?_⟩;have hl:=hp.l;rw [this] at hl;rcases Ju (Ux h) 0 with h1 | h1 | h1
 ·have:=V4 hg h1; omega
 ·rw [h1] at hl; omega
 ·exact h1
structure Sqp (p g q:List Int):Prop where
 pp:Pr1 p
 pg:Pr1 g
 pq:Pr1 q
 e:∀ t,Ui p t=Ui g t*Ui q t
 c:∃ U V,∀ t,Ui g t=ev U t*Ui p t+ev V t*dv (cz p) t
 d:∃ z,∀ t,dv (cz p) t=Ui g t*ev z t
theorem Sqp.num {p g q:List Int} (h:Sqp p g q) {d:List Rat} (h1:Is d (cz q)) (h2:Is d (Mf (cz q))):∃ c:Rat,c≠0/\∀ t,ev d t=c:=by
 obtain ⟨U,V,hc⟩:=h.c;have hpow:=sqf (k:=1) (a:=cz p) (g:=cz g) (q:=cz q) (d:=d) (U:=U) (V:=V) (by decide) (λt=>by rw [Ul,Ul,Ul,h.e]) (λt=>by rw [Ul,Ul,hc]; grind) h1 h2;rcases Qjj d with h3 | ⟨m,_,h3⟩
 ·obtain ⟨u,hu⟩:=h1;exact absurd (λt=>by rw [<-Ul,hu,h3]; grind) (Qf8 h.pq.t (by have:=h.pq.n; omega))
 ·obtain rfl:=Qm5 h3 (Qgh h.pg.t (by have:=h.pg.n; omega)) hpow;refine ⟨d.getD 0 0,h3.1,λt=>?_⟩;cases d with
  | nil=>exact absurd (by simp) h3.1
  |
   cons c l =>
   have:=Bp (p:=l) λk=>by have:=h3.2 (k+1) (by omega); rwa [Q0] at this
   simp only [ev,this,Zp]; grind
theorem Sqp.bez {p g q:List Int} (h:Sqp p g q):∃ X Y,∀ t,ev X t*ev (cz q) t+ev Y t*dv (cz q) t=1:=by
 obtain ⟨d,U,V,h1,h2,h3⟩:=Q7k (cz q) (Mf (cz q));obtain ⟨c,hc,hd⟩:=h.num h1 h2;refine ⟨Bj (1 / c) U,Bj (1 / c) V,λt=>?_⟩;have h5:=h3 t;rw [hd,Hy] at h5;have h4:1 / c*c=1:=Zg hc;rw [Fb,Fb];have:1 / c*ev U t*ev (cz q) t+1 / c*ev V t*dv (cz q) t=1 / c*(ev U t*ev (cz q) t+ev V t*dv (cz q) t):=by grind
 rw [this,<-h5,h4]
theorem Zaq {n s:Nat} (h:Szz n s):s<=8388600:=by
 have:2*(s+8)*1<=2*(s+8)*3^(n-1):=Zl _ (Zx (by decide));have:=h.2; omega
theorem Quz {s:Nat} {p:List Int} (h:Bd s p) (hl:p.length<=10):Bd (s+4) (Fg p):=Qha h (t:=4) (by omega)
theorem Q1g {n s:Nat} (hz:Szz n (s+73)) {p:List Int} (pp:Pr1 p) (l2:2<=p.length) (lp:p.length<=n) (bp:Bd (s+69) p) {p0 h0:List Int} (b0:Bd s p0) (l0:p0.length<=10) (t0:Um p0) (th0:Um h0) (z0:p0.length≠0) (e0:∀ t,Ui p0 t=Ui h0 t*Ui p t) :
 ∃ g q,chk (Fg p)=some (Fg p)/\Ou p (Fg p)=some g/\Qbb p g=some q/\Sqp p g q/\g.length<p.length:=by
 have hn:=hz.1;have hs:=Zaq hz;have bd:=Quz bp (by omega);have ld:=Sr p;have td:Um (Fg p):=Uv _ _;obtain ⟨g,e1,hg,m,l⟩:=Qck hz pp.t td lp (by omega) (Ug bp (by omega)) bd (.inl pp.n);obtain ⟨q,tq,eq⟩:=Q7e m hg.da;have hdnz:(Fg p).length≠0:=λh=>by
  have h1:=Ts p (p.length-2);rw [Qi h,show p.length-2+1=p.length-1 by omega] at h1;have h2:p.getD (p.length-1) 0≠0:=Gw pp.t (by omega);rcases J9.1 (h1.symm.trans (by simp)) with h3 | h3
  ·exact h2 h3
  ·omega
 have pg:Pr1 g:=⟨hg.t,m,l⟩;have hql:=Q9l (s:=s+69) pp.t hg.t tq pp.n (by omega) bp (by omega) eq;refine ⟨g,q,Dm (by omega) (Ug bd (by omega)),e1,hql,⟨pp,pg,Zep pp l hg.t tq eq,eq,?_,?_⟩,?_⟩
 ·obtain ⟨U,V,hc⟩:=hg.c;exact ⟨U,V,λt=>by rw [hc,E6]⟩
 ·obtain ⟨z,hz⟩:=hg.db;exact ⟨z,λt=>by rw [<-E6,<-Ul,hz,Ul]⟩
 ·obtain ⟨z,tz,ez⟩:=Q7e m hg.db;obtain ⟨q1,q2⟩:=Ho td hdnz ez;have:=Pa hg.t tz td ez q1 q2;omega
theorem Zee:Sqp [1] [1] [1]:=by
 have p1:Pr1 [1]:=⟨rfl,λd hd=>by have:=hd 0; rwa [Zp] at this,by decide⟩;have e1:∀ t,Ui [1] t=1:=λt=>by simp only [Ui]; push_cast; grind
 exact ⟨p1,p1,p1,λt=>by rw [e1]; grind,⟨[1],[],λt=>by rw [e1,Hm]; simp only [ev]; grind⟩,⟨[],λt=>by simp only [cz,Zt,Jb,dv,ev]; grind⟩⟩
structure Okp (n s:Nat) (p:List Int):Prop where
 z:Szz n (s+73)
 t:Um p
 nz:p.length≠0
 l:p.length<=n
 b:Bd s p
theorem Okp.pr {n s:Nat} {p:List Int} (h:Okp n s p):Pr1 (Uy p)/\(Uy p).length=p.length/\Bd s (Uy p):=by
 obtain ⟨h1,h2,h3,h4,h5,_⟩:=Bv h.t h.nz;exact ⟨⟨h1,h3,h4⟩,h2,h5 s h.b⟩
theorem Qa0 {n s:Nat} {p:List Int} (h:Okp n s p):∃ g q,Pg p=some q/\Sqp (Uy p) g q:=by
 obtain ⟨pp,hl,hb⟩:=h.pr;have hn:=h.z.1;have:=h.l;unfold Pg;by_cases h2:(Uy p).length<2
 ·rw [if_pos h2,pp.one h2]; exact ⟨[1],[1],rfl,Zee⟩
 ·rw [if_neg h2];obtain ⟨g,q,h3,h4,h5,h6,_⟩:=Q1g h.z pp (by omega) (by omega) (Ug hb (by omega)) (p0:=Uy p) (h0:=[1]) hb (by omega) pp.t rfl pp.n λt=>by simp only [Ui]; push_cast; grind
  exact ⟨g,q,by rw [h3]; show (Ou (Uy p) (Fg (Uy p))).bind _=_; rw [h4]; exact h5,h6⟩
inductive LW:List Int->List (List Int)->Prop
 | nil:LW [1] []
 | cons {g h w:List Int} {ws:List (List Int)} (hs:Sqp g h w) (hl:LW h ws):LW g (w::ws)
theorem Zi2 {g:List Int} {ws:List (List Int)} (h:LW g ws):∀ t,Ui g t=ev (E4 (ws.map cz)) t:=by
 induction h with
 | nil=>intro t; simp only [Jb,E4,Ui]; rw [Hm]; push_cast; grind
 | cons hs hl ih=>intro t; simp only [Zt,E4]; rw [Uo,Ul,hs.e,ih]; grind
theorem Q0e {g:List Int} {w v:List Int} {ws:List (List Int)} (h:LW g (w::v::ws)):∃ f,Um f/\∀ t,Ui w t=Ui f t*Ui v t:=by
 cases h with
 |
  @cons _ h _ _ hs hl =>
  cases hl with
  |
   @cons _ h2 _ _ hs2 hl2 =>
   obtain ⟨X,Y,hb⟩:=hs2.bez;obtain ⟨z,hz⟩:=hs.d;have hd:=Zfm (a:=cz g) (g:=cz h) (q:=cz w) (z:=z) (r:=cz v) (X:=X) (Y:=Y) (n:=h.length-1) (λt=>by rw [Ul,Ul,Ul,hs.e]) (λt=>by rw [hz,Ul]) (Qgh hs.pg.t (by have:=hs.pg.n; omega)) hb
    ⟨Fu (cz h2) (cz w),λt=>by rw [Uo,Ul,Ul,Ul,Ul,hs.e,hs2.e]; grind⟩
   obtain ⟨f,tf,ef⟩:=Q7e hs2.pq.m hd;exact ⟨f,tf,λt=>by rw [ef]; grind⟩
theorem Qsu {g w:List Int} {ws:List (List Int)} (h:LW g (w::ws)):∀ v∈w::ws,Pr1 v/\Is (cz v) (cz w):=by
 have key:∀ (ws:List (List Int)) (g w:List Int),LW g (w::ws)->∀ v∈w::ws,Pr1 v/\Is (cz v) (cz w):=by
  intro ws
  induction ws with
  |
   nil =>
   intro g w h v hv;rw [Qn.1 hv];cases h with
   | cons hs hl=>exact ⟨hs.pq,dvd_refl _⟩
  |
   cons u ws ih =>
   intro g w h v hv;have hn:=Q0e h;cases h with
   |
    @cons _ h _ _ hs hl =>
    rcases Qo.1 hv with rfl | hv
    ·exact ⟨hs.pq,dvd_refl _⟩
    ·obtain ⟨i1,i2⟩:=ih h u hl v hv;obtain ⟨f,_,hf⟩:=hn;exact ⟨i1,dvd_trans i2 ⟨cz f,λt=>by rw [Ul,Ul,Ul,hf]; grind⟩⟩
 exact key ws g w h
theorem Qwm {n s:Nat} (hz:Szz n (s+73)) {p0:List Int} (b0:Bd s p0) (l0:p0.length<=10) (t0:Um p0) (z0:p0.length≠0):∀ (k:Nat) (g h0:List Int),Pr1 g->g.length<=k->g.length<=n->Um h0->(∀ t,Ui p0 t=Ui h0 t*Ui g t)->∃ ws,Q25 k g=some ws/\LW g ws
 | 0,g,_,pg,hk,_,_,_=>absurd pg.n (by omega)
 |
  k+1,g,h0,pg,hk,hn,th0,e0=>by
  simp only [Q25];by_cases h2:g.length<2
  ·rw [if_pos h2,pg.one h2]; exact ⟨[],rfl,.nil⟩
  ·rw [if_neg h2];have bg:Bd (s+69) g:=I4 b0 l0 t0 pg.t th0 z0 λt=>by rw [e0]; grind
   obtain ⟨h,w,h3,h4,h5,h6,h7⟩:=Q1g hz pg (by omega) hn bg b0 l0 t0 th0 z0 e0;obtain ⟨ws,i1,i2⟩:=Qwm hz b0 l0 t0 z0 k h (Uq h0 w) h6.pg (by omega) (by omega) (Gv _ _) λt=>by rw [e0,Uw,h6.e]; grind
   refine ⟨w::ws,?_,.cons h6 i2⟩;rw [h3];show (Ou g (Fg g)).bind _=_;rw [h4];show (Qbb g h).bind _=_;rw [h5];show (Q25 k h).bind _=_;rw [i1]; rfl
theorem Q66 {s:Nat} {p0:List Int} (b0:Bd s p0) (l0:p0.length≤10) (t0:Um p0) (z0:p0.length≠0) (hs:s+69+69≤16777216):∀ (ws:List (List Int)) (g h0:List Int),LW g ws->Um h0->(∀ t,Ui p0 t=Ui h0 t*Ui g t)->∃ fs,Q65 ws=some fs/\Lay (ws.map cz) (fs.map cz)/\∀ f∈fs,Um f
 | [],g,_,_,_,_=>⟨[],rfl,trivial,λf hf=>by cases hf⟩
 |
  [w],g,_,hl,_,_=>by
  cases hl with
  | cons hs hl=>exact ⟨[w],rfl,λt=>rfl,λf hf=>by rw [Qn.1 hf]; exact hs.pq.t⟩
 |
  w::v::ws,g,h0,hl,th0,e0=>by
  obtain ⟨f,tf,ef⟩:=Q0e hl;cases hl with
  |
   @cons _ h _ _ hs1 hl =>
   have hpv:=(Qsu hl v (Qt ..)).1;obtain ⟨fs,i1,i2,i3⟩:=Q66 b0 l0 t0 z0 hs (v::ws) h (Uq h0 w) hl (Gv _ _) λt=>by rw [e0,Uw,hs1.e]; grind
   have ew:∀ t,Ui p0 t=Ui w t*Ui (Uq h0 h) t:=λt=>by rw [e0,Uw,hs1.e]; grind
   have bw:Bd (s+69) w:=I4 b0 l0 t0 hs1.pq.t (Gv _ _) z0 ew;obtain ⟨p1,p2⟩:=Ho t0 z0 ew;have lw:=Pa hs1.pq.t (Gv _ _) t0 ew p1 p2;have hq:=Q9l (s:=s+69) hs1.pq.t hpv.t tf hs1.pq.n (by omega) bw hs λt=>by rw [ef]; grind
   refine ⟨f::fs,?_,⟨λt=>by rw [Ul,Ul,Ul,ef],i2⟩,λx hx=>?_⟩
   ·show (Qbb w v).bind _=_;rw [hq];show (Q65 (v::ws)).bind _=_;rw [i1]; rfl
   ·rcases Qo.1 hx with rfl | hx
    ·exact tf
    ·exact i3 x hx
def Pw:List (List Int)->List Int
 | []=>[1]
 | [f]=>f
 | f::_::l=>Uq f (Pw l)
theorem Qs6:∀ (fs:List (List Int)) (t:Rat),ev (Qg4 (fs.map cz)) t=Ui (Pw fs) t
 | [],t=>by simp only [Jb,Qg4,Pw,Ui]; rw [Hm]; push_cast; grind
 | [f],t=>by simp only [Zt,Jb,Qg4,Pw]; rw [Ul]
 | f::g::l,t=>by simp only [Zt,Qg4,Pw]; rw [Uo,Ul,Uw,Qs6 l]
theorem Pe (t:Rat):Ui [1] t=1:=by simp only [Ui]; push_cast; grind
theorem Ql1:∀ {w:List Int} {ws fs:List (List Int)},Lay ((w::ws).map cz) (fs.map cz)->(∀ f∈fs,Um f)->(∀ v∈w::ws,Um v)->∃ E,Um E/\∀ t,Ui w t=Ui (Pw fs) t*Ui E t
 |
  w,[],[f],h,_,_=>⟨[1],rfl,λt=>by
  have:=h t;rw [Ul,Ul] at this;rw [this,Pe]; simp only [Pw]; grind⟩
 |
  w,[v],[f,f2],h,_,hw=>⟨v,hw v (by simp),λt=>by
  have:=h.1 t;rw [Ul,Ul,Ul] at this;rw [this]; simp only [Pw]; rw [Uw,Pe]; grind⟩
 |
  w,v::x::l,f::f2::fs,h,hf,hw=>by
  obtain ⟨E,hE,e⟩:=Ql1 (w:=x) (ws:=l) (fs:=fs) h.2.2 (λg hg=>hf g (by simp [hg])) (λg hg=>hw g (by simp at hg ⊢; exact .inr (.inr hg)));refine ⟨Uq f2 E,Gv _ _,λt=>?_⟩;have a1:=h.1 t;have a2:=h.2.1 t;rw [Ul,Ul,Ul] at a1 a2;have e2:Ui (Pw (f::f2::fs)) t=Ui f t*Ui (Pw fs) t:=by simp only [Pw]; rw [Uw]
  rw [a1,a2,e,e2,Uw]; grind
 | w,[],[],h,_,_=>h.elim
 | w,[],_::_::_,h,_,_=>h.elim
 | w,[v],[],h,_,_=>h.elim
 | w,[v],[f],h,_,_=>h.2.elim
 | w,[v],_::_::_::_,h,_,_=>h.2.elim
 | w,v::x::l,[f],h,_,_=>h.2.elim
 | w,v::x::l,[],h,_,_=>h.elim
theorem Qdj {s:Nat} {p0:List Int} (b0:Bd s p0) (l0:p0.length≤10) (t0:Um p0) (z0:p0.length≠0) (hs:s+69≤16777216):∀ (fs:List (List Int)) (i:Nat) (a E:List Int),i % 2=0->Um a->Um E->(∀ f∈fs,Um f)->(∀ t,Ui p0 t=Ui a t*Ui (Pw fs) t*Ui E t)->∃ o,Qjx i a fs=some o/\Um o/\∀ t,Ui o t=Ui a t*Ui (Pw fs) t
 | [],i,a,E,hi,ta,_,_,_=>⟨a,rfl,ta,λt=>by simp only [Pw]; rw [Pe]; grind⟩
 |
  [f],i,a,E,hi,ta,tE,tf,hE=>by
  have e1:∀ t,Ui p0 t=Ui (Uq a f) t*Ui E t:=λt=>by rw [hE,Uw]; rfl
  have b1:=I4 b0 l0 t0 (Gv a f) tE z0 e1;obtain ⟨p1,p2⟩:=Ho t0 z0 e1;have hl:=Pa (Gv a f) tE t0 e1 p1 p2;refine ⟨Uq a f,?_,Gv _ _,λt=>by rw [Uw]; rfl⟩;simp only [Qjx];rw [if_pos hi,Dm (by omega) (Ug b1 (by omega))]; rfl
 |
  f::g::fs,i,a,E,hi,ta,tE,tf,hE=>by
  have e0:∀ t,Ui (Pw (f::g::fs)) t=Ui f t*Ui (Pw fs) t:=λt=>by simp only [Pw]; rw [Uw]
  have e1:∀ t,Ui p0 t=Ui (Uq a f) t*Ui (Uq (Pw fs) E) t:=λt=>by rw [hE,e0,Uw,Uw]; grind
  have b1:=I4 b0 l0 t0 (Gv a f) (Gv _ _) z0 e1;obtain ⟨p1,p2⟩:=Ho t0 z0 e1;have hl:=Pa (Gv a f) (Gv _ _) t0 e1 p1 p2;obtain ⟨o,o1,o2,o3⟩:=Qdj b0 l0 t0 z0 hs fs (i+2) (Uq a f) E (by omega) (Gv _ _) tE (λx hx=>tf x (by simp [hx])) λt=>by rw [hE,e0,Uw]; grind
  refine ⟨o,?_,o2,λt=>by rw [o3,e0,Uw]; grind⟩;have h1:Qjx (i+1) (Uq a f) (g::fs)=Qjx (i+2) (Uq a f) fs:=by
   show (if (i+1) % 2=0 then _ else _)=_;rw [if_neg (by omega)]
  show (if i % 2=0 then (chk (Uq a f)).bind λq=>Qjx (i+1) q (g::fs) else _)=_;rw [if_pos hi,Dm (by omega) (Ug b1 (by omega))];exact h1.trans o1
structure Parts (p q o:List Int):Prop where
 sq:∃ g,Sqp (Uy p) g q
 ws:∃ ws:List (List Int),(∀ w∈ws,Pr1 w/\Is (cz w) (cz q))/\∀ t,Ui (Uy p) t=ev (E4 (ws.map cz)) t
 oq:Is (cz o) (cz q)
 ot:Um o
 oh:∃ h,Um h/\∀ t,Ui (Uy p) t=Ui o t*Ui h t
 os:∃ S,∀ t,Ui (Uy p) t=Ui o t*(ev S t*ev S t)
theorem Q8m {n s:Nat} {p:List Int} (h:Okp n s p):∃ q o,Pg p=some q/\Zjd p=some o/\Parts p q o:=by
 obtain ⟨pp,hl,hb⟩:=h.pr;have hn:=h.z.1;have hpl:=h.l;have hs:=Zaq h.z;obtain ⟨g,q,hq,sq⟩:=Qa0 h;obtain ⟨ws,w1,w2⟩:=Qwm h.z hb (by omega) pp.t pp.n 66 (Uy p) [1] pp (by omega) (by omega) rfl λt=>by rw [Pe]; grind
 obtain ⟨fs,f1,f2,f3⟩:=Q66 hb (by omega) pp.t pp.n (by omega) ws (Uy p) [1] w2 rfl λt=>by rw [Pe]; grind
 have hw:=Zi2 w2;have hfirst:(∀ w∈ws,Pr1 w/\Is (cz w) (cz q))/\∃ E,Um E/\∀ t,Ui q t=Ui (Pw fs) t*Ui E t:=by
  cases ws with
  |
   nil =>
   have e:fs=[]:=by
    cases fs with
    | nil=>rfl
    | cons f l=>exact f2.elim
   subst e;exact ⟨(λw hw=>by cases hw),q,sq.pq.t,λt=>by simp only [Pw]; rw [Pe]; grind⟩
  |
   cons w ws =>
   have hwq:w=q:=by
    have w3:(if (Uy p).length<2 then some [] else (chk (Fg (Uy p))).bind λd=>(Ou (Uy p) d).bind λh=>(Qbb (Uy p) h).bind λw=>(Q25 65 h).bind λl=>some (w::l))=some (w::ws):=w1;have hlen:¬(Uy p).length<2:=λh2=>by
     rw [if_pos h2] at w3;injection w3 with w3;cases w3
    rw [if_neg hlen] at w3;unfold Pg at hq;rw [if_neg hlen] at hq;obtain ⟨d,d1,w3⟩:=Qk.1 w3;obtain ⟨h,d2,w3⟩:=Qk.1 w3;obtain ⟨w',d3,w3⟩:=Qk.1 w3;obtain ⟨l,d4,w3⟩:=Qk.1 w3;rw [d1] at hq;have hq:(Ou (Uy p) d).bind (λg=>Qbb (Uy p) g)=some q:=hq;rw [d2] at hq;have hq:Qbb (Uy p) h=some q:=hq;rw [d3] at hq;injection hq with hq;injection w3 with w3;injection w3 with w3 _;rw [<-w3,hq]
   subst hwq;have hall:=Qsu w2;exact ⟨hall,Ql1 f2 f3 λv hv=>(hall v hv).1.t⟩
 obtain ⟨ha,E,tE,hE⟩:=hfirst;obtain ⟨o,o1,o2,o3⟩:=Qdj hb (by omega) pp.t pp.n (by omega) fs 0 [1] (Uq E g) rfl rfl (Gv _ _) f3 λt=>by rw [Pe,Uw,sq.e,hE]; grind
 have o3:∀ t,Ui o t=Ui (Pw fs) t:=λt=>by rw [o3,Pe]; grind
 refine ⟨q,o,hq,?_,⟨g,sq⟩,⟨ws,ha,hw⟩,⟨cz E,λt=>by rw [Ul,Ul,Ul,hE,o3]⟩,o2,⟨Uq E g,Gv _ _,λt=>by rw [sq.e,hE,o3,Uw]; grind⟩,?_⟩
 ·unfold Zjd;rw [if_neg pp.n,w1];show (Q65 ws).bind _=_;rw [f1]; exact o1
 ·obtain ⟨S,hS⟩:=Qz7 f2;exact ⟨S,λt=>by rw [hw,hS,Qs6,o3]⟩
theorem Qy7 {s:Nat}:∀ (k:Nat) (a b:List Int),Um a->Um b->b.length≠0->b.length<k->b.length<a.length->a.length<=60->Bd s a->Bd s b->(s+8)*3^(a.length-1)<=16777216->(∀ d,Is d (cz a)->Is d (cz b)->∃ c:Rat,c≠0/\∀ t,ev d t=c)->∃ l,chF k a b=some (b::l)/\SCl (cz a) (cz b) (l.map cz)
 | 0,_,_,_,_,_,h,_,_,_,_,_,_=>by omega
 |
  k+1,a,b,ta,tb,hb,hk,hab,hl,ba,bb,hs,hd=>by
  obtain ⟨h1,h2,h3,u,v,up,vp,X,hX⟩:=Qh0 ta tb hb hl;have h3:=h3 s ba bb;obtain ⟨m,hm⟩:=nmE (a.length-b.length);have e1:a.length+1-b.length=m+1:=by omega
  rw [e1] at h3;have e2:s+(m+1)*(s+8)+8=(m+2)*(s+8):=by
   rw [show m+2=(m+1)+1 by omega,Xe (m+1)]; omega
  have e3:(m+2)*(s+8)*3^(b.length-1)<=(s+8)*3^(a.length-1):=by
   rw [show a.length-1=m+(b.length-1) by omega,Xh,<-Xn,Zj (s+8)];exact Qz _ (Qz _ (Zje m (by omega)))
  have e4:s+(m+1)*(s+8)<=16777216:=by
   have:(m+2)*(s+8)<=(m+2)*(s+8)*3^(b.length-1):=Jt _ (Zx (by decide));omega
  simp only [chF];rw [if_neg hb,Dm (by omega) (Ug h3 e4)];show ∃ l,((chF k b (H5 (Hk a b))).bind λl=>some (b::l))=some (b::l)/\_;have lneg:(H5 (Hk a b)).length<=(Hk a b).length:=Bs _;by_cases hr:(Hk a b).length=0
  ·have e:H5 (Hk a b)=[]:=Qi (by omega);rw [e];refine ⟨[],?_,?_⟩
   ·obtain ⟨j,rfl⟩:∃ j,k=j+1:=⟨k-1,by omega⟩;rfl
   ·obtain ⟨c,hc,hcc⟩:=hd (cz b) ⟨Bj (1 / u) X,λt=>by
     have:=hX t;rw [Bh hr] at this;have hu:1 / u*u=1:=Fj up;rw [Ul,Ul,Fb];have:Ui a t=1 / u*(u*Ui a t):=by grind
     rw [this,hX,Bh hr]; grind⟩ (dvd_refl _)
    exact .base hc hcc
  ·have tn:Um (H5 (Hk a b)):=Uv _ _;have hn0:(H5 (Hk a b)).length≠0:=λh0=>by
    have:=A5 (c:=-1) h1 tn (by decide) λt=>by rw [Pz]; grind
    omega
   obtain ⟨l,i1,i2⟩:=Qy7 (s:=s+(m+1)*(s+8)) k b (H5 (Hk a b)) tb tn hn0 (by omega) (by omega) (by omega) (Ug bb (by omega)) (Qac h3) (by rw [e2]; omega) λd d1 d2=>by
    refine hd d ?_ d1;obtain ⟨y,hy⟩:=d1;obtain ⟨z,hz⟩:=d2;have hu:1 / u*u=1:=Fj up;refine ⟨Bj (1 / u) (Ru (Fu X y) (Bj (-v) z)),λt=>?_⟩;have a1:=hX t; have a2:=hy t; have a3:=hz t;rw [Ul] at a2 a3;rw [Pz] at a3;rw [Ul,Fb,Fo,Uo,Fb];have:Ui a t=1 / u*(u*Ui a t):=by grind
    rw [this,a1,a2,show Ui (Hk a b) t=-(ev d t*ev z t) by grind]; grind
   refine ⟨H5 (Hk a b)::l,by rw [i1]; rfl,?_⟩;rw [Zt];exact .step (q:=X) up vp (λt=>by rw [Ul,Ul,Ul,hX,Pz]; clear i2 i1 hd h3 hs; grind) i2
theorem Qcj (x:Rat):∀ (l:List (List Int)) (n:Nat) (s:Int),(l.foldl (Nn λp=>U9 p x) (n,s)).1=n+tc x s (l.map cz)
 | [],n,s=>rfl
 |
  p::l,n,s=>by
  simp only [Z8,Zt,tc,Nn];rw [Re,Ul]
  split
  ·exact Qcj x l n s
  ·rw [Qcj x l]
   split <;> omega
theorem Ie (l:List (List Int)) (x:Rat):Cy l x=vv (l.map cz) x:=by
 have:=Qcj x l 0 0;unfold Cy O6 vv;rw [this]; omega
theorem Q6b {n s:Nat} (hz:Szz n (s+73)) {P g q:List Int} (sq:Sqp P g q) (lq:q.length<=n) (bq:Bd (s+69) q):∃ d,chk (Fg q)=some d/\∃ l,chF 66 q (Uy d)=some l/\Stm (cz q) ((q::l).map cz)/\(q.length<2->l=[]):=by
 have hn:=hz.1;have hs:=Zaq hz;have bd:=Quz bq (by omega);have ld:=Sr q;refine ⟨Fg q,Dm (by omega) (Ug bd (by omega)),?_⟩;have hq0:=sq.pq.n;by_cases h2:q.length<2
 ·have e:Uy (Fg q)=[]:=by rw [Qi (l:=Fg q) (by omega)]; rfl
  rw [e];refine ⟨[],rfl,.inl ⟨1,by decide,λt=>?_,rfl⟩,λ_=>rfl⟩;rw [Ul,sq.pq.one h2,Pe]
 ·have hdnz:(Fg q).length≠0:=λh=>by
   have h1:=Ts q (q.length-2);rw [Qi h,show q.length-2+1=q.length-1 by omega] at h1;have h3:q.getD (q.length-1) 0≠0:=Gw sq.pq.t (by omega);rcases J9.1 (h1.symm.trans (by simp)) with h4 | h4
   ·exact h3 h4
   ·omega
  obtain ⟨p1,p2,p3,p4,p5,p6,p7⟩:=Bv (p:=Fg q) (Uv _ _) hdnz;have hdl:Ux (Fg q)=Ux q*((q.length-1:Nat):Int):=by
   have hld:(Fg q).length=q.length-1:=by
    rcases Q8 (Fg q).length (q.length-1) with h | h
    ·have h1:=Ts q (q.length-2);rw [Qe,Qr (by omega),show q.length-2+1=q.length-1 by omega] at h1;have h3:q.getD (q.length-1) 0≠0:=Gw sq.pq.t (by omega);rcases J9.1 (h1.symm.trans (by simp)) with h4 | h4
     ·exact absurd h4 h3
     ·omega
    ·omega
   unfold Ux;rw [hld,Ts,show q.length-1-1+1=q.length-1 by omega]
  have hfac:0<Gl (Fg q):=by
   have hlp:0<Ux (Fg q):=by rw [hdl]; exact Int.mul_pos sq.pq.l (by omega)
   have hc:=Om (p:=Fg q) (Uv _ _) hdnz;unfold Gl;rw [if_neg (by omega)];unfold Px at hc ⊢; omega
  have hfq:((0:Int):Rat)<(Gl (Fg q):Rat):=Ji.2 hfac;have hfq:(0:Rat)<(Gl (Fg q):Rat):=by simpa using hfq
  have hff:1 / (Gl (Fg q):Rat)*(Gl (Fg q):Rat)=1:=Fj hfq;have hz2:=hz.2;have hp3:(s+73+8)*3^(q.length-1)<=16777216:=by
   have:(s+73+8)*3^(q.length-1)<=(s+73+8)*3^(n-1):=Zl _ (Zq (by decide) (by omega));rw [Xn] at hz2; omega
  obtain ⟨l,h3,h4⟩:=Qy7 (s:=s+73) 66 q (Uy (Fg q)) sq.pq.t p1 (by omega) (by omega) (by omega) (by omega) (Ug bq (by omega)) (p5 _ bd) hp3 λd d1 d2=>sq.num d1 (by
   obtain ⟨z,hz⟩:=d2;exact ⟨Bj (Gl (Fg q)) z,λt=>by
    have:=hz t;rw [Ul] at this;rw [Hy,<-E6,p7,this,Fb]; grind⟩)
  refine ⟨Uy (Fg q)::l,h3,.inr ⟨cz (Uy (Fg q)),l.map cz,1 / (Gl (Fg q):Rat),Dq (by decide) hfq,λt=>?_,h4,rfl⟩,λh=>absurd h h2⟩;rw [Ul,<-E6,p7 t]; grind
theorem chain_ok {n s:Nat} {p:List Int} (h:Okp n s p):∃ q l,Pg p=some q/\Lj p=some (q::l)/\Stm (cz q) ((q::l).map cz)/\(q.length<2->l=[]):=by
 obtain ⟨pp,hl,hb⟩:=h.pr;have hn:=h.z.1;have hpl:=h.l;obtain ⟨g,q,hq,sq⟩:=Qa0 h;have e1:∀ t,Ui (Uy p) t=Ui q t*Ui g t:=λt=>by rw [sq.e]; grind
 obtain ⟨p1,p2⟩:=Ho pp.t pp.n e1;have hll:=Pa sq.pq.t sq.pg.t pp.t e1 p1 p2;obtain ⟨d,d1,l,d2,d3⟩:=Q6b h.z sq (by omega) (I4 hb (by omega) pp.t sq.pq.t sq.pg.t pp.n e1);refine ⟨q,l,hq,?_,d3⟩;unfold Lj;rw [hq];show (if q.length=0 then none else _)=_;rw [if_neg sq.pq.n,d1];show (chF 66 q (Uy d)).bind _=_;rw [d2]; rfl
structure Gr (D M k:Nat) (q:Rat):Prop where
 u:∃ u:Int,q*((D*2^k:Nat):Rat)=(u:Rat)
 b:Up q<=(M:Rat)
 d:0<D
theorem nat_pos {n:Nat} (h:0<n):(0:Rat)<(n:Rat):=by
 have:((0:Nat):Rat)<(n:Rat):=Vm.2 h;simpa using this
theorem Qgg {D M k:Nat} {q:Rat} (h:Gr D M k q):Gr D M (k+1) q:=by
 obtain ⟨u,hu⟩:=h.u;refine ⟨⟨u*2,?_⟩,h.b,h.d⟩;rw [Zm,<-Xn]
 push_cast at hu ⊢
 rw [<-hu]; grind
theorem Qwi {D M k:Nat} {a b:Rat} (ha:Gr D M k a) (hb:Gr D M k b):Gr D M (k+1) ((a+b) / 2):=by
 obtain ⟨u,hu⟩:=ha.u;obtain ⟨v,hv⟩:=hb.u;have h2:(a+b) / 2*2=a+b:=Fj (by decide);refine ⟨⟨u+v,?_⟩,?_,ha.d⟩
 ·rw [Zm,<-Xn]
  push_cast at hu hv ⊢
  rw [<-hu,<-hv];generalize (a+b) / 2=c at *;generalize (D:Rat)*2^k=z at *;have:c*(z*2)=(c*2)*z:=by grind
  rw [this,h2]; grind
 ·have h3:=ha.b;have h4:=hb.b;rw [Tc] at *;constructor <;> grind
theorem Zir {D M k:Nat} {q:Rat} (h:Gr D M k q):q.den<=D*2^k:=by
 obtain ⟨u,hu⟩:=h.u;have hp:0<D*2^k:=J3 h.d (Zx (by decide));have e:q=Rat.divInt u ((D*2^k:Nat):Int):=by
  rw [<-Gt,<-hu];have hz:=nat_pos hp;rw [show ((((D*2^k:Nat):Int)):Rat)=((D*2^k:Nat):Rat) from rfl];rw [J8];have:=Rat.mul_inv_cancel ((D*2^k:Nat):Rat) (by grind);generalize ((D*2^k:Nat):Rat)=z at *;have:q*z*z⁻¹=q*(z*z⁻¹):=by grind
  rw [this,‹z*z⁻¹=1›]; grind
 rw [e,We,if_neg (by omega),Xa];exact Jx _ _
theorem Qjp {a b k:Nat} {z:Int} (h:z.natAbs<=a*(b*2^k)):Ur z<=Ur (a:Int)+Ur (b:Int)+k:=by
 have h1:Ur (a:Int)<=Ur (a:Int):=Qm _;have h2:Ur (b:Int)<=Ur (b:Int):=Qm _;rw [Ri] at h1 h2 ⊢;rw [Xa] at h1 h2;rw [Xh,Xh];have h3:a*b<2^Ur (a:Int)*2^Ur (b:Int):=Nat.mul_lt_mul_of_lt_of_le h1 (Jo h2) (Zx (by decide));have h4:=Xv h3 (show 0<2^k from Zx (by decide));rw [<-Xn] at h; omega
theorem Qmd {D M k B:Nat} {q:Rat} (h:Gr D M k q) (hM:0<M) (hs:Ur (D:Int)+Ur (M:Int)+k<=B):Qs B q:=by
 have hd:=Zir h;have hden:=nat_pos q.den_pos;have h1:(q.num.natAbs:Rat)<=((M*(D*2^k):Nat):Rat):=by
  have e:(q.num:Rat)=q*(q.den:Rat):=by
   have:(q.num:Rat) / (((q.den:Int)):Rat)=q:=by rw [Gt,Zv]
   have h2:(q.num:Rat) / (q.den:Rat)*(q.den:Rat)=q.num:=Zg (by grind);rw [show (q.num:Rat) / (q.den:Rat)=q from this] at h2; exact h2.symm
  rw [<-Rw,e];have h3:=Fy (x:=q) (y:=(q.den:Rat)) (b:=((D*2^k:Nat):Rat)) h.b (by
   have:Up (q.den:Rat)=(q.den:Rat):=by unfold Up; rw [if_neg (by grind)]
   rw [this]; exact Zb.2 hd)
  push_cast at h3 ⊢; exact h3
 have h1:=Zb.1 h1;refine ⟨?_,?_⟩
 ·have:=Qjp (z:=q.num) h1; omega
 ·have:=Qjp (z:=(q.den:Int)) (a:=M) (b:=D) (k:=k) (by
   rw [Xa];exact Qd hd (Nat.le_mul_of_pos_left _ hM))
  omega
theorem Qfk (a b:Rat):mid a b=(a+b) / 2:=by
 unfold mid;rw [<-Gt];have ha:(a.num:Rat)=a*(a.den:Rat):=by
  have:(a.num:Rat) / (((a.den:Int)):Rat)=a:=by rw [Gt,Zv]
  have h2:(a.num:Rat) / (a.den:Rat)*(a.den:Rat)=a.num:=Zg (by have:=nat_pos a.den_pos; grind);rw [show (a.num:Rat) / (a.den:Rat)=a from this] at h2; exact h2.symm
 have hb:(b.num:Rat)=b*(b.den:Rat):=by
  have:(b.num:Rat) / (((b.den:Int)):Rat)=b:=by rw [Gt,Zv]
  have h2:(b.num:Rat) / (b.den:Rat)*(b.den:Rat)=b.num:=Zg (by have:=nat_pos b.den_pos; grind);rw [show (b.num:Rat) / (b.den:Rat)=b from this] at h2; exact h2.symm
 have pa:=nat_pos a.den_pos;have pb:=nat_pos b.den_pos;rw [V9,Xx,Xx,Xx,Xx,ha,hb];rw [show (((a.den:Int)):Rat)=(a.den:Rat) from rfl,show (((b.den:Int)):Rat)=(b.den:Rat) from rfl,show (((2:Int)):Rat)=2 from rfl];generalize (a.den:Rat)=x at *;generalize (b.den:Rat)=y at *;have hxy:=Eb (Eb pa pb) (show (0:Rat)<2 by decide);have h1:(a*x*y+b*y*x) / (x*y*2)*(x*y*2)=a*x*y+b*y*x:=Fj hxy;have h2:(a+b) / 2*2=a+b:=Fj (by decide);generalize (a*x*y+b*y*x) / (x*y*2)=c at *;generalize (a+b) / 2=d at *;have h3:(x*y*2)*(c-d)=0:=by grind
 rcases Jc.1 h3 with h4 | h4 <;> grind
theorem Qh2 (a b:Rat):Qkm a b=a-b:=by
 unfold Qkm;rw [Rat.sub_def',<-Rat.divInt_ofNat]
 push_cast; rfl
theorem Qog {a b:Rat}:Fx a b=0↔a=b:=by
 constructor
 ·intro h;have h1:¬a<b:=λh'=>by have:=Ba.2 h'; omega
  have h2:¬b<a:=λh'=>by have:=Mx.2 h'; omega
  grind
 ·intro h; subst h; exact Nt a
theorem Qc0 {a b:Rat}:Fx a b<=0↔a<=b:=by
 constructor
 ·intro h;have h2:¬b<a:=λh'=>by have:=Mx.2 h'; omega
  grind
 ·intro h;have h2:¬0<Fx a b:=λh'=>by have:=Mx.1 h'; grind
  omega
theorem Qhh {a b:Rat}:0<=Fx a b↔b<=a:=by
 constructor
 ·intro h;have h2:¬a<b:=λh'=>by have:=Ba.2 h'; omega
  grind
 ·intro h;have h2:¬Fx a b<0:=λh'=>by have:=Ba.1 h'; grind
  omega
theorem El (a b:Rat):Fx a b=1/\b<a\/Fx a b=0/\a=b\/Fx a b=-1/\a<b:=by
 have hb:=Au a b;rcases (show Fx a b=1\/Fx a b=0\/Fx a b=-1 by omega) with h | h | h
 ·exact .inl ⟨h,Mx.1 (by omega)⟩
 ·exact .inr (.inl ⟨h,Qog.1 h⟩)
 ·exact .inr (.inr ⟨h,Ba.1 (by omega)⟩)
theorem Qst (p:List Int) (x:Rat):low p x=Te (cz p) x:=by
 unfold low Te;rw [Re,Re,Ul,E6]
theorem Ry {t:Tm} (h:t.lo<t.hi) (q:Rat):Fa t q=cq (cz t.p) t.lo t.hi q:=by
 have hp:t.point=false:=by
  unfold Tm.point;have:¬0<=Fx t.lo t.hi:=λh'=>by have:=Qhh.1 h'; grind
  simp [this]
 unfold Fa cq;rw [hp,if_neg (by decide)];have e1:(Fx q t.lo<=0)=(q<=t.lo):=propext Qc0;have e2:(0<Fx q t.hi)=(t.hi<q):=propext Mx;rw [Re,Qst,<-Ul];simp only [e1,e2]
theorem Pf {t:Tm}:t.point=true↔t.hi<=t.lo:=by
 unfold Tm.point;rw [decide_eq_true_iff]; exact Qhh
theorem Av {t:Tm} (h:t.lo=t.hi) (q:Rat):Fa t q=Fx t.lo q:=by
 have hp:t.point=true:=Pf.2 (by rw [h]; exact Qq);unfold Fa; rw [if_pos hp]
theorem Zib {c:Rat->Int} {x:Rat} (h:∀ q,c q=Fx x q):Cut c where
 val q:=by rw [h]; have:=Au x q; omega
 mono q r hqr h1:=by
  rw [h] at h1 ⊢;rcases El x q with ⟨e,e'⟩ | ⟨e,e'⟩ | ⟨e,e'⟩
  ·exact absurd e h1
  ·rcases El x r with ⟨f,f'⟩ | ⟨f,f'⟩ | ⟨f,f'⟩ <;> grind
  ·rcases El x r with ⟨f,f'⟩ | ⟨f,f'⟩ | ⟨f,f'⟩ <;> grind
 up q h1:=by
  rw [h] at h1;have h2:=Mx.1 (show 0<Fx x q by omega);have h3:(x+q) / 2*2=x+q:=Fj (by decide);have h4:=Mx.2 (show (x+q) / 2<x by grind);have:=Au x ((x+q) / 2);exact ⟨(x+q) / 2,by grind,by rw [h]; omega⟩
 dn q h1:=by
  rw [h] at h1;have h2:=Ba.1 (show Fx x q<0 by omega);have h3:(x+q) / 2*2=x+q:=Fj (by decide);have h4:=Ba.2 (show x<(x+q) / 2 by grind);have:=Au x ((x+q) / 2);exact ⟨(x+q) / 2,by grind,by rw [h]; omega⟩
 lo:=⟨x-1,by
  rw [h];have h4:=Mx.2 (show x-1<x by grind);have:=Au x (x-1); omega⟩
 hi:=⟨x+1,by
  rw [h];have h4:=Ba.2 (show x<x+1 by grind);have:=Au x (x+1); omega⟩
structure Va (t:Tm):Prop where
 i:t.lo=t.hi/\Ui t.p t.lo=0\/∃ L,Vt (cz t.p) L t.lo t.hi
 tr:Um t.p
 n:t.p.length<=9
 n2:2<=t.p.length
 b:Bd 1000000 t.p
 bi:t.point=false->Bd 1260 t.p
 sc:t.point=false->∃ (l:List (List Int)) (P g:List Int),chF 66 t.p (Uy (Fg t.p))=some l/\Sqp P g t.p/\Vt (cz t.p) ((t.p::l).map cz) t.lo t.hi
 g:∃ D M k,Gr D M k t.lo/\Gr D M k t.hi/\0<M/\Ur (D:Int)+Ur (M:Int)+k<=1000000
theorem Va.le {t:Tm} (h:Va t):t.lo<=t.hi:=by
 rcases h.i with ⟨e,_⟩ | ⟨L,V⟩
 ·rw [e]; exact Qq
 ·exact Qp V.l
theorem Va.pt {t:Tm} (h:Va t) (hp:t.point=true):t.lo=t.hi/\Ui t.p t.lo=0:=by
 rcases h.i with e | ⟨L,V⟩
 ·exact e
 ·have:=Pf.1 hp;have:=V.l;grind
theorem Va.iv {t:Tm} (h:Va t) (hp:t.point=false):∃ L,Vt (cz t.p) L t.lo t.hi:=by
 rcases h.i with ⟨e,_⟩ | h
 ·have:=Pf.2 (show t.hi<=t.lo by rw [e]; exact Qq);rw [hp] at this; cases this
 ·exact h
theorem Va.cut {t:Tm} (h:Va t):Cut (Fa t):=by
 rcases h.i with ⟨e,_⟩ | ⟨L,V⟩
 ·exact Zib (x:=t.lo) λq=>Av e q
 ·have:Fa t=cq (cz t.p) t.lo t.hi:=funext λq=>Ry V.l q
  rw [this]; exact V.cut
theorem Zj7 {c:Rat->Int} (hc:Cut c) {p:List Rat} {x:Rat} (h:c x=0) (h0:ev p x=0):Ei p c:=by
 rcases O8 hc p with h1 | ⟨s,hs,h1⟩
 ·exact h1
 ·have:=Qs5 hc h h1;rw [Ff.2 h0] at this; exact absurd this.symm hs
theorem Va.van {t:Tm} (h:Va t):Ei (cz t.p) (Fa t):=by
 have hc:=h.cut;rcases h.i with ⟨e,h0⟩ | ⟨L,V⟩
 ·exact Zj7 hc (x:=t.lo) (by rw [Av e,Nt]) (by rw [Ul]; exact h0)
 ·have:Fa t=cq (cz t.p) t.lo t.hi:=funext λq=>Ry V.l q
  rw [this]; exact V.van
theorem Va.qs {t:Tm} (h:Va t):Qs 1000000 t.lo/\Qs 1000000 t.hi:=by
 obtain ⟨D,M,k,h1,h2,h3,h4⟩:=h.g;exact ⟨Qmd h1 h3 h4,Qmd h2 h3 h4⟩
theorem Va.tb {t:Tm} (h:Va t):Tb t:=⟨⟨h.tr,by have:=h.n; omega,Ug h.b (by omega)⟩,h.qs.1.mono (t:=16777216) (by omega),h.qs.2.mono (t:=16777216) (by omega)⟩
structure Hv (t:Tm) (D M k:Nat) (u:Tm):Prop where
 p:u.p=t.p
 i:u.lo=u.hi/\Ui u.p u.lo=0\/∃ L,Vt (cz u.p) L u.lo u.hi
 c:∀ q,Fa u q=Fa t q
 l:Gr D M k u.lo
 h:Gr D M k u.hi
theorem Qru {c:Rat->Int} (hc:Cut c) {x:Rat} (h:c x=0) (q:Rat):c q=Fx x q:=by
 rcases El x q with ⟨e,e'⟩ | ⟨e,e'⟩ | ⟨e,e'⟩
 ·rw [e]; exact hc.mono' e' (by omega)
 ·rw [e,<-e',h]
 ·rw [e]; exact hc.mono x q e' (by omega)
theorem Qo1 {t u:Tm} {D M k:Nat} (hu:Hv t D M k u) (hM:0<M) (hs:Ur (D:Int)+Ur (M:Int)+(k+1)<=16777216):∃ v,Qo0 u=some v/\Hv t D M (k+1) v/\v.hi-v.lo<=(u.hi-u.lo) / 2/\u.lo<=v.lo/\v.hi<=u.hi:=by
 have h2:∀ x:Rat,x / 2*2=x:=λx=>Fj (by decide)
 unfold Qo0;rcases hu.i with ⟨e,h0⟩ | ⟨L,V⟩
 ·have hp:u.point=true:=Pf.2 (by rw [e]; exact Qq);rw [if_pos hp];refine ⟨u,rfl,⟨hu.p,hu.i,hu.c,Qgg hu.l,Qgg hu.h⟩,?_,Qq,Qq⟩;rw [e]; have:=h2 (u.hi-u.hi); grind
 ·have hp:u.point=false:=by
   have:¬u.point=true:=λh=>by have:=Pf.1 h; have:=V.l; grind
   simpa using this
  rw [hp,if_neg (by decide)];obtain ⟨m,hm⟩:=nmE ((u.lo+u.hi) / 2);have hmg:Gr D M (k+1) m:=by rw [hm]; exact Qwi hu.l hu.h
  have hmm:=h2 (u.lo+u.hi);rw [<-hm] at hmm;have hl:=V.l;have hl1:u.lo<m:=by grind
  have hl2:m<u.hi:=by grind
  have hch:chq (mid u.lo u.hi)=some m:=by
   rw [Qfk,<-hm];have:=Qmd hmg hM hs;unfold chq;rw [if_pos ⟨this.1,this.2⟩]
  have hcm:mid u.lo u.hi=m:=by rw [Qfk,<-hm]
  rw [hch];show ∃ v,some (if Fa u m=0 then (⟨u.p,m,m⟩:Tm) else if Fa u m=-1 then ⟨u.p,u.lo,m⟩ else ⟨u.p,m,u.hi⟩)=some v/\_;have hw:=h2 (u.hi-u.lo);have hcu:=Ry hl;have hcut:=V.cut;have hcut':Cut (Fa u):=by rw [show Fa u=cq (cz u.p) u.lo u.hi from funext hcu]; exact hcut
  by_cases c0:Fa u m=0
  ·rw [if_pos c0];have hz:Ui u.p m=0:=by
    have:=Qf1 hcut (q:=m) (by rw [<-hcu]; exact c0) V.van;rwa [Ul] at this
   refine ⟨_,rfl,⟨hu.p,.inl ⟨rfl,hz⟩,λq=>?_,hmg,hmg⟩,by show m-m<=_; grind,by show u.lo<=m; grind,by show m<=u.hi; grind⟩;rw [Av rfl,<-hu.c];exact (Qru hcut' c0 q).symm
  ·rw [if_neg c0];by_cases c1:Fa u m=-1
   ·rw [if_pos c1];have hv:vv L m=vv L u.hi:=V.eq_hi hl1 (Qp hl2) (by rw [<-hcu,c1]; decide);have V':Vt (cz u.p) L u.lo m:=⟨V.s,hl1,by rw [hv]; exact V.v⟩;refine ⟨_,rfl,⟨hu.p,.inr ⟨L,V'⟩,λq=>?_,Qgg hu.l,hmg⟩,by show m-u.lo<=_; grind,Qq,by show m<=u.hi; grind⟩;rw [Ry hl1,<-hu.c,hcu];exact V.uniq V'.cut (Nj Qq) (by rw [Ih hl1 hl2]; decide) V'.van q
   ·rw [if_neg c1];have c2:Fa u m=1:=by rcases hcut'.val m with h | h | h <;> omega
    have hv:vv L m=vv L u.lo:=V.eq_lo hl1 (Qp hl2) (by rw [<-hcu]; exact c2);have V':Vt (cz u.p) L m u.hi:=⟨V.s,hl2,by rw [hv]; exact V.v⟩;refine ⟨_,rfl,⟨hu.p,.inr ⟨L,V'⟩,λq=>?_,hmg,Qgg hu.h⟩,by show u.hi-m<=_; grind,by show u.lo<=m; grind,Qq⟩;rw [Ry hl2,<-hu.c,hcu];exact V.uniq V'.cut (Nj (by grind)) V'.hi1 V'.van q
def TLt (a b:Tm):Prop:=∃ q,Fa a q=-1/\Fa b q=1
def TEq (a b:Tm):Prop:=∀ q,Fa a q=Fa b q
theorem tri {a b:Tm} (ha:Cut (Fa a)) (hb:Cut (Fa b)):TLt a b\/TEq a b\/TLt b a:=by
 rcases Classical.em (TEq a b) with h | h
 ·exact .inr (.inl h)
 ·obtain ⟨q,hq⟩:=Classical.not_forall.1 h;obtain ⟨r,⟨h1,h2⟩ | ⟨h1,h2⟩⟩:=Qrt ha hb hq
  ·exact .inl ⟨r,h1,h2⟩
  ·exact .inr (.inr ⟨r,h2,h1⟩)
theorem Qpc {a b:Tm} (ha:Cut (Fa a)) (hb:Cut (Fa b)) (h:TLt a b) (h':TLt b a):False:=by
 obtain ⟨q,q1,q2⟩:=h;obtain ⟨r,r1,r2⟩:=h';have:=ha.lt r2 q1;have:=hb.lt q2 r1;grind
theorem Qtm {p:List Int} (k:Nat):(p.getD k 0).natAbs<=2^Fw p:=by
 have h:Ur (p.getD k 0)<=Fw p:=by
  have key:∀ (l:List Int) (n:Nat),n≤l.foldl (λn z=>max n (Ur z)) n/\∀ z∈l,Ur z≤l.foldl (λn z=>max n (Ur z)) n:=by
   intro l
   induction l with
   | nil=>exact λn=>⟨Qm _,λz hz=>by cases hz⟩
   |
    cons y l ih =>
    intro n;obtain ⟨i1,i2⟩:=ih (max n (Ur y));refine ⟨by simp only [Z8]; omega,λz hz=>?_⟩;simp only [Z8];rcases Qo.1 hz with rfl | hz
    ·omega
    ·exact i2 z hz
  exact Uu (s:=Fw p) (λz hz=>(key p 0).2 z hz) k
 rw [Ri] at h; omega
theorem Zgq {s:Nat}:∀ (B:List Int),(∀ z∈B,z.natAbs≤2^s)->gB B≤2^(s+(B.length-1))
 | [],_=>Qg _
 |
  c::B,h=>by
  have h1:=h c (Qt ..);have h2:=Zgq B λz hz=>h z (Qh _ hz)
  simp only [gB,Q7,J6];have h3:2^s<=2^(s+B.length):=Zq (by decide) (by omega);cases B with
  | nil=>simp only [gB,Jw] at *; omega
  |
   cons d B =>
   have h4:2^(s+(d::B).length)=2*2^(s+((d::B).length-1)):=by
    rw [Zj,<-Zm]; congr 1
   rw [h4]; omega
def Rh (A B:List Int):Nat:=(Fw A+Fw B+(A.length+B.length)+8)*(2*(A.length+B.length-2)-1)
theorem Q7c {A B:List Int} (tA:Um A) (tB:Um B) (nA:A.length<=9) (nB:B.length<=9) (lA:2<=A.length) (lB:2<=B.length) {R d:Rat} (hR:1<=R) (dp:0<d)
 (hs:∀ e:Rat,0<e->∃ q r,Up q<=R/\Up r<=R/\d<=Up (q-r)/\Up (q-r)*((2^(Rh A B+1):Nat):Rat)<=1/\Up (Ui A q)<e/\Up (Ui B r)<e):False:=by
 obtain ⟨a,ha⟩:∃ a,A.length=a+1:=⟨A.length-1,by omega⟩;obtain ⟨b,hb⟩:∃ b,B.length=b+1:=⟨B.length-1,by omega⟩;obtain ⟨s,hsd⟩:=nmE (Fw A+Fw B+b);obtain ⟨N,hN⟩:∃ N,b*(2*(a*b))+a*(2*(a*b)-b)=N:=⟨_,rfl⟩;have hNt:N<=2^(a+9):=by
  rw [<-hN];have hab:∀ a b:Fin 9,b.1*(2*(a.1*b.1))+a.1*(2*(a.1*b.1)-b.1)<=2^(a.1+9):=by decide
  exact hab ⟨a,by omega⟩ ⟨b,by omega⟩
 have hK:Rh A B=(s+a+10)*(2*(a+b-1)+1):=by
  unfold Rh;rw [ha,hb,hsd,show a+1+(b+1)-2=a+b by omega,show 2*(a+b)-1=2*(a+b-1)+1 by omega];congr 1; omega
 have h0A:A.getD a 0≠0:=by have:=Gw tA (by omega); rwa [ha] at this
 have h0B:B.getD b 0≠0:=by have:=Gw tB (by omega); rwa [hb] at this
 have hp:∀ m,1<=2^m:=λm=>Zx (by decide)
 refine Zin (N:=N) (D:=2^(Rh A B-1)) ha hb h0A h0B (by omega) (by omega) (h:=2^s) (hp s) (λk=>Qd (Qtm k) (Zq (by decide) (by omega))) ?_ hN ?_ hR dp λe ep=>?_
 ·refine Qd (Zgq (s:=Fw B) B λz hz=>?_) (Zq (by decide) (by omega));obtain ⟨i,hi⟩:=Zh.1 hz;have:=Qtm (p:=B) i;rwa [Qe,hi] at this
 ·have h1:2*(N*2^s)<=2^(s+a+10):=by
   have:N*2^s<=2^(a+9)*2^s:=Qz _ hNt;rw [<-Xh] at this;rw [show s+a+10=(a+9+s)+1 by omega,Zm]; omega
  have h2:N*2^s<=2^(s+a+9):=by
   rw [show s+a+9=(a+9)+s by omega,Xh]; exact Qz _ hNt
  have h3:=Nat.pow_le_pow_left h1 (2*(a+b-1));have h4:=Zw h2 h3;rw [<-Ud,<-Xh] at h4;rw [<-Xn];refine Qd h4 (Zq (by decide) ?_);rw [hK,Xs,Yn]; omega
 ·obtain ⟨q,r,h1,h2,h3,h4,h5,h6⟩:=hs e ep;refine ⟨q,r,h1,h2,h3,?_,h5,h6⟩;have hK1:1<=Rh A B:=by
   rw [hK]; exact J3 (by omega) (by omega)
  have e1:2^(Rh A B+1)=4*2^(Rh A B-1):=by
   obtain ⟨m,hm⟩:∃ m,Rh A B=m+1:=⟨Rh A B-1,by omega⟩;rw [hm,J6,Zm,Zm]; omega
  rw [e1] at h4
  push_cast at h4 ⊢
  exact h4
theorem Hv.lo' {t:Tm} {D M k:Nat} {u:Tm} (h:Hv t D M k u):Fa t u.lo=1\/Fa t u.lo=0/\u.lo=u.hi:=by
 rw [<-h.c];rcases h.i with ⟨e,_⟩ | ⟨L,V⟩
 ·exact .inr ⟨by rw [Av e,Nt],e⟩
 ·exact .inl (by rw [Ry V.l]; exact Nj Qq)
theorem Hv.hi' {t:Tm} {D M k:Nat} {u:Tm} (h:Hv t D M k u):Fa t u.hi=0\/Fa t u.hi=-1:=by
 rw [<-h.c];rcases h.i with ⟨e,_⟩ | ⟨L,V⟩
 ·exact .inl (by rw [Av e,e,Nt])
 ·rw [Ry V.l];have:=V.hi1;rcases V.cut.val u.hi with h | h | h <;> omega
theorem Hv.le {t:Tm} {D M k:Nat} {u:Tm} (h:Hv t D M k u):u.lo<=u.hi:=by
 rcases h.i with ⟨e,_⟩ | ⟨L,V⟩
 ·rw [e]; exact Qq
 ·exact Qp V.l
theorem Q7d {a b:Tm} (ha:Va a) (hb:Va b) {D M k D' M' k':Nat} {u v:Tm} (hu:Hv a D M k u) (hv:Hv b D' M' k' v) (h:TLt a b):1<(v.hi-u.lo)*((2^(Rh a.p b.p+1):Nat):Rat):=by
 rcases U0 ((v.hi-u.lo)*((2^(Rh a.p b.p+1):Nat):Rat)) 1 with hw | hw
 ·exfalso;have ca:=ha.cut;have cb:=hb.cut;obtain ⟨m,m1,m2⟩:=h;obtain ⟨m',hm',m3⟩:=ca.dn m m1;have hpow:(0:Rat)<=((2^(Rh a.p b.p+1):Nat):Rat):=Xk;obtain ⟨R,hR⟩:=nmE (Up u.lo+Up m'+Up m+Up v.hi+1);have n1:=Gm u.lo; have n2:=Gm m'; have n3:=Gm m; have n4:=Gm v.hi;refine Q7c (R:=R) (d:=m-m') ha.tr hb.tr ha.n hb.n ha.n2 hb.n2 (by grind) (by grind) λe ep=>?_
  obtain ⟨q,q1,q2,q3⟩:∃ q,u.lo<=q/\q<=m'/\Up (Ui a.p q)<e:=by
   rcases hu.lo' with h1 | ⟨h1,_⟩
   ·obtain ⟨x,y,hx,hy,hq⟩:=ha.van e ep;rcases U0 x u.lo with e1 | e1
    ·exact ⟨u.lo,Qq,Qp (ca.lt h1 m3),by rw [<-Ul]; exact hq u.lo e1 (Qp (ca.lt h1 hy))⟩
    ·exact ⟨x,Qp e1,Qp (ca.lt hx m3),by rw [<-Ul]; exact hq x Qq (Qp (ca.lt hx hy))⟩
   ·refine ⟨u.lo,Qq,?_,by rw [<-Ul,Qf1 ca h1 ha.van,G8]; exact ep⟩;rcases U0 u.lo m' with e1 | e1
    ·exact e1
    ·have:=ca.mono m' u.lo e1 (by omega); omega
  obtain ⟨r,r1,r2,r3⟩:∃ r,r<=v.hi/\m<=r/\Up (Ui b.p r)<e:=by
   rcases hv.hi' with h1 | h1
   ·refine ⟨v.hi,Qq,?_,by rw [<-Ul,Qf1 cb h1 hb.van,G8]; exact ep⟩;rcases U0 m v.hi with e1 | e1
    ·exact e1
    ·have:=cb.mono v.hi m e1 (by omega); omega
   ·obtain ⟨x,y,hx,hy,hq⟩:=hb.van e ep;rcases U0 v.hi y with e1 | e1
    ·exact ⟨v.hi,Qq,Qp (cb.lt m2 h1),by rw [<-Ul]; exact hq v.hi (Qp (cb.lt hx h1)) e1⟩
    ·exact ⟨y,Qp e1,Qp (cb.lt m2 hy),by rw [<-Ul]; exact hq y (Qp (cb.lt hx hy)) Qq⟩
  have e1:Up (q-r)=r-q:=by unfold Up; split <;> grind
  have b1:Up q<=R:=by
   have:=Qda (R:=R) (x:=u.lo) (y:=m') (t:=q) (by grind) (by grind) q1 q2; exact this
  have b2:Up r<=R:=by
   have:=Qda (R:=R) (x:=m) (y:=v.hi) (t:=r) (by grind) (by grind) r2 r1; exact this
  refine ⟨q,r,b1,b2,by rw [e1]; grind,?_,q3,r3⟩;rw [e1];have:=Q4 (show r-q<=v.hi-u.lo by grind) hpow;exact Q9 this hw
 ·exact hw
theorem Qrb {a b:Tm} (ha:Va a) (hb:Va b) {D M k D' M' k':Nat} {u v:Tm} (hu:Hv a D M k u) (hv:Hv b D' M' k' v) (hne:¬TEq a b) (h:Bm u v=true):TLt a b:=by
 have h1:=(of_decide_eq_true h).1;have h1:=Qc0.1 h1;rcases tri ha.cut hb.cut with h2 | h2 | ⟨m,m1,m2⟩
 ·exact h2
 ·exact absurd h2 hne
 ·exfalso;have e1:m<u.hi:=by
   rcases U0 u.hi m with e | e
   ·rcases Classical.em (u.hi=m) with e' | e'
    ·have:=hu.hi'; rw [e'] at this; omega
    ·have:=ha.cut.mono u.hi m (by grind) (by have:=hu.hi'; omega); omega
   ·exact e
  have e2:v.lo<m:=by
   rcases U0 m v.lo with e | e
   ·rcases Classical.em (m=v.lo) with e' | e'
    ·have:=hv.lo'; rw [<-e'] at this; omega
    ·have:=hb.cut.mono m v.lo (by grind) (by omega);have:=hv.lo'; omega
   ·exact e
  grind
theorem Q0s {a b:Tm} (ha:Va a) (hb:Va b) {D M k D' M' k':Nat} {u v:Tm} (hu:Hv a D M k u) (hv:Hv b D' M' k' v) (hlt:TLt a b) (h:Bm u v≠true):v.lo<=u.hi:=by
 rcases U0 v.lo u.hi with e | e
 ·exact e
 ·refine absurd (decide_eq_true ⟨Qc0.2 (Qp e),λh'=>?_⟩) h;have:=Qog.1 h'.2; grind
theorem Qm4 (m:Nat):((2^(m+1):Nat):Rat)=2*((2^m:Nat):Rat):=by rw [Zm]; push_cast; grind
def Zha (a b:Tm) (r:Tm×Tm×Int):Prop:=r.2.2=-1/\TLt a b\/r.2.2=1/\TLt b a
theorem Q2y (A B:List Int):Rh A B=Rh B A:=by unfold Rh; rw [Nat.add_comm A.length,Nat.add_comm (Fw A)]
theorem Zkr {a b:Tm} (ha:Va a) (hb:Va b) (hne:¬TEq a b) {D M D' M':Nat} (hM:0<M) (hM':0<M'):∀ (i j:Nat) (u v:Tm) (k k':Nat) (W:Rat),2*i+1<=j->Hv a D M k u->Hv b D' M' k' v->Ur (D:Int)+Ur (M:Int)+(k+j)<=16777216->Ur (D':Int)+Ur (M':Int)+(k'+j)<=16777216->u.hi-u.lo<=W->v.hi-v.lo<=W->2*W*((2^(Rh a.p b.p+1):Nat):Rat)<=((2^i:Nat):Rat)->∃ r,apF j u v=some r/\Zha a b r:=by
 intro i;have step:∀ (j:Nat) (u v:Tm) (k k':Nat),Hv a D M k u->Hv b D' M' k' v->Ur (D:Int)+Ur (M:Int)+(k+(j+1))<=16777216->Ur (D':Int)+Ur (M':Int)+(k'+(j+1))<=16777216->(∃ r,apF (j+1) u v=some r/\Zha a b r)\/(Bm u v≠true/\Bm v u≠true/\∃ u' v' k1 k1',apF (j+1) u v=apF j u' v'/\Hv a D M k1 u'/\Hv b D' M' k1' v'/\k1<=k+1/\k1'<=k'+1/\(v.hi-v.lo<=u.hi-u.lo/\u'.hi-u'.lo<=(u.hi-u.lo) / 2/\v'=v\/u.hi-u.lo<=v.hi-v.lo/\v'.hi-v'.lo<=(v.hi-v.lo) / 2/\u'=u)):=by
  intro j u v k k' hu hv hs hs';by_cases h1:Bm u v=true
  ·exact .inl ⟨(u,v,-1),by simp only [apF]; rw [if_pos h1],.inl ⟨rfl,Qrb ha hb hu hv hne h1⟩⟩
  by_cases h2:Bm v u=true
  ·exact .inl ⟨(u,v,1),by simp only [apF]; rw [if_neg h1,if_pos h2],.inr ⟨rfl,Qrb hb ha hv hu (λh=>hne λq=>(h q).symm) h2⟩⟩
  refine .inr ⟨h1,h2,?_⟩;by_cases h3:0<=Fx (Qkm u.hi u.lo) (Qkm v.hi v.lo)
  ·obtain ⟨x,x1,x2,x3,_⟩:=Qo1 hu hM (by omega);refine ⟨x,v,k+1,k',?_,x2,hv,by omega,by omega,.inl ⟨?_,x3,rfl⟩⟩
   ·simp only [apF]; rw [if_neg h1,if_neg h2,if_pos h3,x1]; rfl
   ·have:=Qhh.1 h3; rwa [Qh2,Qh2] at this
  ·obtain ⟨x,x1,x2,x3,_⟩:=Qo1 hv hM' (by omega);refine ⟨u,x,k,k'+1,?_,hu,x2,by omega,by omega,.inr ⟨?_,x3,rfl⟩⟩
   ·simp only [apF]; rw [if_neg h1,if_neg h2,if_neg h3,x1]; rfl
   ·rcases U0 (u.hi-u.lo) (v.hi-v.lo) with e | e
    ·exact e
    ·refine absurd (Qhh.2 ?_) h3;rw [Qh2,Qh2]; exact Qp e
 induction i with
 |
  zero =>
  intro j u v k k' W hj hu hv hs hs' hW hW' hK;obtain ⟨j,rfl⟩:∃ m,j=m+1:=⟨j-1,by omega⟩;rcases step j u v k k' hu hv hs hs' with h | ⟨h1,h2,_⟩
  ·exact h
  ·exfalso;have hpow:(0:Rat)<=((2^(Rh a.p b.p+1):Nat):Rat):=Xk;rw [Y7] at hK;rcases tri ha.cut hb.cut with h3 | h3 | h3
   ·have h4:=Q0s ha hb hu hv h3 h1;have h5:=Q7d ha hb hu hv h3;have h6:=Q4 (show v.hi-u.lo<=2*W by clear step; grind) hpow;have h7:((1:Nat):Rat)=1:=rfl;rw [h7] at hK;clear step; grind
   ·exact hne h3
   ·have h4:=Q0s hb ha hv hu h3 h2;have h5:=Q7d hb ha hv hu h3;rw [Q2y] at h5;have h6:=Q4 (show u.hi-v.lo<=2*W by clear step; grind) hpow;have h7:((1:Nat):Rat)=1:=rfl;rw [h7] at hK;clear step; grind
 |
  succ i ih =>
  intro j u v k k' W hj hu hv hs hs' hW hW' hK;obtain ⟨j,rfl⟩:∃ m,j=m+2:=⟨j-2,by omega⟩;have hd:∀ x:Rat,x / 2*2=x:=λx=>Fj (by decide)
  rcases step (j+1) u v k k' hu hv hs hs' with h | ⟨_,_,u1,v1,k1,k1',e1,hu1,hv1,hk1,hk1',hw1⟩
  ·exact h
  ·rw [e1];rcases step j u1 v1 k1 k1' hu1 hv1 (by omega) (by omega) with h | ⟨_,_,u2,v2,k2,k2',e2,hu2,hv2,hk2,hk2',hw2⟩
   ·exact h
   ·rw [e2];have a1:=hd (u.hi-u.lo); have a2:=hd (v.hi-v.lo); have a3:=hd (u1.hi-u1.lo); have a4:=hd (v1.hi-v1.lo); have a5:=hd W;have b1:=hu.le; have b2:=hv.le; have b3:=hu1.le; have b4:=hv1.le; have b5:=hu2.le; have b6:=hv2.le;have hww:u2.hi-u2.lo<=W / 2/\v2.hi-v2.lo<=W / 2:=by
     clear step ih;rcases hw1 with ⟨c1,c2,rfl⟩ | ⟨c1,c2,rfl⟩ <;> rcases hw2 with ⟨d1,d2,rfl⟩ | ⟨d1,d2,rfl⟩ <;> constructor <;> grind
    refine ih j u2 v2 k2 k2' (W / 2) (by omega) hu2 hv2 (by omega) (by omega) hww.1 hww.2 ?_;rw [Qm4 i] at hK;have:2*(W / 2)*((2^(Rh a.p b.p+1):Nat):Rat)*2=2*W*((2^(Rh a.p b.p+1):Nat):Rat):=by clear step ih hw1 hw2; grind
    clear step ih hw1 hw2; grind
def CmpOk (a b:Tm) (c:Int):Prop:=c=-1/\TLt a b\/c=0/\TEq a b\/c=1/\TLt b a
theorem Va.hv0 {t:Tm} (h:Va t):∃ D M k,Hv t D M k t/\0<M/\Ur (D:Int)+Ur (M:Int)+k<=1000000:=by
 obtain ⟨D,M,k,h1,h2,h3,h4⟩:=h.g;exact ⟨D,M,k,⟨rfl,h.i,λ_=>rfl,h1,h2⟩,h3,h4⟩
theorem Qxb {a:Tm} (ha:Va a) (hp:a.point=true) (q:Rat):Fa a q=Fx a.lo q:=Av (ha.pt hp).1 q
theorem Q6i {a b:Tm} (hb:Va b) {x:Rat} (hx:∀ q,Fa a q=Fx x q):CmpOk a b (-Fa b x):=by
 have cb:=hb.cut;rcases cb.val x with h | h | h
 ·obtain ⟨q,q1,q2⟩:=cb.up x h;refine .inl ⟨by omega,q,?_,q2⟩;rw [hx]; rcases El x q with ⟨e,e'⟩ | ⟨e,e'⟩ | ⟨e,e'⟩ <;> grind
 ·exact .inr (.inl ⟨by omega,λq=>by rw [hx,Qru cb h]⟩)
 ·obtain ⟨q,q1,q2⟩:=cb.dn x h;refine .inr (.inr ⟨by omega,q,q2,?_⟩);rw [hx]; rcases El x q with ⟨e,e'⟩ | ⟨e,e'⟩ | ⟨e,e'⟩ <;> grind
theorem CmpOk.symm {a b:Tm} {c:Int} (h:CmpOk a b c):CmpOk b a (-c):=by
 rcases h with ⟨h1,h2⟩ | ⟨h1,h2⟩ | ⟨h1,h2⟩
 ·exact .inr (.inr ⟨by omega,h2⟩)
 ·exact .inr (.inl ⟨by omega,λq=>(h2 q).symm⟩)
 ·exact .inl ⟨by omega,h2⟩
theorem Zmf:Szz 9 1260:=⟨by decide,by decide⟩
theorem Qc9 (g:List Int) (lo hi:Rat):Qc8 g lo hi=true↔Qwj (cz g) lo hi:=by
 unfold Qc8 Qwj;rw [decide_eq_true_iff,Re,Qst,Ul]
theorem Qsd {g:List Int} (tg:Um g) (hn:g.length≠0) {lo hi:Rat} (h:Qwj (cz g) lo hi):1<g.length:=by
 rcases Q8 1 g.length with e | e
 ·exact e
 ·exfalso;obtain ⟨c,rfl⟩:∃ c,g=[c]:=Ki.1 (by omega);have hc:c≠0:=by have:=Gw tg (by simp); simpa using this
  have hv:∀ t,ev (cz [c]) t=(c:Rat):=λt=>by rw [Ul]; simp only [Ui]; grind
  have hs:Us (c:Rat)≠0:=λh=>I7 hc (Ff.1 h)
  unfold Qwj at h;rw [hv,Dy (by rw [hv]; exact hs),hv] at h;rcases h with h | h
  ·exact hs h
  ·exact h rfl
theorem Qb0 {q:Rat}:Up q<=((2^Ur q.num:Nat):Rat):=by
 have h1:Ur q.num<=Ur q.num:=Qm _;rw [Ri] at h1;have e:(q.num:Rat)=q*(q.den:Rat):=by
  have:(q.num:Rat) / (((q.den:Int)):Rat)=q:=by rw [Gt,Zv]
  have h2:(q.num:Rat) / (q.den:Rat)*(q.den:Rat)=q.num:=Zg (by have:=nat_pos q.den_pos; grind);rw [show (q.num:Rat) / (q.den:Rat)=q from this] at h2; exact h2.symm
 have hd:(1:Rat)<=(q.den:Rat):=by
  have:((1:Nat):Rat)<=(q.den:Rat):=Zb.2 q.den_pos;exact this
 have h2:Up q<=Up (q.num:Rat):=by
  rw [e,Cv];have:Up (q.den:Rat)=(q.den:Rat):=by unfold Up; rw [if_neg (by grind)]
  rw [this];have:=Su (a:=Up q) (c:=1) (Gm q) Qq (by decide) hd;grind
 rw [Rw] at h2;exact Q9 h2 (Zb.2 (Jo h1))
theorem Qf2 {a:Tm} {w:Nat} (h:Ur a.lo.num+Ur a.hi.num<=w):a.hi-a.lo<=((2^(w+1):Nat):Rat):=by
 have h1:=Qb0 (q:=a.lo);have h2:=Qb0 (q:=a.hi);have h3:((2^Ur a.lo.num:Nat):Rat)<=((2^w:Nat):Rat):=Zb.2 (Zq (by decide) (by omega));have h4:((2^Ur a.hi.num:Nat):Rat)<=((2^w:Nat):Rat):=Zb.2 (Zq (by decide) (by omega));rw [Qm4];rw [Tc] at h1 h2;grind
theorem Ab {p:List Int} {s:Nat} (h:Bd s p):Fw p<=s:=by
 have:=Sw h p.length; rwa [Q5] at this
theorem Zak {a b:Tm} (ha:Va a) (hb:Va b) (pa:a.point=false) (pb:b.point=false):Tx a b<=9000000:=by
 have q1:=ha.qs; have q2:=hb.qs;have l1:=ha.n; have l2:=hb.n;have s1:=Ab (ha.bi pa); have s2:=Ab (hb.bi pb);have b1:=q1.1.1; have b2:=q1.2.1; have b3:=q2.1.1; have b4:=q2.2.1;have:4*(a.p.length+b.p.length)*(Fw a.p+Fw b.p+(a.p.length+b.p.length)+8)<=4*18*2600:=Zw (by omega) (by omega);unfold Tx; omega
theorem Q4n {a b:Tm} (ha:Va a) (hb:Va b) (pa:a.point=false) (pb:b.point=false) (hne:¬TEq a b):∃ r,apF (Tx a b) a b=some r/\Zha a b r:=by
 obtain ⟨D,M,k,h1,h2,h3⟩:=ha.hv0;obtain ⟨D',M',k',h1',h2',h3'⟩:=hb.hv0;have hst:=Zak ha hb pa pb;obtain ⟨w,hw⟩:=nmE (Ur a.lo.num+Ur a.hi.num+Ur b.lo.num+Ur b.hi.num);obtain ⟨K,hK⟩:=nmE (Fw a.p+Fw b.p+(a.p.length+b.p.length)+8);obtain ⟨n,hn⟩:=nmE (a.p.length+b.p.length);have l1:=ha.n2; have l2:=hb.n2;have hsteps:Tx a b=64+2*w+4*n*K:=by unfold Tx; rw [hw,hK,hn]
 have hg:Rh a.p b.p=K*(2*(n-2)-1):=by unfold Rh; rw [hK,hn]
 have hgle:Rh a.p b.p+5*K<=2*n*K:=by
  rw [hg,Zj K,<-Jh];exact Qz _ (by omega)
 have hKp:8<=K:=by omega
 refine Zkr ha hb hne h2 h2' (31+w+2*n*K) (Tx a b) a b k k' ((2^(w+1):Nat):Rat) ?_ h1 h1' (by omega) (by omega) (Qf2 (by omega)) (Qf2 (by omega)) ?_
 ·rw [hsteps,Xs,Xn 4,Xn 2 n]; omega
 ·have e:2*(2^(w+1))*(2^(Rh a.p b.p+1))<=2^(31+w+2*n*K):=by
   rw [Zj 2,<-Zm,<-Xh];exact Zq (by decide) (by omega)
  have:=Zb.2 e
  push_cast at this ⊢
  exact this
theorem Qzc {a b:Tm} (ha:Va a) (hb:Va b):∃ c,Qk3 a b=some c/\CmpOk a b c:=by
 unfold Qk3;by_cases pa:a.point=true
 ·rw [if_pos pa];exact ⟨_,rfl,Q6i hb (Qxb ha pa)⟩
 rw [if_neg pa];by_cases pb:b.point=true
 ·rw [if_pos pb];have:=(Q6i ha (Qxb hb pb)).symm;rw [Int.neg_neg] at this;exact ⟨_,rfl,this⟩
 rw [if_neg pb];have pa:a.point=false:=by simpa using pa
 have pb:b.point=false:=by simpa using pb
 obtain ⟨L,V⟩:=ha.iv pa;obtain ⟨L',V'⟩:=hb.iv pb;have eqa:∀ q,Fa a q=cq (cz a.p) a.lo a.hi q:=Ry V.l;have eqb:∀ q,Fa b q=cq (cz b.p) b.lo b.hi q:=Ry V'.l;obtain ⟨lo,hlo⟩:=nmE (if 0<Fx b.lo a.lo then b.lo else a.lo);obtain ⟨hi,hhi⟩:=nmE (if Fx b.hi a.hi<0 then b.hi else a.hi);show ∃ c,(if Fx (if 0<Fx b.lo a.lo then b.lo else a.lo) (if Fx b.hi a.hi<0 then b.hi else a.hi)<0 then _ else _)=some c/\_;rw [<-hlo,<-hhi];have e1:(0<Fx b.lo a.lo)=(a.lo<b.lo):=propext Mx;have e2:(Fx b.hi a.hi<0)=(b.hi<a.hi):=propext Ba;have e3:(Fx lo hi<0)=(lo<hi):=propext Ba;simp only [e1] at hlo;simp only [e2] at hhi;simp only [e3];obtain ⟨g,g1,g2,g3,g4⟩:=Q7l Zmf ha.tr hb.tr ha.n hb.n (ha.bi pa) (hb.bi pb) (by have:=ha.n2; omega);obtain ⟨U,W,hc⟩:=g2.c;obtain ⟨u,hu⟩:=g2.da;obtain ⟨u',hu'⟩:=g2.db;have key:=V.same V' (g:=cz g) (u:=u) (u':=u') (U:=U) (W:=W) (k:=1) (by decide) hu hu' (λt=>by rw [Ul,Ul,Ul,hc]; grind) (a:=lo) (b:=hi) (by rw [hlo]; split <;> grind) (by rw [hlo]; split <;> grind) (by rw [hlo]; split <;> simp) (by rw [hhi]; split <;> grind) (by rw [hhi]; split <;> grind) (by rw [hhi]; split <;> simp);have hTE:(∀ q,cq (cz a.p) a.lo a.hi q=cq (cz b.p) b.lo b.hi q)↔TEq a b:=by
  unfold TEq; constructor
  ·intro h q; rw [eqa,eqb]; exact h q
  ·intro h q; rw [<-eqa,<-eqb]; exact h q
 rw [hTE] at key;have fin:¬TEq a b->∃ c,((apF (Tx a b) a b).bind λr=>some r.2.2)=some c/\CmpOk a b c:=λhne=>by
  obtain ⟨r,r1,r2⟩:=Q4n ha hb pa pb hne;refine ⟨r.2.2,by rw [r1]; rfl,?_⟩;rcases r2 with h | h
  ·exact .inl h
  ·exact .inr (.inr h)
 by_cases hl:lo<hi
 ·rw [if_pos hl,g1];show ∃ c,(if 1<g.length/\Qc8 g lo hi=true then some 0 else (apF (Tx a b) a b).bind λr=>some r.2.2)=some c/\_;by_cases hh:Qc8 g lo hi=true
  ·have hq:=(Qc9 g lo hi).1 hh;rw [if_pos ⟨Qsd g2.t g2.n hq,hh⟩];exact ⟨0,rfl,.inr (.inl ⟨rfl,key.1 ⟨hl,hq⟩⟩)⟩
  ·rw [if_neg λh=>hh h.2];exact fin λh=>hh ((Qc9 g lo hi).2 (key.2 h).2)
 ·rw [if_neg hl];exact fin λh=>hl (key.2 h).1
def SgT (p:List Int) (a:Tm) (s:Int):Prop:=s=0/\Ei (cz p) (Fa a)\/s≠0/\NZ (cz p) (Fa a) s
theorem Zjn {p:List Int} {c:Rat->Int} (hc:Cut c) {x:Rat} (h:c x=0):U9 p x=0/\Ei (cz p) c\/U9 p x≠0/\NZ (cz p) c (U9 p x):=by
 rw [Re,<-Ul];rcases O8 hc (cz p) with h1 | ⟨s,hs,h1⟩
 ·exact .inl ⟨Ff.2 (Qf1 hc h h1),h1⟩
 ·have:=Qs5 hc h h1;rw [this]; exact .inr ⟨hs,h1⟩
theorem Di {l:List (List Int)} {lo hi:Rat} (h:lo<=hi):Ro l lo hi=(vv (l.map cz) lo:Int)-(vv (l.map cz) hi:Int):=by
 unfold Ro;rw [if_neg λh'=>by have:=Ba.1 h'; grind,Ie,Ie]
theorem Zjo {p q:List Int} {L:List (List Rat)} (hp:Um p) (np:p.length<=9) (lp:2<=p.length) (hS:Stm (cz q) L) (hpq:Is (cz q) (cz p)) {a:Tm} (ha:Va a) {s:Int} (hnz:NZ (cz p) (Fa a) s) {D M k:Nat} {x:Tm} (hx:Hv a D M k x) (hl:x.lo<x.hi) (hv:vv L x.lo≠vv L x.hi):1<(x.hi-x.lo)*((2^(Rh a.p p+1):Nat):Rat):=by
 rcases U0 ((x.hi-x.lo)*((2^(Rh a.p p+1):Nat):Rat)) 1 with hw | hw
 ·exfalso;have ca:=ha.cut;obtain ⟨d,dp,x1,y1,c1,c2,hn⟩:=hnz;obtain ⟨x2,x12,c3⟩:=ca.up x1 c1;obtain ⟨y2,y12,c4⟩:=ca.dn y1 c2;have hpow:(0:Rat)<=((2^(Rh a.p p+1):Nat):Rat):=Xk;obtain ⟨z,zp,z1,z2⟩:=min2 (a:=x2-x1) (b:=y1-y2) (by clear hn; grind) (by clear hn; grind);obtain ⟨R0,hR0,r1,r2⟩:=Qny x.lo x.hi;obtain ⟨u,hu⟩:=hpq;refine Q7c (R:=R0+1) (d:=z) ha.tr hp ha.n np ha.n2 lp (by clear hn; grind) zp λe ep=>?_
  obtain ⟨q0,q1,q2,q3,q4,q5⟩:∃ q0,x.lo<=q0/\q0<=x.hi/\x2<=q0/\q0<=y2/\Up (Ui a.p q0)<e:=by
   rcases hx.lo' with h1 | ⟨h1,h2⟩
   ·obtain ⟨x',y',hx',hy',hq⟩:=ha.van e ep;obtain ⟨m,m1,m2,m3,m4⟩:∃ m,Fa a m=1/\x.lo<=m/\x2<=m/\x'<=m:=by
     rcases U0 x.lo x2 with e1 | e1
     ·rcases U0 x2 x' with e2 | e2
      ·exact ⟨x',hx',by clear hn hq; grind,e2,Qq⟩
      ·exact ⟨x2,c3,e1,Qq,Qp e2⟩
     ·rcases U0 x.lo x' with e2 | e2
      ·exact ⟨x',hx',e2,by clear hn hq; grind,Qq⟩
      ·exact ⟨x.lo,h1,Qq,Qp e1,Qp e2⟩
    refine ⟨m,m2,?_,m3,Qp (ca.lt m1 c4),by rw [<-Ul]; exact hq m m4 (Qp (ca.lt m1 hy'))⟩;rcases hx.hi' with h3 | h3
    ·rcases U0 m x.hi with e1 | e1
     ·exact e1
     ·have:=ca.mono x.hi m e1 (by omega); omega
    ·exact Qp (ca.lt m1 h3)
   ·exact absurd h2 (by clear hn; grind)
  obtain ⟨b,hb⟩:=nmE (evB R0 u);have hb0:0<=b:=by rw [hb]; exact A0 hR0 u
  obtain ⟨f,fp,_,hf⟩:=Gb (b:=b) (d:=if e<=d then e else d) hb0 (by split <;> assumption);obtain ⟨r,r3,r4,r5⟩:=Qqm hS hl hv fp;have hrR:Up r<=R0:=Qda r1 r2 r3 r4;have hpr:Up (Ui p r)<(if e<=d then e else d):=by
   rw [<-Ul,hu];have:=Fy (Qp r5) (Qga hrR u);rw [<-hb] at this;exact Jn.1 λh=>absurd (Q9 h this) (Jn.2 hf)
  have hpe:Up (Ui p r)<e:=by split at hpr <;> (clear hn; grind)
  have hpd:Up (Ui p r)<d:=by split at hpr <;> (clear hn; grind)
  have hrout:r<x1\/y1<r:=by
   rcases U0 x1 r with e1 | e1
   ·rcases U0 r y1 with e2 | e2
    ·have:=(hn r e1 e2).2;rw [Ul] at this;exact absurd this (Jn.2 hpd)
    ·exact .inr e2
   ·exact .inl e1
  have hqr:z<=Up (q0-r):=by
   clear hn;rcases hrout with h | h
   ·have:Up (q0-r)=q0-r:=by unfold Up; split <;> grind
    rw [this]; grind
   ·have:Up (q0-r)=r-q0:=by unfold Up; split <;> grind
    rw [this]; grind
  have hq0R:Up q0<=R0:=Qda r1 r2 q1 q2;refine ⟨q0,r,by clear hn; grind,by clear hn; grind,hqr,?_,q5,hpe⟩;have h1:Up (q0-r)<=x.hi-x.lo:=by rw [Tc]; clear hn; constructor <;> grind
  exact Q9 (Q4 h1 hpow) hw
 ·exact hw
theorem Q96 {p q:List Int} {l:List (List Int)} (hp:Um p) (np:p.length<=9) (lp:2<=p.length) (hS:Stm (cz q) (l.map cz)) (hpq:Is (cz q) (cz p)) {a:Tm} (ha:Va a) {s:Int} (hnz:NZ (cz p) (Fa a) s) {D M:Nat} (hM:0<M):∀ (j i:Nat) (x:Tm) (k:Nat) (W:Rat),i+1<=j->Hv a D M k x->Ur (D:Int)+Ur (M:Int)+(k+j)<=16777216->x.hi-x.lo<=W->W*((2^(Rh a.p p+1):Nat):Rat)<=((2^i:Nat):Rat)->∃ u k',sgF l j x=some u/\Hv a D M k' u/\(u.point=true\/Ro l u.lo u.hi=0)
 | 0,i,x,k,W,h,_,_,_,_=>by omega
 |
  j+1,i,x,k,W,hj,hx,hs,hW,hK=>by
  simp only [sgF];by_cases h:x.point=true\/Ro l x.lo x.hi=0
  ·rw [if_pos h]; exact ⟨x,k,rfl,hx,h⟩
  ·rw [if_neg h];obtain ⟨v,v1,v2,v3,_⟩:=Qo1 hx hM (by omega);rw [v1];show ∃ u k',sgF l j v=some u/\_;have hpt:¬x.hi<=x.lo:=λh'=>h (.inl (Pf.2 h'))
   have hl:x.lo<x.hi:=by grind
   have hvv:vv (l.map cz) x.lo≠vv (l.map cz) x.hi:=λh'=>h (.inr (by rw [Di (Qp hl)]; omega))
   have hg:=Zjo hp np lp hS hpq ha hnz hx hl hvv;have hpow:(0:Rat)<=((2^(Rh a.p p+1):Nat):Rat):=Xk;have hd:∀ x:Rat,x / 2*2=x:=λx=>Fj (by decide)
   cases i with
   |
    zero =>
    exfalso;rw [Y7] at hK;have:=Q4 hW hpow;have h7:((1:Nat):Rat)=1:=rfl;rw [h7] at hK;grind
   |
    succ i =>
    refine Q96 hp np lp hS hpq ha hnz hM j i v (k+1) (W / 2) (by omega) v2 (by omega) ?_ ?_
    ·have:=hd (x.hi-x.lo); have:=hd W; grind
    ·rw [Qm4 i] at hK;have:=hd W;have:W / 2*((2^(Rh a.p p+1):Nat):Rat)*2=W*((2^(Rh a.p p+1):Nat):Rat):=by grind
     grind
theorem Qtd {x y:Rat}:∀ {ws:List (List Rat)},(∀ w∈ws,Us (ev w x)=Us (ev w y))->Us (ev (E4 ws) x)=Us (ev (E4 ws) y)
 | [],_=>by simp only [E4]; rw [Hm,Hm]
 |
  w::l,h=>by
  simp only [E4];rw [Uo,Uo,Rv,Rv,h w (Qt ..),Qtd λv hv=>h v (Qh _ hv)]
theorem Q3g {p q o:List Int} (hpt:Parts p q o) (tp:Um p) (hp:p.length≠0) {L:List (List Rat)} (hS:Stm (cz q) L) {x y:Rat} (hxy:x<y) (hv:vv L x=vv L y):∃ s,s≠0/\∀ z,x<z->z<=y->Us (Ui p z)=s:=by
 obtain ⟨ws,w1,w2⟩:=hpt.ws;obtain ⟨_,_,_,_,_,p6,p7⟩:=Bv tp hp;have key:∀ z,x<z->z≤y->∀ w∈ws.map cz,Sm w x z:=λz h1 h2 w hw=>by
  obtain ⟨v,hv',rfl⟩:=Zi.1 hw;obtain ⟨u,hu⟩:=(w1 v hv').2;have a1:=Lb hS h1;have a2:vv L y<=vv L z:=by
   rcases Classical.em (z=y) with e | e
   ·rw [e]; exact Qm _
   ·exact Lb hS (by grind)
  exact Qbp hS hu h1 (by omega)
 have hval:∀ z,Ui p z=(Gl p:Rat)*ev (E4 (ws.map cz)) z:=λz=>by rw [p7,w2]
 refine ⟨Us (Ui p y),λh0=>?_,λz h1 h2=>?_⟩
 ·rw [hval,Rv] at h0;rcases J9.1 h0 with h | h
  ·exact I7 p6 (Ff.1 h)
  ·have:∀ l:List (List Rat),(∀ w∈l,Us (ev w y)≠0)->Us (ev (E4 l) y)≠0:=by
    intro l
    induction l with
    | nil=>intro _; simp only [E4]; rw [Hm]; decide
    |
     cons w l ih =>
     intro h;simp only [E4];rw [Uo,Rv];exact Jj (h w (Qt ..)) (ih λv hv=>h v (Qh _ hv))
   refine this _ (λw hw=>?_) h;have hs:=key y hxy Qq w hw;rw [hs.s]; exact hs.n
 ·rw [hval,hval,Rv,Rv,Qtd (y:=y) λw hw=>(key z h1 h2 w hw).s.trans (key y hxy Qq w hw).s.symm]
theorem Zio {g p P:List Int} {c:Rat->Int} (hc:Cut c) (hg:Gc g p P):Ei (cz g) c↔Ei (cz p) c/\Ei (cz P) c:=by
 constructor
 ·intro h;obtain ⟨u,hu⟩:=hg.da;obtain ⟨v,hv⟩:=hg.db;exact ⟨T0 hc hu h,T0 hc hv h⟩
 ·rintro ⟨h1,h2⟩
  obtain ⟨U,V,hcc⟩:=hg.c;have a1:Ei (Fu U (cz p)) c:=T0 hc (p:=cz p) (q:=U) (λt=>by rw [Uo]; grind) h1;have a2:Ei (Fu V (cz P)) c:=T0 hc (p:=cz P) (q:=V) (λt=>by rw [Uo]; grind) h2;exact Qh8 (λt=>by rw [Ul,hcc,Uo,Uo,Ul,Ul]) a1 a2
theorem Zae {p:List Int} (hp:Okp 9 1180 p) {a:Tm} (ha:Va a):∃ s,Qbo p a=some s/\SgT p a s:=by
 unfold Qbo;rw [if_neg hp.nz];have ca:=ha.cut;by_cases pa:a.point=true
 ·rw [if_pos pa];exact ⟨_,rfl,Zjn ca (x:=a.lo) (by rw [Qxb ha pa,Nt])⟩
 rw [if_neg pa];have pa:a.point=false:=by simpa using pa
 obtain ⟨L,V⟩:=ha.iv pa;have eqa:∀ q,Fa a q=cq (cz a.p) a.lo a.hi q:=Ry V.l;obtain ⟨g,g1,g2,g3,g4⟩:=Q7l Zmf hp.t ha.tr hp.l ha.n (Ug hp.b (by omega)) (ha.bi pa) hp.nz;obtain ⟨u',hu'⟩:=g2.db;have hhas:=V.has hu' (a:=a.lo) (b:=a.hi) Qq V.l Qq;have hvan:=Zio ca g2;rw [show cq (cz a.p) a.lo a.hi=Fa a from (funext eqa).symm] at hhas;rw [g1];show ∃ s,(if 1<g.length/\Qc8 g a.lo a.hi=true then some 0 else _)=some s/\_;by_cases hh:Qc8 g a.lo a.hi=true
 ·have hq:=(Qc9 g _ _).1 hh;rw [if_pos ⟨Qsd g2.t g2.n hq,hh⟩];exact ⟨0,rfl,.inl ⟨rfl,(hvan.1 (hhas.1 hq).1).1⟩⟩
 ·rw [if_neg λh=>hh h.2];have hnv:¬Ei (cz p) (Fa a):=λh=>hh ((Qc9 g _ _).2 (hhas.2 ⟨hvan.2 ⟨h,ha.van⟩,by rw [eqa]; exact Nj Qq,by rw [eqa]; exact V.hi1⟩))
  rcases O8 ca (cz p) with h | ⟨s,hs0,hnz⟩
  ·exact absurd h hnv
  obtain ⟨q,o,q1,q2,hpt⟩:=Q8m hp;obtain ⟨q',l,r1,r2,hS,hl0⟩:=chain_ok hp;rw [q1] at r1;injection r1 with r1;subst r1;rw [r2];show ∃ s,((sgF (q::l) (64+2*(Ur a.lo.num+Ur a.hi.num)+4*(a.p.length+p.length)*(Fw a.p+Fw p+(a.p.length+p.length)+8)) a).bind λx=>some (U9 p x.hi))=some s/\_;obtain ⟨w,hw⟩:=nmE (Ur a.lo.num+Ur a.hi.num);obtain ⟨K,hK⟩:=nmE (Fw a.p+Fw p+(a.p.length+p.length)+8);obtain ⟨n,hn⟩:=nmE (a.p.length+p.length);rw [<-hw,<-hK,<-hn];obtain ⟨gg,sq⟩:=hpt.sq;obtain ⟨_,_,_,_,_,pf0,pfe⟩:=Bv hp.t hp.nz;have hpq:Is (cz q) (cz p):=⟨Bj (Gl p) (cz gg),λt=>by rw [Ul,Ul,Fb,Ul,pfe,sq.e]; grind⟩;obtain ⟨D,M,k,h1,h2,h3⟩:=ha.hv0;have b1:=ha.qs.1.1; have b2:=ha.qs.2.1;have l1:=ha.n; have l2:=hp.l; have l3:=ha.n2;have s1:=Ab (ha.bi pa); have s2:=Ab hp.b;have hst:4*n*K<=4*18*2466:=Zw (by omega) (by omega);have hend:∃ u k',sgF (q::l) (64+2*w+4*n*K) a=some u/\Hv a D M k' u/\(u.point=true\/Ro (q::l) u.lo u.hi=0):=by
   by_cases hpl:p.length<2
   ·have hq1:(Uy p)=[1]:=hp.pr.1.one (by have:=hp.pr.2.1; omega);have hql:q.length<2:=by
     have e:=sq.e;rw [hq1] at e;obtain ⟨p1,p2⟩:=Ho (c:=[1]) rfl (by simp) e;have:=Pa sq.pg.t sq.pq.t (c:=[1]) rfl e p1 p2;simp at this; omega
    have hbt:Ro (q::l) a.lo a.hi=0:=by
     rw [Di (Qp V.l),hl0 hql,sq.pq.one hql];have hv1:∀ x:Rat,ev (cz [1]) x=1:=λx=>by rw [Ul,Pe]
     simp only [Zt,Jb,vv,tc,hv1]; omega
    refine ⟨a,k,?_,h1,.inr hbt⟩;obtain ⟨m,hm⟩:∃ m,64+2*w+4*n*K=m+1:=⟨63+2*w+4*n*K,by omega⟩;rw [hm];simp only [sgF];rw [if_pos (.inr hbt)]
   ·have hg:Rh a.p p=K*(2*(n-2)-1):=by unfold Rh; rw [hK,hn]
    have hgle:Rh a.p p+5*K<=2*n*K:=by
     rw [hg,Zj K,<-Jh];exact Qz _ (by omega)
    have hKp:8<=K:=by omega
    have hnK:2*n*K<=4*n*K:=Qz _ (by omega);obtain ⟨u,k',u1,u2,u3⟩:=Q96 hp.t hp.l (by omega) hS hpq ha hnz h2 (64+2*w+4*n*K) (2+w+2*n*K) a k ((2^(w+1):Nat):Rat) (by omega) h1 (by omega) (Qf2 (by omega)) (by
     have e:(2^(w+1))*(2^(Rh a.p p+1))<=2^(2+w+2*n*K):=by
      rw [<-Xh];exact Zq (by decide) (by omega)
     have:=Zb.2 e
     push_cast at this ⊢
     exact this)
    exact ⟨u,k',u1,u2,u3⟩
  obtain ⟨u,k',u1,u2,u3⟩:=hend;rw [u1];refine ⟨_,rfl,.inr ?_⟩;have hfin:U9 p u.hi=s:=by
   rcases u2.hi' with hz | hz
   ·have:=Qs5 ca hz hnz;rw [Re,<-Ul]; exact this
   ·rcases u2.i with ⟨e,_⟩ | ⟨L',V'⟩
    ·have:=u2.c u.hi;rw [Av e,e,Nt] at this; omega
    ·have hup:u.point=false:=by
      have:¬u.point=true:=λh=>by have:=Pf.1 h; have:=V'.l; grind
      simpa using this
     rcases u3 with h | h
     ·rw [hup] at h; cases h
     ·rw [Di (Qp V'.l)] at h;obtain ⟨s',hs',hps⟩:=Q3g hpt hp.t hp.nz hS V'.l (by omega);obtain ⟨d,dp,x,y,hx,hy,hq⟩:=hnz;have hlo1:Fa a u.lo=1:=by
       rcases u2.lo' with h | ⟨_,h⟩
       ·exact h
       ·have:=V'.l; clear hps hq; grind
      obtain ⟨m,m1,m2,m3⟩:=Qip ca hlo1 hx;have e1:=(hq m (Qp m3) (Qp (ca.lt m1 hy))).1;have e2:=hps m m2 (Qp (ca.lt m1 hz));have e3:=hps u.hi V'.l Qq;rw [Re,e3,<-e2,<-Ul,e1]
  rw [hfin]; exact ⟨hs0,hnz⟩
structure Dp (p:List Int):Prop where
 t:Um p
 l:p.length<=9
 b:Bd (1130+4*(9-p.length)) p
theorem Q0r:Szz 9 1253:=⟨by decide,by decide⟩
theorem Dp.ok {p:List Int} (h:Dp p) (h0:p.length≠0):Okp 9 1180 p:=⟨Q0r,h.t,h0,h.l,Ug h.b (by omega)⟩
theorem Dp.der {p:List Int} (h:Dp p):Dp (Fg p):=by
 have hl:=Sr p;have hl2:=h.l;refine ⟨Uv _ _,by omega,?_⟩;by_cases h0:p.length=0
 ·rw [Qi (l:=Fg p) (by omega)]; exact Iw
 ·exact Ug (Quz h.b (by omega)) (by omega)
def Ch (a:Tm) (p:List Int):Int:=(Qbo p a).getD 0
theorem Q94 {p:List Int} (h:Dp p) {a:Tm} (ha:Va a):Qbo p a=some (Ch a p)/\SgT p a (Ch a p):=by
 by_cases h0:p.length=0
 ·have e:p=[]:=Qi h0;subst e;refine ⟨rfl,.inl ⟨rfl,λd dp=>?_⟩⟩;obtain ⟨x,y,h1,h2,_⟩:=ha.cut.near (e:=1) (by decide);exact ⟨x,y,h1,h2,λq _ _=>by simp only [cz,Jb,ev,G8]; exact dp⟩
 ·obtain ⟨s,h1,h2⟩:=Zae (h.ok h0) ha;have e:Ch a p=s:=by unfold Ch; rw [h1]; rfl
  rw [e]; exact ⟨h1,h2⟩
theorem Zjk {c:Rat->Int} {p q:List Rat} {s:Int} (h:∀ t,ev p t=ev q t) (hp:RS p c s):RS q c s:=by
 obtain ⟨y,h1,h2⟩:=hp;exact ⟨y,h1,λz h3 h4=>by rw [<-h]; exact h2 z h3 h4⟩
theorem Qmc {a:Tm} (ha:Va a):∀ (k:Nat) (p:List Int),Dp p->p.length<=k->p.length≠0->RS (cz p) (Fa a) (Hd (Ch a) k p)/\Hd (Ch a) k p≠0
 | 0,p,_,h1,h2=>by omega
 |
  k+1,p,h,h1,h2=>by
  simp only [Hd];rw [if_neg h2];obtain ⟨_,hs⟩:=Q94 h ha;rcases hs with ⟨e,hv⟩ | ⟨e,hn⟩
  ·rw [if_pos e];have hdn:(Fg p).length≠0:=λh0=>by
    by_cases h3:p.length=1
    ·obtain ⟨c,rfl⟩:∃ c,p=[c]:=Ki.1 h3;have hc:c≠0:=by have:=Gw h.t (by simp); simpa using this
     obtain ⟨q,hq,_⟩:=Qs3 ha.cut (hv (Up (c:Rat)) (M9 (I7 hc)));rw [Ul] at hq;have:Ui [c] q=(c:Rat):=by simp only [Ui]; grind
     rw [this] at hq; grind
    ·have h4:=Ts p (p.length-2);rw [Qi h0,show p.length-2+1=p.length-1 by omega] at h4;have h5:p.getD (p.length-1) 0≠0:=Gw h.t (by omega);rcases J9.1 (h4.symm.trans (by simp)) with h6 | h6
     ·exact h5 h6
     ·omega
   have hl:=Sr p;obtain ⟨i1,i2⟩:=Qmc ha k (Fg p) h.der (by omega) hdn;exact ⟨Qqb ha.cut hv (Zjk (λt=>by rw [Ul,E6,Hy]) i1) i2,i2⟩
  ·rw [if_neg e]; exact ⟨Qnc ha.cut hn,e⟩
theorem Qzx {a:Tm} (ha:Va a) {p:List Int} (h:Dp p) (h0:p.length≠0):RS (cz p) (Fa a) (Nw (Ch a) p)/\Nw (Ch a) p≠0:=Qmc ha _ p h (Qm _) h0
theorem Zd4 {l:List Int}:∀ z∈l,z.natAbs≤most l:=by
 have key:∀ (l:List Int) (m:Nat),m≤l.foldl (λm z=>if m<z.natAbs then z.natAbs else m) m/\∀ z∈l,z.natAbs≤l.foldl (λm z=>if m<z.natAbs then z.natAbs else m) m:=by
  intro l
  induction l with
  | nil=>exact λm=>⟨Qm _,λz hz=>by cases hz⟩
  |
   cons y l ih =>
   intro m;obtain ⟨e,he⟩:=nmE (if m<y.natAbs then y.natAbs else m);have h1:m<=e/\y.natAbs<=e:=by rw [he]; split <;> omega
   obtain ⟨i1,i2⟩:=ih e;simp only [Z8];rw [<-he];refine ⟨by omega,λz hz=>?_⟩;rcases Qo.1 hz with rfl | hz
   ·omega
   ·exact i2 z hz
 exact (key l 0).2
theorem Qig {p:List Int} (h:Ux p≠0):Ga p*((Ux p).natAbs:Rat)=((Ux p).natAbs:Rat)+((most (p.take (p.length-1)):Nat):Rat):=by
 unfold Ga;rw [<-Gt];have hp:0<(Ux p).natAbs:=by omega
 have:=nat_pos hp;rw [show ((((Ux p).natAbs:Int)):Rat)=((Ux p).natAbs:Rat) from rfl,Fj this];rw [V9]; rfl
theorem Qzt {m:Nat} {x:Rat} (hx:1≤Up x):∀ (p:List Int) (lp:p.length≠0),(∀ z∈p.take (p.length-1),z.natAbs≤m)->Ux p≠0->(m:Rat)≤(Up x-1)*((Ux p).natAbs:Rat)->((Ux p).natAbs:Rat)≤Ui p x*(((Int.sign (Ux p))*(if x<0/\p.length % 2=0 then -1 else 1):Int):Rat)
 | [],lp,_,_,_=>absurd rfl lp
 |
  [c],_,_,hc,_=>by
  have hl:Ux [c]=c:=rfl;rw [hl] at hc ⊢;rw [if_neg (by simp),Wg];have h1:Ui [c] x=(c:Rat):=by simp only [Ui]; grind
  rw [h1];have h2:c*Int.sign c=(c.natAbs:Int):=Int.mul_sign_self c;have:=congrArg (λz:Int=>(z:Rat)) h2;rw [Xx] at this;rw [this]; exact Qq
 |
  c::d::p,_,hm,hc,hb=>by
  have hl:Ux (c::d::p)=Ux (d::p):=by unfold Ux; simp [List.getD_cons_succ]
  have ih:=Qzt hx (d::p) (by simp) (λz hz=>hm z (by
   have e:(c::d::p).take ((c::d::p).length-1)=c::(d::p).take ((d::p).length-1):=by simp
   rw [e]; exact Qh _ hz)) (by rw [<-hl]; exact hc) (by rw [<-hl]; exact hb)
  rw [hl] at hc hb ⊢;have hcm:=hm c (by simp);obtain ⟨s,hs⟩:∃ s:Int,s=Int.sign (Ux (d::p)):=⟨_,rfl⟩;have hsv:s=1\/s=-1:=by
   rw [hs];rcases Ka hc with h | h
   ·exact .inr (X5 h)
   ·exact .inl (Jg h)
  rw [<-hs] at ih ⊢;obtain ⟨ld,hld⟩:∃ ld:Rat,ld=((Ux (d::p)).natAbs:Rat):=⟨_,rfl⟩;rw [<-hld] at ih hb ⊢;have hcq:Up (c:Rat)<=(m:Rat):=by rw [Rw]; exact Zb.2 hcm
  rw [Tc] at hcq;have e1:Ui (c::d::p) x=(c:Rat)+x*Ui (d::p) x:=rfl;rw [e1];have hlen:(c::d::p).length % 2=0↔¬(d::p).length % 2=0:=by simp only [Q7]; omega
  generalize Ui (d::p) x=y at *;generalize (m:Rat)=mm at *;generalize (c:Rat)=cc at *;have hx0:=hx;by_cases hneg:x<0
  ·have hq:Up x=-x:=by unfold Up; rw [if_pos hneg]
   rw [hq] at hx0 hb;by_cases hpar:(d::p).length % 2=0
   ·rw [if_pos ⟨hneg,hpar⟩] at ih;rw [if_neg λh=>(hlen.1 h.2) hpar];rcases hsv with rfl | rfl
    ·have ih:ld<=y*(-1):=by simpa using ih
     have:=Zn ih (show 0<=-x by grind);have e:(((1:Int)*1:Int):Rat)=1:=rfl;rw [e]; grind
    ·have ih:ld<=y*1:=by simpa using ih
     have:=Zn ih (show 0<=-x by grind);have e:(((-1:Int)*1:Int):Rat)=-1:=rfl;rw [e]; grind
   ·rw [if_neg λh=>hpar h.2] at ih;rw [if_pos ⟨hneg,hlen.2 hpar⟩];rcases hsv with rfl | rfl
    ·have ih:ld<=y*1:=by simpa using ih
     have:=Zn ih (show 0<=-x by grind);have e:(((1:Int)*-1:Int):Rat)=-1:=rfl;rw [e]; grind
    ·have ih:ld<=y*(-1):=by simpa using ih
     have:=Zn ih (show 0<=-x by grind);have e:(((-1:Int)*-1:Int):Rat)=1:=rfl;rw [e]; grind
  ·have hq:Up x=x:=by unfold Up; rw [if_neg hneg]
   rw [hq] at hx0 hb;rw [if_neg λh=>hneg h.1] at ih ⊢;rcases hsv with rfl | rfl
   ·have ih:ld<=y*1:=by simpa using ih
    have:=Zn ih (show 0<=x by grind);have e:(((1:Int)*1:Int):Rat)=1:=rfl;rw [e]; grind
   ·have ih:ld<=y*(-1):=by simpa using ih
    have:=Zn ih (show 0<=x by grind);have e:(((-1:Int)*1:Int):Rat)=-1:=rfl;rw [e]; grind
theorem Qu1 {p:List Int} (tp:Um p) (lp:p.length≠0) {x:Rat} (hx:Ga p<=Up x):1<=Up (Ui p x)/\(0<=x->U9 p x=Q2s p)/\(x<0->U9 p x=Q2r p):=by
 have hl:=Lp tp lp;have hpos:0<(Ux p).natAbs:=by omega
 have h1:(1:Rat)<=((Ux p).natAbs:Rat):=by
  have:((1:Nat):Rat)<=((Ux p).natAbs:Rat):=Zb.2 hpos;exact this
 have hm0:(0:Rat)<=((most (p.take (p.length-1)):Nat):Rat):=Xk;have hb:=Qig hl;have hx1:=Q4 hx (show (0:Rat)<=((Ux p).natAbs:Rat) by grind);have hx2:1<=Up x:=by
  rcases U0 1 (Up x) with h | h
  ·exact h
  ·exfalso;have:=Vv h (show (0:Rat)<((Ux p).natAbs:Rat) by grind);grind
 have key:=Qzt (m:=most (p.take (p.length-1))) hx2 p lp (λz hz=>Zd4 z hz) hl (by grind);obtain ⟨s,hs⟩:∃ s:Int,s=Int.sign (Ux p)*(if x<0/\p.length % 2=0 then -1 else 1):=⟨_,rfl⟩;rw [<-hs] at key;have hsv:s=1\/s=-1:=by
  rw [hs];rcases Ka hl with h | h
  ·rw [X5 h]; split <;> simp
  ·rw [Jg h]; split <;> simp
 have hsg:U9 p x=s/\1<=Up (Ui p x):=by
  rw [Re];rcases hsv with e | e
  ·rw [e] at key ⊢;have key:((Ux p).natAbs:Rat)<=Ui p x:=by simpa using key
   exact ⟨G9.2 (by grind),by unfold Up; rw [if_neg (by grind)]; grind⟩
  ·rw [e] at key ⊢;have key:((Ux p).natAbs:Rat)<=Ui p x*(-1):=by simpa using key
   exact ⟨Td.2 (by grind),by unfold Up; rw [if_pos (by grind)]; grind⟩
 refine ⟨hsg.2,λh=>?_,λh=>?_⟩
 ·rw [hsg.1,hs,if_neg λh'=>by have:=h'.1; grind]; unfold Q2s; omega
 ·rw [hsg.1,hs]; unfold Q2r;by_cases he:p.length % 2=0
  ·rw [if_pos ⟨h,he⟩,if_pos he]; omega
  ·rw [if_neg λh'=>he h'.2,if_neg he]; omega
theorem O7 {f g:List Int->Int}:∀ {l:List (List Int)} (s:Nat×Int),(∀ p∈l,f p=g p)->l.foldl (Nn f) s=l.foldl (Nn g) s
 | [],s,_=>rfl
 |
  p::l,s,h=>by
  simp only [Z8];have e:Nn f s p=Nn g s p:=by unfold Nn; rw [h p (List.mem_cons_self ..)]
  rw [e]; exact O7 _ λq hq=>h q (Qh _ hq)
theorem Qzo:∀ (l:List (List Int)),(∀ p∈l,Um p/\p.length≠0)->∃ X:Rat,0<X/\∀ x,X≤x->(∀ p∈l,U9 p x=Q2s p)/\∀ p∈l,U9 p (-x)=Q2r p
 | [],_=>⟨1,by decide,λx _=>⟨(λp hp=>by cases hp),(λp hp=>by cases hp)⟩⟩
 |
  p::l,h=>by
  obtain ⟨X,hX,hl⟩:=Qzo l λq hq=>h q (Qh _ hq)
  obtain ⟨tp,lp⟩:=h p (Qt ..);refine ⟨X+Up (Ga p),by have:=Gm (Ga p); grind,λx hx=>?_⟩;have hb0:=Gm (Ga p);have hb1:Ga p<=Up (Ga p):=by unfold Up; split <;> grind
  obtain ⟨l1,l2⟩:=hl x (by grind);have e1:Up x=x:=by unfold Up; rw [if_neg (by grind)]
  have e2:Up (-x)=x:=by rw [Cw,e1]
  refine ⟨λq hq=>?_,λq hq=>?_⟩
  ·rcases Qo.1 hq with rfl | hq
   ·exact (Qu1 tp lp (x:=x) (by rw [e1]; grind)).2.1 (by grind)
   ·exact l1 q hq
  ·rcases Qo.1 hq with rfl | hq
   ·exact (Qu1 tp lp (x:=-x) (by rw [e2]; grind)).2.2 (by grind)
   ·exact l2 q hq
theorem Qx6 {q:List Int} {L:List (List Rat)} (hS:Stm (cz q) L) (tq:Um q) (lq:q.length≠0) {x y:Rat} (hxy:x<y) (h:Ga q<=x\/y<=-Ga q) (hb:0<Ga q):vv L x=vv L y:=by
 rcases Classical.em (vv L x=vv L y) with e | e
 ·exact e
 ·exfalso;obtain ⟨r,r1,r2,r3⟩:=Qqm hS hxy e (d:=1) (by decide);have:=(Qu1 tq lq (x:=r) (by rcases h with h | h <;> (unfold Up; split <;> grind))).1;rw [Ul] at r3; grind
theorem Qet {p:List Int} (h:Ux p≠0):1<=Ga p:=by
 have hb:=Qig h;have hp:=nat_pos (show 0<(Ux p).natAbs by omega);have hm0:(0:Rat)<=((most (p.take (p.length-1)):Nat):Rat):=Xk;rcases U0 1 (Ga p) with h' | h'
 ·exact h'
 ·have:=Vv h' hp; grind
theorem Q3s {q:List Int} {l:List (List Int)} (hS:Stm (cz q) ((q::l).map cz)) (hl:∀ p∈q::l,Um p/\p.length≠0):Qp9 (q::l)=(vv ((q::l).map cz) (-Ga q):Int)-(vv ((q::l).map cz) (Ga q):Int):=by
 obtain ⟨tq,lq⟩:=hl q (Qt ..);have hb:=Qet (Lp tq lq);obtain ⟨X,hX,hx⟩:=Qzo (q::l) hl;obtain ⟨h1,h2⟩:=hx (X+Ga q) (by grind);have e1:O6 Q2s (q::l)=vv ((q::l).map cz) (X+Ga q):=by
  rw [<-Ie]; unfold Cy O6;rw [O7 (f:=Q2s) (g:=λp=>U9 p (X+Ga q)) (0,0) λp hp=>(h1 p hp).symm]
 have e2:O6 Q2r (q::l)=vv ((q::l).map cz) (-(X+Ga q)):=by
  rw [<-Ie]; unfold Cy O6;rw [O7 (f:=Q2r) (g:=λp=>U9 p (-(X+Ga q))) (0,0) λp hp=>(h2 p hp).symm]
 unfold Qp9;rw [e1,e2,Qx6 hS tq lq (x:=-(X+Ga q)) (y:=-Ga q) (by grind) (.inr Qq) (by grind),<-Qx6 hS tq lq (x:=Ga q) (y:=X+Ga q) (by grind) (.inl Qq) (by grind)]
theorem Zi3 {f:List Rat} {L:List (List Rat)} (hS:Stm f L) {x y:Rat} (hxy:x<y) (hv:vv L y+2<=vv L x):∃ m,x<m/\m<y/\vv L m<vv L x/\vv L y<vv L m/\ev f m≠0:=by
 obtain ⟨R,hR,hx,hy⟩:=Qny x y;obtain ⟨e,ep,he⟩:=Za1 hS R hR;have key:∀ n:Nat,∀ x,Up x<=R->x<y->vv L y+2<=vv L x->y-x<=(n:Rat)*e->∃ m,x<m/\m<y/\vv L m<vv L x/\vv L y<vv L m:=by
  intro n
  induction n with
  | zero=>intro x _ hxy _ hn; rw [show ((0:Nat):Rat)=0 from rfl] at hn; exfalso; clear he; grind
  |
   succ n ih =>
   intro x hx hxy hv hn;have hn':(((n+1:Nat):Rat))=(n:Rat)+1:=by push_cast; rfl
   rw [hn'] at hn;rcases U0 (y-x) e with h1 | h1
   ·have:=he x y hx hy hxy h1; omega
   ·have hm:Up (x+e)<=R:=Qda hx hy (by clear he ih; grind) (by clear he ih; grind);have h2:=he x (x+e) hx hm (by clear he ih; grind) (by clear he ih; grind);have h3:=Lb hS (show x<x+e by clear he ih; grind);by_cases h4:vv L x=vv L (x+e)
    ·obtain ⟨m,m1,m2,m3,m4⟩:=ih (x+e) hm (by clear he ih; grind) (by omega) (by clear he ih; grind);exact ⟨m,by clear he ih; grind,m2,by omega,m4⟩
    ·exact ⟨x+e,by clear he ih; grind,by clear he ih; grind,by omega,by omega⟩
 obtain ⟨n,hn⟩:=Iv (z:=y-x) ep;obtain ⟨m,m1,m2,m3,m4⟩:=key n x hx hxy hv hn;rcases Classical.em (ev f m=0) with h0 | h0
 ·-- a little farther on
  obtain ⟨e2,e2p,hl⟩:=loc hR hS (w:=f) (u:=[1]) (λt=>by rw [Hm]; grind);obtain ⟨d,dp,d1,d2⟩:=min2 (a:=e2) (b:=(y-m) / 2) e2p (Dq (by clear he key hl; grind) (by decide));have h2:(y-m) / 2*2=y-m:=Fj (by decide);have hmR:Up m<=R:=Qda hx hy (Qp m1) (Qp m2);have hmR2:Up (m+d)<=R:=Qda hx hy (by clear he key hl; grind) (by clear he key hl; grind);rcases hl m (m+d) hmR hmR2 (by clear he key hl; grind) (by clear he key hl; grind) with ⟨p1,p2,_⟩ | ⟨_,p1,_,p3,_⟩
  ·refine ⟨m+d,by clear he key hl; grind,by clear he key hl; grind,by omega,by omega,λh'=>?_⟩;have:=p2.s;rw [Ff.2 h'] at this; exact p2.n this.symm
  ·rw [Ff.2 h0] at p3; exact absurd p3.symm p1
 ·exact ⟨m,m1,m2,m3,m4,h0⟩
theorem Zfv {q:List Int} {L:List (List Rat)} (hS:Stm (cz q) L) (tq:Um q) (nq:q.length<=9) (lq:2<=q.length) {lo hi:Rat} (hl:lo<hi) (hv:vv L hi+2<=vv L lo):1<(hi-lo)*((2^(Rh q q+1):Nat):Rat):=by
 rcases U0 ((hi-lo)*((2^(Rh q q+1):Nat):Rat)) 1 with hw | hw
 ·exfalso;have hpow:(0:Rat)<=((2^(Rh q q+1):Nat):Rat):=Xk;obtain ⟨m,m1,m2,m3,m4,m0⟩:=Zi3 hS hl hv;obtain ⟨R,hR,r1,r2⟩:=Qny lo hi;have hd:=M9 m0;obtain ⟨d,dp,_,db⟩:=Gb (b:=dqB R (cz q)) (d:=Up (ev (cz q) m) / 2) (Sl hR _) (Dq hd (by decide));have hd2:Up (ev (cz q) m) / 2*2=Up (ev (cz q) m):=Fj (by decide);have hmR:Up m<=R:=Qda r1 r2 (Qp m1) (Qp m2);have hnear:∀ r,Up r<=R->Up (ev (cz q) r)<Up (ev (cz q) m) / 2->d<Up (r-m):=λr hr hs=>by
   rcases U0 (Up (r-m)) d with h | h
   ·exfalso;have h1:=Ss (p:=cz q) hmR hr hR h db;have h2:=Rt (ev (cz q) m-ev (cz q) r) (ev (cz q) r);rw [show ev (cz q) m-ev (cz q) r+ev (cz q) r=ev (cz q) m by grind,Q07] at h2;grind
   ·exact h
  refine Q7c (R:=R+1) (d:=d+d) tq tq nq nq lq lq (by grind) (by grind) λe ep=>?_
  obtain ⟨e',ep',e1,e2⟩:=min2 (a:=e) (b:=Up (ev (cz q) m) / 2) ep (Dq hd (by decide));obtain ⟨x,x1,x2,x3⟩:=Qqm hS m1 (by omega) ep';obtain ⟨y,y1,y2,y3⟩:=Qqm hS m2 (by omega) ep';have hxR:Up x<=R:=Qda r1 r2 x1 (by grind);have hyR:Up y<=R:=Qda r1 r2 (by grind) y2;have nx:=hnear x hxR (by grind);have ny:=hnear y hyR (by grind);have ex:Up (x-m)=m-x:=by unfold Up; split <;> grind
  have ey:Up (y-m)=y-m:=by unfold Up; split <;> grind
  rw [ex] at nx;rw [ey] at ny;have exy:Up (x-y)=y-x:=by unfold Up; split <;> grind
  refine ⟨x,y,by grind,by grind,by rw [exy]; grind,?_,by rw [<-Ul]; grind,by rw [<-Ul]; grind⟩;rw [exy];exact Q9 (Q4 (show y-x<=hi-lo by grind) hpow) hw
 ·exact hw
theorem Q6a:∀ {k:Nat} {a b:List Int} {l:List (List Int)},chF k a b=some l->∀ p∈l,p.length≠0
 | 0,_,_,_,h=>by cases h
 |
  k+1,a,b,l,h=>by
  simp only [chF] at h
  split at h
  ·injection h with h; subst h; exact λp hp=>by cases hp
  ·rename_i h0;obtain ⟨r,_,h⟩:=Qk.1 h;obtain ⟨l',h1,h⟩:=Qk.1 h;injection h with h; subst h;intro p hp;rcases Qo.1 hp with rfl | hp
   ·exact h0
   ·exact Q6a h1 p hp
theorem Okp.pb {n s:Nat} {p:List Int} (h:Okp n s p) (hs:s<=16777216):Pb p:=⟨h.t,by have:=h.l; have:=h.z.1; omega,Ug h.b hs⟩
theorem Q2d {p:List Int} {q:List Int} {l:List (List Int)} (hp:Pb p) (h:Lj p=some (q::l)) (hq:q.length≠0):∀ r∈q::l,Um r/\r.length≠0:=by
 have h1:=(Orr.chain_ok hp h).2;unfold Lj at h;obtain ⟨a,_,h⟩:=Qk.1 h
 split at h
 ·cases h
 ·obtain ⟨d,_,h⟩:=Qk.1 h;obtain ⟨l',h3,h⟩:=Qk.1 h;injection h with h;injection h with e1 e2;subst e1; subst e2;intro r hr;refine ⟨(h1 r hr).t,?_⟩;rcases Qo.1 hr with rfl | hr
  ·exact hq
  ·exact Q6a h3 r hr
inductive RI (q:List Int) (L:List (List Rat)):Rat->List Tm->Rat->Prop
 | nil {lo hi:Rat} (h:lo<=hi) (hv:vv L lo=vv L hi):RI q L lo [] hi
 | cons {lo hi:Rat} {t:Tm} {l:List Tm} (h:lo<=t.lo) (hv:vv L lo=vv L t.lo) (ht:Vt (cz q) L t.lo t.hi) (hp:t.p=q) (hl:RI q L t.hi l hi):RI q L lo (t::l) hi
theorem RI.app {q:List Int} {L:List (List Rat)} {lo m hi:Rat} {l l':List Tm} (h:RI q L lo l m) (h':RI q L m l' hi):RI q L lo (l++l') hi:=by
 induction h with
 |
  nil h hv =>
  cases h' with
  | nil h2 hv2=>exact .nil (by grind) (by omega)
  | cons h2 hv2 ht hp hl=>exact .cons (by grind) (by omega) ht hp hl
 | cons h hv ht hp _ ih=>exact .cons h hv ht hp (ih h')
theorem Q6c {D M k:Nat} {m:Rat} (h:Gr D M k m) (hM:0<M) (hs:Ur (D:Int)+Ur (M:Int)+k<=16777216):chq m=some m:=by
 have:=Qmd h hM hs;unfold chq;rw [if_pos ⟨this.1,this.2⟩]
theorem Qhx {q:List Int} {c:List (List Int)} (hS:Stm (cz q) (c.map cz)) (tq:Um q) (nq:q.length<=9) (hc1:q.length<2->c=[q]) {D M F:Nat} (hM:0<M):∀ (k j:Nat) (lo hi:Rat),lo<hi->Gr D M j lo->Gr D M j hi->Ur (D:Int)+Ur (M:Int)+(j+k)<=16777216->(hi-lo)*((2^(Rh q q+1):Nat):Rat)<=((2^k:Nat):Rat) ->
 ∃ l,Af q c (F+k+1) lo hi ((vv (c.map cz) lo:Int)-(vv (c.map cz) hi:Int))=some l/\RI q (c.map cz) lo l hi/\∀ t∈l,∃ k',k'≤j+k/\Gr D M k' t.lo/\Gr D M k' t.hi:=by
 intro k
 induction k with
 |
  zero =>
  intro j lo hi hl g1 g2 hs hK;have hle:=Lb hS hl;have h2:vv (c.map cz) lo<vv (c.map cz) hi+2:=by
   rcases Q8 (vv (c.map cz) lo) (vv (c.map cz) hi+2) with h | h
   ·exact h
   ·exfalso;have lq:2<=q.length:=by
     rcases Q8 q.length 2 with e | e
     ·have hvv:∀ x,vv (c.map cz) x=vv (c.map cz) 0:=λx=>by
       rcases hS with ⟨c0,hc0,hcc,hl'⟩ | ⟨g',l',k',hk,hg,hsc,hl'⟩
       ·rw [hl']; simp only [vv,tc,hcc]
       ·rw [hc1 e] at hl'; cases hl'
      rw [hvv lo,hvv hi] at h; omega
     ·exact e
    have:=Zfv hS tq nq lq hl h;rw [Y7] at hK;have h7:((1:Nat):Rat)=1:=rfl;rw [h7] at hK; grind
  simp only [Af];by_cases e0:vv (c.map cz) lo=vv (c.map cz) hi
  ·rw [if_pos (by omega)];exact ⟨[],rfl,.nil (Qp hl) e0,λt ht=>by cases ht⟩
  ·rw [if_neg (by omega),if_pos (by omega)];refine ⟨[⟨q,lo,hi⟩],rfl,.cons Qq rfl ⟨hS,hl,by show vv _ lo=vv _ hi+1; omega⟩ rfl (.nil Qq rfl),λt ht=>?_⟩;rw [Qn.1 ht]; exact ⟨j,by omega,g1,g2⟩
 |
  succ k ih =>
  intro j lo hi hl g1 g2 hs hK;have hle:=Lb hS hl;show ∃ l,(if (vv (c.map cz) lo:Int)-(vv (c.map cz) hi:Int)=0 then some [] else if (vv (c.map cz) lo:Int)-(vv (c.map cz) hi:Int)=1 then some [⟨q,lo,hi⟩] else (chq (mid lo hi)).bind λm=>(Af q c (F+k+1) lo m (Ro c lo m)).bind λl=>(Af q c (F+k+1) m hi ((vv (c.map cz) lo:Int)-(vv (c.map cz) hi:Int)-Ro c lo m)).bind λr=>some (l++r))=some l/\_;by_cases e0:vv (c.map cz) lo=vv (c.map cz) hi
  ·rw [if_pos (by omega)];exact ⟨[],rfl,.nil (Qp hl) e0,λt ht=>by cases ht⟩
  by_cases e1:vv (c.map cz) lo=vv (c.map cz) hi+1
  ·rw [if_neg (by omega),if_pos (by omega)];refine ⟨[⟨q,lo,hi⟩],rfl,.cons Qq rfl ⟨hS,hl,e1⟩ rfl (.nil Qq rfl),λt ht=>?_⟩;rw [Qn.1 ht]; exact ⟨j,by omega,g1,g2⟩
  ·rw [if_neg (by omega),if_neg (by omega)];obtain ⟨m,hm⟩:=nmE ((lo+hi) / 2);have h2:(lo+hi) / 2*2=lo+hi:=Fj (by decide);rw [<-hm] at h2;have gm:Gr D M (j+1) m:=by rw [hm]; exact Qwi g1 g2
   have l1:lo<m:=by grind
   have l2:m<hi:=by grind
   rw [Qfk,<-hm,Q6c gm hM (by omega)];show ∃ l,((Af q c (F+k+1) lo m (Ro c lo m)).bind λl=>(Af q c (F+k+1) m hi ((vv (c.map cz) lo:Int)-(vv (c.map cz) hi:Int)-Ro c lo m)).bind λr=>some (l++r))=some l/\_;rw [Di (Qp l1),show (vv (c.map cz) lo:Int)-(vv (c.map cz) hi:Int)-((vv (c.map cz) lo:Int)-(vv (c.map cz) m:Int))=(vv (c.map cz) m:Int)-(vv (c.map cz) hi:Int) by omega];rw [Qm4 k] at hK;have hp:∀ x y:Rat,(y-x)*2=hi-lo->(y-x)*((2^(Rh q q+1):Nat):Rat)<=((2^k:Nat):Rat):=λx y h=>by
    have:(y-x)*((2^(Rh q q+1):Nat):Rat)*2=(hi-lo)*((2^(Rh q q+1):Nat):Rat):=by rw [<-h]; grind
    grind
   obtain ⟨la,a1,a2,a3⟩:=ih (j+1) lo m l1 (Qgg g1) gm (by omega) (hp lo m (by grind));obtain ⟨lb,b1,b2,b3⟩:=ih (j+1) m hi l2 gm (Qgg g2) (by omega) (hp m hi (by grind));rw [a1];show ∃ l,((Af q c (F+k+1) m hi ((vv (c.map cz) m:Int)-(vv (c.map cz) hi:Int))).bind λr=>some (la++r))=some l/\_;rw [b1];refine ⟨la++lb,rfl,a2.app b2,λt ht=>?_⟩;rcases Qw.1 ht with ht | ht
   ·obtain ⟨k',h1,h2,h3⟩:=a3 t ht; exact ⟨k',by omega,h2,h3⟩
   ·obtain ⟨k',h1,h2,h3⟩:=b3 t ht; exact ⟨k',by omega,h2,h3⟩
theorem Zis {D M k:Nat} {q:Rat} (h:Gr D M k q):Gr D M k (-q):=by
 obtain ⟨u,hu⟩:=h.u;exact ⟨⟨-u,by rw [Vj,<-hu]; grind⟩,by rw [Cw]; exact h.b,h.d⟩
theorem Qsm {m s:Nat} (h:m<2^s):Ur ((m+1:Nat):Int)<=s+1:=by
 rw [Ri,Xa,Zm]; omega
theorem Q23 {z:Int} {s:Nat} (h:Ur z<=s):Ur ((z.natAbs+1:Nat):Int)<=s+1:=Qsm (Ri.1 h)
theorem Zfl {x:Rat} {m s g N:Nat} (hx:x<=2*((m+1:Nat):Rat)) (hm:m+1<=2^s) (hN:s+1+g<=N):x*((2^g:Nat):Rat)<=((2^N:Nat):Rat):=by
 have h3:=Zb.2 hm;have e:=Qm4 s;have h4:(0:Rat)<=((2^s:Nat):Rat):=Xk;have h1:x<=((2^(s+1):Nat):Rat):=by rw [e]; grind
 have h5:(0:Rat)<=((2^g:Nat):Rat):=Xk;refine Q9 (Q4 h1 h5) ?_;have h6:2^(s+1)*2^g<=2^N:=by
  rw [<-Xh]; exact Zq (by decide) hN
 have:=Zb.2 h6;rw [Rat.natCast_mul] at this;exact this
theorem Zbz {s:Nat} {l:List Int} (h:Bd s l):most l<2^s:=by
 have key:∀ (l:List Int) (m:Nat),m<2^s->Bd s l->l.foldl (λm z=>if m<z.natAbs then z.natAbs else m) m<2^s:=by
  intro l
  induction l with
  | nil=>exact λm h _=>h
  |
   cons y l ih =>
   intro m hm hb;simp only [Z8];refine ih _ ?_ λz hz=>hb z (Qh _ hz)
   have:=hb y (Qt ..);rw [Ri] at this
   split <;> assumption
 exact key l 0 (Zx (by decide)) h
theorem Zh4 {p q:List Int} (h:chk p=some q):q=p:=by
 unfold chk at h
 split at h
 ·injection h with h; exact h.symm
 ·cases h
theorem Q9u {s:Nat} {p:List Int} (hs9:s≤1180) (h:Okp 9 s p):∃ q c l,Pg p=some q/\Lj p=some c/\Qtx p=some l/\Stm (cz q) (c.map cz)/\RI q (c.map cz) (-Ga q) l (Ga q)/\(∀ t∈l,Va t)/\(∀ x y,x<y->Ga q≤x\/y≤-Ga q->vv (c.map cz) x=vv (c.map cz) y)/\q.length≤p.length/\∀ t∈l,t.p=q/\t.lo<t.hi/\Bd (s+69) q/\∃ D M k,Gr D M k t.lo/\Gr D M k t.hi/\0<M/\Ur (D:Int)≤s+69/\Ur (M:Int)≤s+70/\k≤63*s+5160:=by
 obtain ⟨pp,hpl,hpb⟩:=h.pr;obtain ⟨g,q',hq',sq⟩:=Qa0 h;obtain ⟨q,l,q1,q2,hS,hl0⟩:=chain_ok h;rw [hq'] at q1;injection q1 with q1;subst q1;have e1:∀ t,Ui (Uy p) t=Ui q' t*Ui g t:=λt=>by rw [sq.e]; grind
 obtain ⟨p1,p2⟩:=Ho pp.t pp.n e1;have hch:chF 66 q' (Uy (Fg q'))=some l:=by
  have h2:=q2;unfold Lj at h2;rw [hq'] at h2;simp only [W4] at h2
  split at h2
  ·cases h2
  ·cases hd:chk (Fg q') with
   | none=>rw [hd] at h2; cases h2
   |
    some d =>
    rw [hd] at h2;simp only [W4] at h2;obtain rfl:d=Fg q':=Zh4 hd;cases hc:chF 66 q' (Uy (Fg q')) with
    | none=>rw [hc] at h2; cases h2
    | some l'=>rw [hc] at h2; simp at h2; rw [h2]
 have hll:=Pa sq.pq.t sq.pg.t pp.t e1 p1 p2;have hl9:=h.l;have bq:Bd (s+69) q':=I4 hpb (by omega) pp.t sq.pq.t sq.pg.t pp.n e1;have hall:=Q2d (h.pb (by omega)) q2 sq.pq.n;have hld:Ux q'≠0:=by have:=sq.pq.l; omega
 have hb1:=Qet hld;obtain ⟨D,hD⟩:=nmE ((Ux q').natAbs);obtain ⟨m,hm⟩:=nmE (most (q'.take (q'.length-1)));have hm2:m<2^(s+69):=by rw [hm]; exact Zbz (s:=s+69) λz hz=>bq z (Ql hz)
 have hD0:0<D:=by omega
 have hDs:Ur (D:Int)<=s+69:=by
  have:=Pq bq;rw [Ri] at this ⊢;rw [Xa,hD]; exact this
 have hbe:=Qig hld;rw [<-hD,<-hm] at hbe;have hDq:=nat_pos hD0;have hbm:Ga q'<=((m+1:Nat):Rat):=by
  have hD1:(1:Rat)<=(D:Rat):=by
   have:((1:Nat):Rat)<=(D:Rat):=Zb.2 hD0;exact this
  have hm0:(0:Rat)<=(m:Rat):=Xk;have h3:=Su (a:=(m:Rat)) (c:=1) hm0 Qq (by decide) hD1;rcases U0 (Ga q') ((m+1:Nat):Rat) with h' | h'
  ·exact h'
  ·exfalso;have:=Vv h' hDq
   push_cast at this; grind
 have gb:Gr D (m+1) 0 (Ga q'):=by
  refine ⟨⟨(D+m:Nat),?_⟩,?_,hD0⟩
  ·rw [Y7,Yn,hbe];rw [show ((((D+m:Nat):Int)):Rat)=((D+m:Nat):Rat) from rfl]; push_cast; rfl
  ·have:Up (Ga q')=Ga q':=by unfold Up; rw [if_neg (by grind)]
   rw [this]; exact hbm
 have hMs:Ur ((m+1:Nat):Int)<=s+69+1:=Qsm (s:=s+69) hm2;have hK:(Ga q' - -Ga q')*((2^(Rh q' q'+1):Nat):Rat)<=((2^(63*s+5160):Nat):Rat):=by
  have hps:=Ab bq;have hg:Rh q' q'<=(2*s+164)*31:=by
   unfold Rh;exact Zw (by omega) (by omega)
  exact Zfl (s:=s+69) (g:=Rh q' q'+1) (N:=63*s+5160) (by grind) hm2 (by omega)
 have hN:Ur (D:Int)+Ur ((m+1:Nat):Int)+(0+(63*s+5160))<=16777216:=by omega
 obtain ⟨ls,r1,r2,r3⟩:=Qhx (F:=99999-(63*s+5160)) hS sq.pq.t (by omega) (λh=>by rw [hl0 h]) (W3 m) (63*s+5160) 0 (-Ga q') (Ga q') (by grind) (Zis gb) gb hN hK;rw [show 99999-(63*s+5160)+(63*s+5160)+1=100000 by omega] at r1;have hchq:chq (Ga q')=some (Ga q'):=Q6c gb (W3 m) (by omega);have key:∀ t∈ls,Va t/\t.p=q'/\t.lo<t.hi/\Bd (s+69) q'/\∃ D M k,Gr D M k t.lo/\Gr D M k t.hi/\0<M/\Ur (D:Int)≤s+69/\Ur (M:Int)≤s+70/\k≤63*s+5160:=λt ht=>by
  obtain ⟨k',k1,k2,k3⟩:=r3 t ht;have hmem:∀ {lo hi:Rat} {ls:List Tm},RI q' ((q'::l).map cz) lo ls hi->t∈ls->Vt (cz q') ((q'::l).map cz) t.lo t.hi/\t.p=q':=λh=>by
   induction h with
   | nil=>intro ht; cases ht
   |
    cons h hv ht' hp hl ih =>
    intro ht;rcases Qo.1 ht with rfl | ht
    ·exact ⟨ht',hp⟩
    ·exact ih ht
  obtain ⟨v1,v2⟩:=hmem r2 ht;have lq2:2<=q'.length:=by
   rcases Q8 q'.length 2 with e | e
   ·exfalso;have hvv:∀ x,vv ((q'::l).map cz) x=0:=λx=>by
     rw [hl0 e,sq.pq.one e];have hv1:∀ x:Rat,ev (cz [1]) x=1:=λx=>by rw [Ul,Pe]
     simp only [Zt,Jb,vv,tc,hv1];have:Us 1=1:=by decide
     rw [this]; decide
    have:=v1.v;rw [hvv,hvv] at this; omega
   ·exact e
  exact ⟨⟨.inr ⟨_,by rw [v2]; exact v1⟩,by rw [v2]; exact sq.pq.t,by rw [v2]; omega,by rw [v2]; exact lq2,by rw [v2]; exact Ug bq (by omega),λ_=>by rw [v2]; exact Ug bq (by omega),λ_=>by rw [v2]; exact ⟨l,_,g,hch,sq,v1⟩,D,m+1,k',k2,k3,W3 m,by omega⟩,v2,v1.l,bq,D,m+1,k',k2,k3,W3 m,hDs,Qd hMs (Qm (s+70)),by rw [Z0] at k1; exact k1⟩
 refine ⟨q',q'::l,ls,hq',q2,?_,hS,r2,λt ht=>(key t ht).1,λx y hxy hb=>Qx6 hS sq.pq.t sq.pq.n hxy hb (by grind),by omega,λt ht=>(key t ht).2⟩
 ·unfold Qtx;rw [q2,hq'];show (chq (Ga q')).bind _=_;rw [hchq];show Af q' (q'::l) 100000 (-Ga q') (Ga q') (Qp9 (q'::l))=_;rw [Q3s hS hall];exact r1
theorem Q9t {p:List Int} (h:Okp 9 1180 p):∃ q c l,Pg p=some q/\Lj p=some c/\Qtx p=some l/\Stm (cz q) (c.map cz)/\RI q (c.map cz) (-Ga q) l (Ga q)/\(∀ t∈l,Va t)/\(∀ x y,x<y->Ga q≤x\/y≤-Ga q->vv (c.map cz) x=vv (c.map cz) y):=by
 obtain ⟨q,c,l,h1,h2,h3,h4,h5,h6,h7,_⟩:=Q9u (Qm _) h;exact ⟨q,c,l,h1,h2,h3,h4,h5,h6,h7⟩
theorem Cj {q:List Int} {L:List (List Rat)} (hS:Stm (cz q) L) {c:Rat->Int} (hc:Cut c) {lo:Rat} (hH:∀ z,c z=-1->z<=lo->vv L z=vv L lo) {y0:Rat} (hy:c y0=-1) (hv:∀ z,lo<z->z<=y0->vv L z=vv L lo):∃ s,s≠0/\∀ z,c z=-1->z<=y0->Us (ev (cz q) z)=s:=by
 have hall:∀ z,c z=-1->z<=y0->vv L z=vv L lo:=λz h1 h2=>by
  rcases U0 z lo with e | e
  ·exact hH z h1 e
  ·exact hv z e h2
 have hne:∀ z,c z=-1->z<=y0->Us (ev (cz q) z)≠0:=λz h1 h2=>by
  obtain ⟨w,w1,w2⟩:=hc.dn z h1;have:=Qqv hS w1 (by rw [hall w w2 (by grind),hall z h1 h2]);rw [this.s]; exact this.n
 refine ⟨Us (ev (cz q) y0),hne y0 hy Qq,λz h1 h2=>?_⟩;rcases Classical.em (z=y0) with e | e
 ·rw [e]
 ·have:=Qqv hS (x:=z) (y:=y0) (by grind) (by rw [hall z h1 h2,hall y0 hy Qq]);rw [this.s,Dy (hne z h1 h2)]
structure Fst (o:List Int) (a t:Tm):Prop where
 lt:TLt a t
 s:∃ s,s≠0/\(∀ z,Fa a z=-1->Fa t z=1->Us (ev (cz o) z)=s)/\RS (cz o) (Fa t) (-s)
def Non (o:List Int) (a:Tm):Prop:=∃ s,s≠0/\∀ z,Fa a z=-1->Us (ev (cz o) z)=s
theorem Q3d {q:List Int} {L:List (List Rat)} (hS:Stm (cz q) L) {a:Tm} (ha:Va a) {lo hi:Rat} {l:List Tm} (hR:RI q L lo l hi):(∀ t∈l,Va t)->(∀ z,hi<z->vv L z=vv L hi)->(∀ z,Fa a z=-1->z≤lo->vv L z=vv L lo)->∃ r,Qms a l=some r/\match r with
 | none=>Non q a
 | some t=>t∈l/\Fst q a t:=by
 have ca:=ha.cut
 induction hR with
 |
  @nil lo hi h hv =>
  intro _ hhi hH;refine ⟨none,rfl,?_⟩;obtain ⟨y1,hy1⟩:=ca.hi;have hall:∀ z,lo<z->vv L z=vv L lo:=λz hz=>by
   rcases U0 z hi with e | e
   ·have h1:=Lb hS hz;have h2:vv L hi<=vv L z:=by
     rcases Classical.em (z=hi) with e' | e'
     ·rw [e']; exact Qm _
     ·exact Lb hS (by grind)
    omega
   ·rw [hhi z e,hv]
  obtain ⟨s,s0,hs⟩:=Cj hS ca hH hy1 λz h1 _=>hall z h1
  refine ⟨s,s0,λz hz=>?_⟩;rcases U0 z y1 with e | e
  ·exact hs z hz e
  ·obtain ⟨s',s0',hs'⟩:=Cj hS ca hH hz λz h1 _=>hall z h1
   rw [hs' z hz Qq,<-hs' y1 hy1 (Qp e),hs y1 hy1 Qq]
 |
  @cons lo hi t l h hv ht hp hl ih =>
  intro hV hhi hH;have hvt:=hV t (Qt ..);have ct:=hvt.cut;have ht':=ht;rw [<-hp] at ht';have ect:∀ z,Fa t z=cq (cz t.p) t.lo t.hi z:=Ry ht.l;obtain ⟨c,c1,c2⟩:=Qzc hvt ha;show ∃ r,((Qk3 t a).bind λc=>if 0<c then some (some t) else Qms a l)=some r/\_;rw [c1];show ∃ r,(if 0<c then some (some t) else Qms a l)=some r/\_;have hlo1:Fa t t.lo=1:=by rw [ect]; exact Nj Qq
  have hlow:∀ z,lo<z->Fa t z=1->vv L z=vv L lo:=λz h1 h2=>by
   rcases U0 z t.lo with e | e
   ·have a1:=Lb hS h1;have a2:vv L t.lo<=vv L z:=by
     rcases Classical.em (z=t.lo) with e' | e'
     ·rw [e']; exact Qm _
     ·exact Lb hS (by grind)
    omega
   ·rw [ect] at h2;have hz:z<=t.hi:=by
     rcases U0 z t.hi with e' | e'
     ·exact e'
     ·rw [Ih ht.l e'] at h2; omega
    rw [ht'.eq_lo e hz h2,hv]
  by_cases hc:0<c
  ·rw [if_pos hc];refine ⟨some t,rfl,Qt ..,?_⟩;have hlt:TLt a t:=by
    rcases c2 with ⟨e,_⟩ | ⟨e,_⟩ | ⟨_,h⟩
    ·omega
    ·omega
    ·exact h
   refine ⟨hlt,?_⟩;obtain ⟨m,m1,m2⟩:=hlt;obtain ⟨s,s0,hs⟩:=Cj hS ca hH m1 λz h1 h2=>hlow z h1 (by
    rcases Classical.em (z=m) with e | e
    ·rw [e]; exact m2
    ·exact ct.mono' (q:=z) (r:=m) (by grind) (by omega))
   have hall:∀ z,Fa a z=-1->Fa t z=1->Us (ev (cz q) z)=s:=λz h1 h2=>by
    rcases U0 z m with e | e
    ·exact hs z h1 e
    ·obtain ⟨s',s0',hs'⟩:=Cj hS ca hH h1 λw w1 w2=>hlow w w1 (by
      rcases Classical.em (w=z) with e | e
      ·rw [e]; exact h2
      ·exact ct.mono' (q:=w) (r:=z) (by grind) (by omega))
     rw [hs' z h1 Qq,<-hs' m m1 (Qp e),hs m m1 Qq]
   refine ⟨s,s0,hall,?_⟩;obtain ⟨w,w1,w2,w3⟩:=Qip ct m2 hlo1;have hwa:Fa a w=-1:=ca.mono m w w2 (by omega);have hsw:=hall w hwa w1;have hwh:w<t.hi:=by
    rw [ect] at w1;rcases U0 t.hi w with e | e
    ·have:=ht'.hi1;rcases Classical.em (t.hi=w) with e' | e'
     ·rw [<-e'] at w1; exact absurd w1 this
     ·rw [Ih ht.l (by grind)] at w1; omega
    ·exact e
   have hww:vv L w=vv L t.lo:=ht'.eq_lo w3 (Qp hwh) (by rw [<-ect]; exact w1);have hvv:=ht.v;have hone:=Qqu hS hwh (by omega);have hlw:Te (cz q) w=s:=by rw [Dy (by rw [hsw]; exact s0),hsw]
   rw [hlw] at hone;have hd:∀ z,w<z->z<=t.hi->Fa t z=-1->Us (ev (cz q) z)=-s:=λz z1 z2 z3=>by
    rw [ect] at z3;have e1:=ht'.eq_hi (by grind) z2 (by omega);have e2:=Qqu hS z1 (by omega);rw [hlw] at e2;have hz0:Us (ev (cz q) z)≠0:=by
     rw [My (by grind) z2,hp] at z3;intro h0;rw [if_pos h0] at z3; omega
    rw [Dy hz0] at e2; exact e2.2
   rcases ct.val t.hi with e | e | e
   ·rw [ect] at e; exact absurd e ht'.hi1
   ·obtain ⟨d,dp,hd'⟩:=Zlt (p:=cz q) (x:=t.hi) (by rw [hone.2]; omega);refine ⟨t.hi+d,ct.mono t.hi _ (by grind) (by omega),λz h1 h2=>?_⟩;have hz:t.hi<z:=by
     rcases U0 z t.hi with e' | e'
     ·rcases Classical.em (z=t.hi) with e'' | e''
      ·rw [e''] at h1; omega
      ·have:=ct.mono z t.hi (by grind) (by omega); omega
     ·exact e'
    rw [hd' z hz (by grind),hone.2]
   ·exact ⟨t.hi,e,λz h1 h2=>hd z (ct.lt w1 h1) h2 h1⟩
  ·rw [if_neg hc];have hle:¬TLt a t:=λh=>by
    rcases c2 with ⟨e,h'⟩ | ⟨e,h'⟩ | ⟨e,_⟩
    ·exact Qpc ct ca h' h
    ·obtain ⟨z,z1,z2⟩:=h;have:=h' z; omega
    ·omega
   obtain ⟨r,r1,r2⟩:=ih (λx hx=>hV x (Qh _ hx)) hhi λz z1 z2=>by
    have hz:Fa t z≠1:=λh=>hle ⟨z,z1,h⟩
    have hzl:t.lo<z:=by
     rcases U0 z t.lo with e | e
     ·refine absurd ?_ hz;rw [ect]; exact Nj e
     ·exact e
    exact ht'.eq_hi hzl z2 (by rw [<-ect]; exact hz)
   refine ⟨r,r1,?_⟩;cases r with
   | none=>exact r2
   | some x=>exact ⟨Qh _ r2.1,r2.2⟩
theorem Zg3 {c:Rat->Int} (hc:Cut c):∀ (n:Nat) (f:List Rat),HD f n->∃ s,s≠0/\RS f c s
 |
  n,f,h=>by
  rcases O8 hc f with hv | ⟨s,hs,hn⟩
  ·cases n with
   |
    zero =>
    exfalso;obtain ⟨q,hq,_⟩:=Qs3 hc (hv (Up (f.getD 0 0)) (M9 h.1));cases f with
    | nil=>exact h.1 (by simp)
    |
     cons a l =>
     have:=Bp (p:=l) λk=>by have:=h.2 (k+1) (by omega); rwa [Q0] at this
     simp only [ev,this,Zp] at hq; grind
   |
    succ n =>
    have hd:HD (Mf f) n:=by
     have key:∀ (f:List Rat) (k:Nat),(Mf f).getD k 0=((k+1:Nat):Rat)*f.getD (k+1) 0:=by
      intro f
      induction f with
      | nil=>intro k; simp only [Mf,Kj]; grind
      |
       cons a f ih =>
       intro k;simp only [Mf];rw [Hb,Q0];cases k with
       | zero=>rw [Zp]; push_cast; grind
       | succ k=>rw [Q0,ih]; push_cast; grind
     refine ⟨λh0=>?_,λk hk=>by rw [key,h.2 (k+1) (by omega)]; grind⟩;rw [key] at h0;rcases Jc.1 h0 with h1 | h1
     ·have:=nat_pos (show 0<n+1 by omega); grind
     ·exact h.1 h1
    obtain ⟨s,hs,h1⟩:=Zg3 hc n (Mf f) hd;exact ⟨s,hs,Qqb hc hv h1 hs⟩
  ·exact ⟨s,hs,Qnc hc hn⟩
theorem Q9w {c:Rat->Int} (hc:Cut c) {f p q:List Rat} {s s':Int} (hf:∀ t,ev f t=ev p t*ev q t) (h:RS p c s) (h':RS q c s'):RS f c (s*s'):=by
 obtain ⟨y,h1,h2⟩:=h;obtain ⟨y',h3,h4⟩:=h';refine ⟨if y<=y' then y else y',by split <;> assumption,λz z1 z2=>?_⟩;rw [hf,Rv,h2 z z1 (by clear h2 h4; grind),h4 z z1 (by clear h2 h4; grind)]
theorem Q9x {c:Rat->Int} (hc:Cut c) {f o S:List Rat} {k:Rat} (hk:k≠0) (hf:∀ t,ev f t=k*(ev o t*(ev S t*ev S t))) (hnz:¬∀ t,ev f t=0) {s:Int} (h:RS o c s):RS f c (Us k*s):=by
 obtain ⟨n,_,hn⟩:∃ n,n<S.length/\HD S n:=by
  rcases Qjj S with h1 | h1
  ·exact absurd (λt=>by rw [hf,h1]; grind) hnz
  ·exact h1
 obtain ⟨s',hs',h'⟩:=Zg3 hc n S hn;have h1:=Q9w hc (f:=Fu S S) (λt=>Uo t _ _) h' h';have h2:=Q9w hc (f:=Fu o (Fu S S)) (λt=>Uo t _ _) h h1;have hsq:s'*s'=1:=by
  obtain ⟨y,y1,y2⟩:=h';have:=y2 y y1 Qq;rcases Fz (ev S y) with ⟨e,_⟩ | ⟨e,_⟩ | ⟨e,_⟩
  ·rw [<-this,e]; rfl
  ·omega
  ·rw [<-this,e]; rfl
 rw [hsq,Wg] at h2;obtain ⟨y,y1,y2⟩:=h2;exact ⟨y,y1,λz z1 z2=>by
  have:=y2 z z1 z2;rw [Uo,Uo] at this;rw [hf,Rv,this]⟩
structure Cp (p:List Int):Prop where
 t:Um p
 l:p.length<=9
 b:Bd 1110 p
theorem Cp.dp {p:List Int} (h:Cp p):Dp p:=⟨h.t,h.l,Ug h.b (by omega)⟩
theorem Cp.ok {p:List Int} (h:Cp p) (h0:p.length≠0):Okp 9 1180 p:=h.dp.ok h0
def Leq (a:Tm) (c:Rat->Int):Prop:=∀ q,c q=-1->Fa a q=-1
def Ld (p:List Int) (a:Tm):Option Tm->Prop
 | none=>p=[]\/∃ s,s≠0/\∀ c,Cut c->Leq a c->RS (cz p) c s
 | some t=>p≠[]/\Va t/\TLt a t/\∃ s,s≠0/\(∀ c,Cut c->Leq a c->(∃ m,c m=-1/\Fa t m=1)->RS (cz p) c s)/\RS (cz p) (Fa t) (-s)
theorem RI.len {q:List Int} {L:List (List Rat)} {lo hi:Rat} {l:List Tm} (h:RI q L lo l hi):l.length+vv L hi<=vv L lo:=by
 induction h with
 | nil h hv=>simp; omega
 | cons h hv ht hp hl ih=>have:=ht.v; simp only [Q7]; omega
theorem Zat (x:Rat):∀ (L:List (List Rat)) (s:Int),tc x s L<=L.length
 | [],_=>Qm _
 |
  f::l,s=>by
  have h1:=Zat x l;simp only [tc,Q7]
  repeat' split
  all_goals (first | (have:=h1 s; omega) | (have:=h1 (Us (ev f x)); omega))
theorem Zj8 (L:List (List Rat)) (x:Rat):vv L x<=L.length:=Zat x L 0
theorem Quf {p:List Int} (h:Cp p):∃ l,Qqn p=some l/\l.length≤67/\(∀ t∈l,Va t)/\∀ a,Va a->∃ r,Qms a l=some r/\Ld p a r/\∀ t,r=some t->t∈l:=by
 unfold Qqn;by_cases h0:p.length=0
 ·have e:p=[]:=Qi h0;subst e;exact ⟨[],rfl,by decide,(λt ht=>by cases ht),λa _=>⟨none,rfl,.inl rfl,λt ht=>by cases ht⟩⟩
 ·obtain ⟨qp,o,q1,o1,hpt⟩:=Q8m (n:=9) (s:=1110) (p:=p) ⟨⟨by decide,by decide⟩,h.t,h0,h.l,h.b⟩;obtain ⟨g,sq⟩:=hpt.sq;obtain ⟨S,hS⟩:=hpt.os;obtain ⟨p1,p2,p3,p4,p5,p6,p7⟩:=Bv h.t h0;have hpl:=h.l;obtain ⟨hh,th,eh⟩:=hpt.oh;have bo:Bd 1179 o:=I4 (p5 1110 h.b) (by omega) p1 hpt.ot th (by omega) eh;obtain ⟨lo1,lo2⟩:=Ho p1 (by omega) eh;have hlen:=Pa hpt.ot th p1 eh lo1 lo2;have oko:Okp 9 1180 o:=⟨Q0r,hpt.ot,by omega,by omega,Ug bo (by omega)⟩;obtain ⟨q,c,l,r1,r2,r3,hSt,hRI,hVa,hout⟩:=Q9t oko;obtain ⟨g',q',s1,s2⟩:=Qa0 oko;rw [r1] at s1;injection s1 with s1;subst s1;obtain ⟨_,_,_,_,_,o6,o7⟩:=Bv hpt.ot (by omega);have hg1:g'=[1]:=by
   refine s2.pg.one ?_;obtain ⟨E,hE⟩:=hpt.oq;have hE:∀ t,Ui qp t=Ui o t*ev E t:=λt=>by have:=hE t; rwa [Ul,Ul] at this
   obtain ⟨z,hz⟩:=s2.d;have hd1:∀ t,Ui o t=Ui g' t*(Gl o*Ui q t):=λt=>by rw [o7,s2.e]; grind
   have hdo:∀ t,dv (cz o) t=Ui g' t*(Gl o*ev z t):=λt=>by
    have:=Q6x (p:=cz o) (q:=Bj (Gl o) (cz (Uy o))) (λt=>by rw [Ul,Fb,Ul,o7]) t;rw [this,Qe3,hz]; grind
   obtain ⟨k,hk,hkk⟩:=sq.num (d:=cz g') ⟨Fu (Bj (Gl o) (cz q)) E,λt=>by rw [Ul,Ul,hE,hd1,Uo,Fb,Ul]; grind⟩ ⟨Ru (Fu (Bj (Gl o) z) E) (Fu (Bj (Gl o) (cz q)) (Mf E)),λt=>by
    have:=Az (f:=cz qp) (w:=cz o) (u:=E) (λt=>by rw [Ul,Ul,hE]) t;rw [Hy,this,hdo,Ul,Ul,hd1,Fo,Uo,Uo,Fb,Fb,Hy,Ul]; grind⟩
   rcases Q8 g'.length 2 with e | e
   ·exact e
   ·exfalso;have h1:=(Qgh s2.pg.t (by omega)).1;have h2:=Be (p:=cz g') (q:=[k]) (λt=>by rw [hkk]; simp only [ev]; grind) (g'.length-1);rw [h2,Qe,Qr (by simp; omega)] at h1;exact h1 rfl
  have hpq:∀ t,ev (cz p) t=((Gl p:Rat)*(Gl o:Rat))*(ev (cz q) t*(ev S t*ev S t)):=λt=>by
   rw [Ul,Ul,p7,hS,o7,s2.e,hg1,Pe]; grind
  have hk0:(Gl p:Rat)*(Gl o:Rat)≠0:=λh=>(Jc.1 h).elim (I7 p6) (I7 o6)
  have hpz:¬∀ t,ev (cz p) t=0:=λh'=>Qf8 h.t (by omega) λt=>by rw [<-Ul]; exact h' t
  obtain ⟨k,hk⟩:=nmE (Us ((Gl p:Rat)*(Gl o:Rat)));have hkn:k≠0:=λh=>hk0 (Ff.1 (by rw [<-hk]; exact h))
  have ho:o.length≠0:=by omega
  rw [o1];show ∃ l,(if o.length=0 then some [] else Qtx o)=some l/\l.length<=67/\_;rw [if_neg ho];have hb1:=Qet (Lp s2.pq.t s2.pq.n);have hll:=hRI.len;have hlv:=Zj8 (c.map cz) (-Ga q);have hcl:=(Orr.chain_ok (p:=o) ⟨hpt.ot,by omega,Ug bo (by omega)⟩ r2).1;rw [Zc] at hlv;refine ⟨l,r3,by omega,hVa,λa ha=>?_⟩;obtain ⟨r,n1,n2⟩:=Q3d hSt ha hRI hVa (λz hz=>(hout _ _ hz (.inl Qq)).symm) λz _ hz=>by
   rcases Classical.em (z=-Ga q) with e | e
   ·rw [e]
   ·exact hout z _ (by grind) (.inr Qq)
  refine ⟨r,n1,?_,λt ht=>by subst ht; exact n2.1⟩;cases r with
  |
   none =>
   obtain ⟨s,hs,hz⟩:=n2;refine .inr ⟨k*s,Jj hkn hs,λc hc hac=>?_⟩;obtain ⟨y,hy⟩:=hc.hi;have h1:RS (cz q) c s:=⟨y,hy,λz z1 _=>hz z (hac z z1)⟩;rw [hk]; exact Q9x hc hk0 hpq hpz h1
  |
   some t =>
   obtain ⟨hm,hlt,s,hs,hz,hrs⟩:=n2;refine ⟨λe=>h0 (by rw [e]; rfl),hVa t hm,hlt,k*s,Jj hkn hs,λc hc hac ⟨m,m1,m2⟩=>?_,?_⟩
   ·have h1:RS (cz q) c s:=⟨m,m1,λz z1 z2=>hz z (hac z z1) (by
     rcases Classical.em (z=m) with e | e
     ·rw [e]; exact m2
     ·exact (hVa t hm).cut.mono' (q:=z) (r:=m) (by grind) (by omega))⟩
    rw [hk]; exact Q9x hc hk0 hpq hpz h1
   ·have:=Q9x (hVa t hm).cut hk0 hpq hpz hrs;rw [<-hk] at this;rw [show -(k*s)=k*-s by rw [Kg]]; exact this
structure Sz (s n:Nat) (t:Tm):Prop where
 n:t.p.length<=n
 b:Bd (s+138) t.p
 g:∃ D M k,Gr D M k t.lo/\Gr D M k t.hi/\0<M/\Ur (D:Int)<=s+138/\Ur (M:Int)<=s+139/\k<=63*s+9507
theorem Q8j {p:List Int} (h:Cp p) {a:Tm} (ha:Va a):∃ r,Qmt p a=some r/\Ld p a r:=by
 obtain ⟨l,l1,_,_,l3⟩:=Quf h;obtain ⟨r,r1,r2,_⟩:=l3 a ha;refine ⟨r,?_,r2⟩;unfold Qmt;rw [l1]; exact r1
theorem Qmg:∀ (l:List Tm) (b:Tm),(∀ t∈b::l,Va t)->∃ m,A3 b l=some m/\m∈b::l/\∀ t∈b::l,¬TLt t m
 |
  [],b,h=>⟨b,rfl,Qt ..,λt ht h'=>by
  rw [Qn.1 ht] at h';have hb:=(h b (Qt ..)).cut;exact Qpc hb hb h' h'⟩
 |
  a::l,b,h=>by
  have ha:=h a (by simp);have hb:=h b (by simp);obtain ⟨c,c1,c2⟩:=Qzc ha hb;obtain ⟨m,m1,m2,m3⟩:=Qmg l (if c<0 then a else b) λt ht=>by
   rcases Qo.1 ht with rfl | ht
   ·split <;> assumption
   ·exact h t (by simp [ht])
  refine ⟨m,by simp only [A3]; rw [c1]; exact m1,?_,λt ht=>?_⟩
  ·rcases Qo.1 m2 with e | e
   ·rw [e]; split <;> simp
   ·simp [e]
  ·have hm:Va m:=by
    rcases Qo.1 m2 with e | e
    ·rw [e]; split <;> assumption
    ·exact h m (by simp [e])
   have hfst:=m3 _ (Qt ..);have tr:∀ x y:Tm,Va x->Va y->¬TLt x y->¬TLt y m->¬TLt x m:=λx y hx hy h1 h2 h3=>by
    rcases tri hy.cut hm.cut with h4 | h4 | h4
    ·exact h2 h4
    ·obtain ⟨q,q1,q2⟩:=h3;exact h1 ⟨q,q1,by rw [h4]; exact q2⟩
    ·obtain ⟨q,q1,q2⟩:=h3;obtain ⟨r,r1,r2⟩:=h4;have:=hm.cut.lt q2 r1;exact h1 ⟨q,q1,hy.cut.mono' this (by omega)⟩
   rcases Qo.1 ht with rfl | ht
   ·by_cases hc:c<0
    ·rw [if_pos hc] at hfst;refine tr _ a hb ha ?_ hfst;rcases c2 with ⟨_,h'⟩ | ⟨e,_⟩ | ⟨e,_⟩
     ·exact λh''=>Qpc ha.cut hb.cut h' h''
     ·omega
     ·omega
    ·rw [if_neg hc] at hfst; exact hfst
   ·rcases Qo.1 ht with rfl | ht
    ·by_cases hc:c<0
     ·rw [if_pos hc] at hfst; exact hfst
     ·rw [if_neg hc] at hfst;refine tr _ b ha hb ?_ hfst;rcases c2 with ⟨e,_⟩ | ⟨_,h'⟩ | ⟨_,h'⟩
      ·omega
      ·rintro ⟨q,q1,q2⟩
       have:=h' q; omega
      ·exact λh''=>Qpc ha.cut hb.cut h'' h'
    ·exact m3 t (by simp [ht])
end Orq
namespace Orr
open Go Go.Proofs Orq
set_option maxRecDepth 10000
theorem Dp.pb {p:List Int} (h:Dp p):Pb p:=⟨h.t,by have:=h.l; omega,Ug h.b (by have:=h.l; omega)⟩
theorem Zk4 {p:List Int} {a:Tm} (hp:Dp p) (ha:Va a):Uh Tryz.prog 219 [pr p,.agg (ta a)] [.one (.int .i64 (Ch a p))]:=Zb5 (Dp.pb hp) ha.tb (Q94 hp ha).1
theorem Zkw {p:List Int} {a:Tm} (hp:Dp p) (ha:Va a):Uh Tryz.prog 218 [pr p,.one (.sh (ta a))] [.one (.int .i64 (Ch a p))]:=w tt Tryz.func218 rfl [.c [] (Zk4 hp ha)] rfl rfl trivial
theorem Zcg {p:List Int} {fid:Nat} {l1:List LV} {sgn:List Int->Int} (hp:Dp p) (h:∀ p,Dp p->Uh Tryz.prog fid [pr p,.one (.sh l1)] [.one (.int .i64 (sgn p))]):Uh Tryz.prog 217 [pr p,.one (.fn fid [] [.sh l1])] [.one (.int .i64 (Hd sgn p.length p))]:=by
 have hpb:=Dp.pb hp;refine Ha Tryz.func217 rfl ?_;refine go tt [.c [] (Hq hpb.t hpb.ln hpb.bd)] rfl trivial ?_;refine lp (S:=List Int) 0 (λL1 s=>(0,.v (pr s))::L1) (λ_=>[]) (λs=>s.length) (λs=>Dp s/\Hd sgn s.length s=Hd sgn p.length p) p ⟨hp,rfl⟩ rfl (λ_ _=>rfl) rfl λr ⟨j1,j4⟩=>?_
 rw [<-j4];have jb:=Dp.pb j1;by_cases h0:r.length=0
 ·have e:=Qgf sgn h0;rw [e];exact en tt [.f (by simp; exact Qi h0)] rfl rfl trivial
 ·have hs:=h r j1;by_cases hz:sgn r=0
  ·have hlp:=Sr r;refine go tt [.t (by simp; omega),.c [] hs,.f (by simpa using hz),.c [] (Qad jb.ln jb.bd)] rfl trivial ?_;exact rd (Fg r) (by omega) ⟨j1.der,by rw [<-Qge sgn (by omega) hz]⟩ rfl
  ·rw [Qgd sgn (by omega) hz];exact en tt [.t (by simp; omega),.c [] hs,.t (by simpa using hz)] rfl rfl trivial
abbrev gmA (a:Tm) (p:List Int):Int:=Nw (Ch a) p
theorem Zgd {p:List Int} {a:Tm} (hp:Dp p) (ha:Va a):Uh Tryz.prog 174 [pr p,.agg (ta a)] [.one (.int .i64 (gmA a p))] :=
 w tt Tryz.func174 rfl [.c [] (Zcg (sgn:=Ch a) hp λ_ h=>Zkw h ha)] rfl rfl trivial
structure Sc (k:Crv):Prop where
 n:Nml k
 c:Cs 128 3 k
theorem Sc.cb {k:Crv} (h:Sc k):Cb k:=h.c.mono (by omega) (by omega)
theorem Zg9 (q:Rat) {P:Prop} (h:(tq q).point=false):P:=by
 have e:(tq q).point=true:=Pf.2 Qq;rw [e] at h; cases h
theorem Zpm {q:Rat} (hq:Qs 400000 q):Va (tq q):=by
 have hd:=q.den_nz;refine ⟨.inl ⟨rfl,?_⟩,Q1l q,by show 2<=9; omega,by show 2<=2; omega,Zku (hq.mono (by omega)),Zg9 q,Zg9 q,q.den,q.num.natAbs+1,0,?_,?_,by omega,?_⟩
 ·have e:(q.num:Rat)=q*(q.den:Rat):=by
   have:(q.num:Rat) / (((q.den:Int)):Rat)=q:=by rw [Gt,Zv]
   have h2:(q.num:Rat) / (q.den:Rat)*(q.den:Rat)=q.num:=Zg (by have:=Orq.nat_pos q.den_pos; grind);rw [show (q.num:Rat) / (q.den:Rat)=q from this] at h2; exact h2.symm
  show Ui [-q.num,(q.den:Int)] q=0;simp only [Ui];rw [Vj,e,show (((q.den:Int)):Rat)=(q.den:Rat) from rfl]; grind
 all_goals first | (have h1:Ur (q.den:Int)<=400000:=hq.2; have h2:Ur ((q.num.natAbs+1:Nat):Int)<=400001:=Q23 hq.1; omega) | skip
 all_goals
  refine ⟨⟨q.num,?_⟩,?_,q.den_pos⟩
  ·rw [Y7,Yn];have:(q.num:Rat) / (((q.den:Int)):Rat)=q:=by rw [Gt,Zv]
   have h2:(q.num:Rat) / (q.den:Rat)*(q.den:Rat)=q.num:=Zg (by have:=Orq.nat_pos q.den_pos; grind);rw [show (q.num:Rat) / (q.den:Rat)=q from this] at h2; exact h2
  ·have h1:Up q<=Up (q.num:Rat):=by
    have e:(q.num:Rat)=q*(q.den:Rat):=by
     have:(q.num:Rat) / (((q.den:Int)):Rat)=q:=by rw [Gt,Zv]
     have h2:(q.num:Rat) / (q.den:Rat)*(q.den:Rat)=q.num:=Zg (by have:=Orq.nat_pos q.den_pos; grind);rw [show (q.num:Rat) / (q.den:Rat)=q from this] at h2; exact h2.symm
    rw [e,Cv];have hd1:(1:Rat)<=(q.den:Rat):=by
     have:((1:Nat):Rat)<=(q.den:Rat):=Zb.2 q.den_pos;exact this
    have e2:Up (q.den:Rat)=(q.den:Rat):=by unfold Up; rw [if_neg (by grind)]
    rw [e2];have:=Su (a:=Up q) (c:=1) (Gm q) Qq (by decide) hd1;grind
   rw [Rw] at h1;refine Q9 h1 (Zb.2 (by omega))
end Orr
namespace Orr
variable {α:Type}
def M7 (lt:α->α->Bool) (out:List α) (x:α):Nat->Nat
 | 0=>0
 |
  k+1=>match out[k]? with
  | some y=>if lt x y=true then M7 lt out x k else k+1
  | none=>k+1
theorem Qpv (lt:α->α->Bool) (out:List α) (x:α):∀ k,M7 lt out x k<=k
 | 0=>Qm _
 |
  k+1=>by
  simp only [M7]
  split
  ·split
   ·exact Nat.le_succ_of_le (Qpv lt out x k)
   ·exact Qm _
  ·exact Qm _
theorem Qpw {lt:α->α->Bool} {out:List α} {x y:α} {k:Nat} (hx:out[k]? = some y) (h:lt x y=true):M7 lt out x (k+1)=M7 lt out x k:=by
 simp only [M7,hx,h,if_true]
theorem Qkc {lt:α->α->Bool} {out:List α} {x y:α} {k:Nat} (hx:out[k]? = some y) (h:lt x y=false):M7 lt out x (k+1)=k+1:=by
 simp [M7,hx,h]
def L9 (lt:α->α->Bool) (out:List α) (x:α):List α:=out.take (M7 lt out x out.length)++x::out.drop (M7 lt out x out.length)
theorem Q7u (lt:α->α->Bool) (out:List α) (x:α):(L9 lt out x).length=out.length+1:=by
 have:=Qpv lt out x out.length;simp [L9]; omega
theorem Qjl {lt:α->α->Bool} {out:List α} {x y:α}:y∈L9 lt out x↔y=x\/y∈out:=by
 have h:y∈out↔y∈out.take (M7 lt out x out.length)\/y∈out.drop (M7 lt out x out.length):=by
  rw [<-Qw,Zf]
 simp only [L9,Qw,Qo,h];constructor
 ·rintro (h | h | h)
  ·exact .inr (.inl h)
  ·exact .inl h
  ·exact .inr (.inr h)
 ·rintro (h | h | h)
  ·exact .inr (.inl h)
  ·exact .inl h
  ·exact .inr (.inr h)
def H8 (lt:α->α->Bool) (l:List α):List α:=l.foldl (L9 lt) []
theorem Qxw (lt:α->α->Bool) (l:List α) (x:α):H8 lt (l++[x])=L9 lt (H8 lt l) x:=by simp [H8,Yx]
theorem Qkq {lt:α->α->Bool} {l:List α} {i:Nat} {x:α} (h:l[i]? = some x):H8 lt (l.take (i+1))=L9 lt (H8 lt (l.take i)) x:=by
 rw [Xc,h]; exact Qxw _ _ _
theorem Qja (lt:α->α->Bool):∀ (l acc:List α),(l.foldl (L9 lt) acc).length=acc.length+l.length
 | [],acc=>by simp
 | c::l,acc=>by simp only [Z8]; rw [Qja lt l (L9 lt acc c),Q7u]; simp; omega
theorem Ny (lt:α->α->Bool) (l:List α):(H8 lt l).length=l.length:=by unfold H8; rw [Qja]; simp
theorem Qjb (lt:α->α->Bool):∀ (l acc:List α) {y:α},y∈l.foldl (L9 lt) acc↔y∈l\/y∈acc
 | [],acc,y=>by simp
 |
  c::l,acc,y=>by
  simp only [Z8];rw [Qjb lt l,Qjl,Qo];constructor
  ·rintro (h | h | h)
   ·exact .inl (.inr h)
   ·exact .inl (.inl h)
   ·exact .inr h
  ·rintro ((h | h) | h)
   ·exact .inr (.inl h)
   ·exact .inl h
   ·exact .inr (.inr h)
theorem De {lt:α->α->Bool} {l:List α} {y:α}:y∈H8 lt l↔y∈l:=by
 unfold H8; rw [Qjb]; simp
end Orr
namespace Orr
open Go Orq
structure Wt where
 c:Ct
 known:Bool
 fails:Option Tm
def f0:Option Tm->LV | none=>.row [] | some t=>pl t.p
def f1:Option Tm->LV | none=>.bool false | some t=>sg t.lo.num
def f2:Option Tm->LV | none=>.row [] | some t=>mg t.lo.num
def f3:Option Tm->LV | none=>.bool false | some t=>sg (t.lo.den:Int)
def f4:Option Tm->LV | none=>.row [] | some t=>mg (t.lo.den:Int)
def f5:Option Tm->LV | none=>.bool false | some t=>sg t.hi.num
def f6:Option Tm->LV | none=>.row [] | some t=>mg t.hi.num
def f7:Option Tm->LV | none=>.bool false | some t=>sg (t.hi.den:Int)
def f8:Option Tm->LV | none=>.row [] | some t=>mg (t.hi.den:Int)
abbrev fl (o:Option Tm):List LV:=[f0 o,f1 o,f2 o,f3 o,f4 o,f5 o,f6 o,f7 o,f8 o]
abbrev wl (w:Wt):List LV:=[.int .i64 w.c.kind,.int .i64 w.c.i0,.int .i64 w.c.i1,.int .i64 w.c.i2,.int .i64 w.c.i3,pl w.c.p,.int .i64 w.c.want,.bool w.known,.bool w.fails.isSome,f0 w.fails,f1 w.fails,f2 w.fails,f3 w.fails,f4 w.fails,f5 w.fails,f6 w.fails,f7 w.fails,f8 w.fails]
def Qx7 (l:List Wt):List (List LV):=l.map λw=>wl w
theorem Za4 (l:List Wt):(Qx7 l).length=l.length:=by simp [Qx7]
structure Cr where
 now:Tm
 l:List Wt
 ev:Int
abbrev crl (c:Cr) (r0 r1:List (List LV)):List LV:=.bool true::pl c.now.p::sg c.now.lo.num::mg c.now.lo.num::sg (c.now.lo.den:Int)::mg (c.now.lo.den:Int)::sg c.now.hi.num::mg c.now.hi.num::sg (c.now.hi.den:Int)::mg (c.now.hi.den:Int)::.row (Qx7 c.l)::.int .i64 c.ev::[.row r0,.row r1]
structure WtOk (w:Wt):Prop where
 p:Cp w.c.p
 f:∀ t,w.fails=some t->Va t
structure CrOk (c:Cr):Prop where
 n:Va c.now
 l:∀ w∈c.l,WtOk w
 k:c.l.length<=1000
def Zmb (a b:Ct):Bool:=decide ([a.kind,a.i0,a.i1,a.i2,a.i3]=[b.kind,b.i0,b.i1,b.i2,b.i3])
def fresh (x:Ct):Wt:=⟨x,false,none⟩
def Qgj:List Wt->Ct->Tm->Option Wt
 | [],x,_=>some (fresh x)
 |
  w::l,x,at_=>if Zmb w.c x=true/\w.known=true/\w.c.p=x.p then
   match w.fails with
   | none=>some ⟨x,true,none⟩
   | some t=>(Qk3 t at_).bind λc=>if 0<c then some ⟨x,true,some t⟩ else Qgj l x at_
  else Qgj l x at_
def Qz6 (old:List Wt) (at_:Tm):List Ct->Option (List Wt)
 | []=>some []
 | x::l=>(Qgj old x at_).bind λw=>(Qz6 old at_ l).bind λr=>some (w::r)
end Orr
namespace Orr
open Go Go.Proofs Orq
set_option maxRecDepth 10000
theorem Qsq {old:List Wt} {at_:Tm}:∀ {l:List Ct} {ws:List Wt},Qz6 old at_ l=some ws->ws.length=l.length/\∀ (i:Nat) (x:Ct),l[i]? = some x->∃ w,Qgj old x at_=some w/\ws[i]? = some w
 | [],ws,h=>by injection h with h; subst h; exact ⟨rfl,λi x hx=>by simp at hx⟩
 |
  y::l,ws,h=>by
  simp only [Qz6] at h;obtain ⟨w,hw,h⟩:=Qk.1 h;obtain ⟨r,hr,h⟩:=Qk.1 h;injection h with h; subst h;obtain ⟨a,b⟩:=Qsq hr;refine ⟨by simp [a],λi x hx=>?_⟩;cases i with
  | zero=>injection hx with hx; subst hx; exact ⟨w,hw,rfl⟩
  | succ i=>exact b i x (by simpa using hx)
theorem Q39 {l:List Wt} {i:Nat} {w:Wt} (h:l[i]? = some w):Qx7 (l.take (i+1))=Qx7 (l.take i)++[wl w]:=by
 rw [Xc,h]; simp [Qx7]
abbrev crz (r0 r1:LV):List LV:=[.bool false,.nils,.bool false,.nils,.bool false,.nils,.bool false,.nils,.bool false,.nils,.nils,.int .i64 0,r0,r1]
theorem Zb7 {T:Nat} {r0 r1:List (List LV)} {at_:Tm} {l:List Ct} (ha:Va at_) (hl:∀ x∈l,Cp x.p) (hn:l.length≤1000):Mv Tryz.prog 116 [.one (.ow 0 0),.agg (ta at_),.one (.bool false),.one (.row (Gp l))] [.blk T (crz (.row r0) (.row r1))] [] [.blk T (crl ⟨at_,(Tp l).map fresh,0⟩ r0 r1)]:=by
 have cs:=Zhv (l:=l) (λx hx=>Dp.pb (hl x hx).dp) (by omega);have cl:=Q4v (b:=at_) (l:=[]) ha.tb (λt ht=>by cases ht) (by decide) rfl;have hs:(Tp l).length=l.length:=Qfw l;refine Ha Tryz.func116 rfl ?_;refine go tt [.o 8 146 18,.c [] cs] rfl trivial ?_;refine lp (S:=Nat) 3 (λL1 i=>(15,.v (.one (.int .i64 (i:Int))))::(8,.v (.one (.orow 2 18 none)))::L1) (λi=>[.blk T (crz (.row r0) (.row r1)),.blk 79 (ta at_),.row false 146 18 (Qx7 (((Tp l).map fresh).take i))]) (λi=>l.length-i) (λi=>i<=l.length) 0 (Qg _) rfl (λ_ _=>rfl) rfl λi hi=>?_
 by_cases hlt:i<l.length
 ·obtain ⟨x,hx⟩:=gxE (l:=(Tp l)) (i:=i) (by omega);have hm:∀ y∈[wl (fresh x)],y.length=18:=λy hy=>by rw [Qn.1 hy]; rfl
  have hlt':decide ((i:Int)<((Gp (Tp l)).length:Int))=true:=by simp [Gp]; omega
  have hg:=Q39 (l:=(Tp l).map fresh) (i:=i) (w:=fresh x) (by rw [Za,hx]; rfl);refine go tt [.t hlt',.x (Qol hx),.z 20,.f rfl,.s (sz:=18) hm] rfl (by simp [Uf,Za4]; omega) ?_;exact rd (i+1) (by omega) hlt (by rw [hg]; rfl)
 ·obtain rfl:i=l.length:=by omega
  rw [Qj (by simp; omega)];have hge:decide ((l.length:Int)<((Gp (Tp l)).length:Int))=false:=by simp [Gp]; omega
  exact ed tt [] [0] [.f hge,.p 2,.c [] cl] rfl trivial
theorem Q13 {T:Nat} {r0 r1:List (List LV)} {at_:Tm} {l:List Ct} (ha:Va at_) (hl:∀ x∈l,Cp x.p) (hn:l.length≤1000):Mv Tryz.prog 97 [.one (.ow 0 0),.agg (ta at_),.one (.row (Gp l))] [.blk T (crz (.row r0) (.row r1))] [] [.blk T (crl ⟨at_,(Tp l).map fresh,0⟩ r0 r1)]:=by
 have cl:=Zb7 (T:=T) (r0:=r0) (r1:=r1) ha hl hn;refine Ha Tryz.func97 rfl ?_;exact ed tt [] [0] [.g 12 false rfl,.c [0] cl] rfl trivial
theorem eB {a b:Bool} (h:a=b):TV.one (LV.bool a)=.one (.bool b):=h ▸ rfl
theorem Qdj:∀ {l:List (List Int)} {i:Nat} {p o:List Int},Pb p->(∀ f∈l,Pb f)->Qjx i p l=some o->Pb o
 | [],i,p,o,hp,_,h=>by simp only [Qjx] at h; injection h with h; subst h; exact hp
 |
  f::l,i,p,o,hp,hl,h=>by
  simp only [Qjx] at h
  split at h
  ·obtain ⟨q,hq,h⟩:=Qk.1 h;obtain ⟨rfl,hq'⟩:=Iy (Gv _ _) hq;exact Qdj hq' (λf hf=>hl f (Qh _ hf)) h
  ·exact Qdj hp (λf hf=>hl f (Qh _ hf)) h


theorem Qhx {p:List Int} {c:List (List Int)} (hp:Pb p):∀ {k:Nat} {lo hi:Rat} {n:Int} {r:List Tm},Qb lo->Qb hi->Af p c k lo hi n=some r->∀ t∈r,Tb t
 | 0,_,_,_,_,_,_,h=>by cases h
 |
  k+1,lo,hi,n,r,hl,hh,h=>by
  simp only [Af] at h
  split at h
  ·injection h with h; subst h; exact λt ht=>by cases ht
  ·split at h
   ·injection h with h; subst h;intro t ht; rw [Qn.1 ht]; exact ⟨hp,hl,hh⟩
   ·obtain ⟨m,hm,h⟩:=Qk.1 h;obtain ⟨rfl,qm⟩:=Qvx hm;obtain ⟨x,hx,h⟩:=Qk.1 h;obtain ⟨y,hy,h⟩:=Qk.1 h;injection h with h; subst h;intro t ht;rcases Qw.1 ht with ht | ht
    ·exact Qhx hp hl qm hx t ht
    ·exact Qhx hp qm hh hy t ht
def U4 (l:List Pt):List (List LV):=l.map Hn
theorem Oy {l:List Pt} {i:Nat} {c:Pt} (h:l[i]? = some c):(U4 l)[i]? = some (Hn c):=Gz h
theorem Nx (l:List Pt):(U4 l).length=l.length:=by simp [U4]
def Zoj (t:Tm) (l:List Pt):List Pt:=H8 (Qif (Ch t)) l

def Qgo (now:Tm):List Wt->Option (List Wt)
 | []=>some []
 | w::l=>(if w.known=true then some w else (Qmt w.c.p now).bind λr=>some ⟨w.c,true,r⟩).bind λw'=>(Qgo now l).bind λr=>some (w'::r)
theorem Qmk {now:Tm}:∀ {l ws:List Wt},Qgo now l=some ws->ws.length=l.length/\∀ (i:Nat) (w:Wt),l[i]? = some w->∃ v,ws[i]? = some v/\(w.known=true/\v=w\/w.known=false/\∃ r,Qmt w.c.p now=some r/\v=⟨w.c,true,r⟩)
 | [],ws,h=>by injection h with h; subst h; exact ⟨rfl,λi x hx=>by simp at hx⟩
 |
  y::l,ws,h=>by
  simp only [Qgo] at h;obtain ⟨v,hv,h⟩:=Qk.1 h;obtain ⟨r,hr,h⟩:=Qk.1 h;injection h with h; subst h;obtain ⟨a,b⟩:=Qmk hr;refine ⟨by simp [a],λi x hx=>?_⟩;cases i with
  |
   zero =>
   injection hx with hx; subst hx;refine ⟨v,rfl,?_⟩
   split at hv
   ·rename_i hk; injection hv with hv; exact .inl ⟨hk,hv.symm⟩
   ·rename_i hk;obtain ⟨q,hq,hv⟩:=Qk.1 hv;injection hv with hv;exact .inr ⟨by simpa using hk,q,hq,hv.symm⟩
  | succ i=>exact b i x (by simpa using hx)
def Zi6 (ws:List Wt):Option (Option Tm):=match ws.filterMap (·.fails) with
 | []=>some none
 | b::l=>(A3 b l).map some
theorem Zdx {c:Cr} {ws:List Wt} (hc:CrOk c) (h:Qgo c.now c.l=some ws):CrOk { c with l:=ws }:=by
 obtain ⟨h1,h2⟩:=Qmk h;refine ⟨hc.n,λv hv=>?_,by show ws.length<=1000; rw [h1]; exact hc.k⟩;obtain ⟨i,hi⟩:=Yb hv;have hil:i<c.l.length:=by rw [<-h1]; exact (Qc.1 hi).1
 obtain ⟨v',h3,h4⟩:=h2 i _ (Qf hil);rw [hi] at h3; injection h3 with h3; subst h3;have hw:=hc.l _ (X3 hil);rcases h4 with ⟨_,rfl⟩ | ⟨_,r,k2,rfl⟩
 ·exact hw
 ·obtain ⟨r',r1,r2⟩:=Q8j hw.p hc.n;rw [k2] at r1; injection r1 with r1; subst r1;refine ⟨hw.p,λt ht=>?_⟩;have ht:r=some t:=ht;subst ht;exact r2.2.1
theorem Qsn {at_:Tm} {x:Ct}:∀ {l:List Wt} {w:Wt},Qgj l x at_=some w->w=fresh x\/∃ v∈l,v.known=true/\v.c.p=x.p/\w=⟨x,true,v.fails⟩/\∀ t,v.fails=some t->∃ c,Qk3 t at_=some c/\0<c
 | [],w,h=>by simp only [Qgj] at h; injection h with h; exact .inl h.symm
 |
  v::l,w,h=>by
  simp only [Qgj] at h;have tl:Qgj l x at_=some w->w=fresh x\/∃ v'∈v::l,v'.known=true/\v'.c.p=x.p/\w=⟨x,true,v'.fails⟩/\∀ t,v'.fails=some t->∃ c,Qk3 t at_=some c/\0<c:=λh=>by
   rcases Qsn h with h | ⟨v',h1,h2⟩
   ·exact .inl h
   ·exact .inr ⟨v',Qh _ h1,h2⟩
  split at h
  ·rename_i hk;cases hf:v.fails with
   |
    none =>
    rw [hf] at h;injection h with h;exact .inr ⟨v,Qt ..,hk.2.1,hk.2.2,by rw [hf]; exact h.symm,λt ht=>by rw [hf] at ht; cases ht⟩
   |
    some t =>
    rw [hf] at h;obtain ⟨c,c1,h⟩:=Qk.1 h
    split at h
    ·rename_i h0;injection h with h;exact .inr ⟨v,Qt ..,hk.2.1,hk.2.2,by rw [hf]; exact h.symm,λu hu=>by rw [hf] at hu; injection hu with hu; subst hu; exact ⟨c,c1,h0⟩⟩
    ·exact tl h
  ·exact tl h
theorem Qwm {c:Cr} {at_:Tm} {l:List Ct} {ws:List Wt} (ev:Int) (hc:CrOk c) (ha:Va at_) (hl:∀ x∈l,Cp x.p) (hn:l.length≤1000) (h:Qz6 c.l at_ (Tp l)=some ws):CrOk ⟨at_,ws,ev⟩:=by
 obtain ⟨h1,h2⟩:=Qsq h;refine ⟨ha,λw hw=>?_,by show ws.length<=1000; rw [h1,Qfw]; exact hn⟩;obtain ⟨i,hi⟩:=Yb hw;have hil:i<(Tp l).length:=by rw [<-h1]; exact (Qc.1 hi).1
 obtain ⟨v,h3,h4⟩:=h2 i _ (Qf hil);rw [hi] at h4; injection h4 with h4; subst h4;have hx:=hl _ (Q3u (X3 hil));rcases Qsn h3 with e | ⟨v,v1,_,v3,e,_⟩
 ·rw [e]; exact ⟨hx,λt ht=>by cases ht⟩
 ·rw [e]; exact ⟨hx,λt ht=>(hc.l v v1).f t ht⟩
structure BuildOk (Bc:Tm->List Ct):Prop where
 p:∀ a,Va a->∀ x∈Bc a,Cp x.p
 n:∀ a,Va a->(Bc a).length<=1000


abbrev idl (l:List Int):List (List LV):=l.map λ(z:Int)=>[.int .i64 z]
def Iq (v n:Int):Int:=if n<1 then 0 else v.emod n
theorem Q32 {v n:Int} (h:0<n):(if v.tmod n<0 then v.tmod n+n else v.tmod n)=v % n:=by
 have h3:=V3 v (show n≠0 by omega);have h4:=Ve v h;have h1:=Int.tmod_eq_emod (a:=v) (b:=n);have hn:((n.natAbs:Nat):Int)=n:=by omega
 split at h1
 ·rw [h1]; simp; omega
 ·rename_i hc;rw [h1,hn];have:v % n≠0:=λe=>hc (.inr (Yh e))
  rw [if_pos (by omega)]; omega
theorem Qcs {v n:Int} (hv:-9223372036854775808<=v/\v<=9223372036854775807) (hn:n<=1000000000):Uh Tryz.prog 34 [.one (.int .i64 v),.one (.int .i64 n)] [.one (.int .i64 (Iq v n))]:=by
 unfold Iq;by_cases h:n<1
 ·rw [if_pos h];exact w tt Tryz.func34 rfl [.t (by simpa using h)] rfl rfl trivial
 ·rw [if_neg h];have e:=Q32 (v:=v) (n:=n) (by omega);have h3:=V3 v (show n≠0 by omega);have h4:=Ve v (show 0<n by omega);show Uh Tryz.prog 34 [.one (.int .i64 v),.one (.int .i64 n)] [.one (.int .i64 (v % n))];by_cases h0:v.tmod n<0
  ·rw [if_pos h0] at e;have b:-n<=v.tmod n:=by omega
   exact w tt Tryz.func34 rfl [.f (by simpa using h),.t (by simpa using h0)] rfl (by rw [e]) (by simp [Uf]; omega)
  ·rw [if_neg h0] at e;exact w tt Tryz.func34 rfl [.f (by simpa using h),.f (by simpa using h0)] rfl (by rw [e]) (by simp [Uf]; omega)
end Orr
namespace Orr
open Go Go.Proofs
set_option maxRecDepth 10000
def frow (p:List Rat):List (List LV):=p.map fr
theorem Rq (p:List Rat):(frow p).length=p.length:=by simp [frow]
theorem Dt {p:List Rat} {i:Nat} {q:Rat} (h:p[i]? = some q):(frow p)[i]? = some (fr q):=Gz h
theorem Ql8 (p:List Rat) (q:Rat):frow (p++[q])=frow p++[fr q]:=by simp [frow]
theorem Qe7 (p:List Rat):∀ c∈frow p,c.length=4:=λc hc=>by obtain ⟨x,_,rfl⟩:=Zi.1 hc; rfl
abbrev rp (p:List Rat):LV:=.row (frow p)
theorem Qw0 (q:Rat):∀ c∈[fr q],c.length=4:=λc hc=>by rw [Qn.1 hc]; rfl
theorem Q5n:Uh Tryz.prog 112 [] [.agg (fr 0)]:=w tt Tryz.func112 rfl [.c [] (Qii (n:=0) (by decide))] rfl rfl trivial
theorem Ix {p:List Rat}:Uh Tryz.prog 73 [.one (rp p)] [.one (rp (Tz p))]:=by
 refine Ha Tryz.func73 rfl (ln 0 rfl rfl λhl=>?_);rw [Rq] at hl;have hpl:=Rq p;refine go tt [] rfl trivial ?_;refine lp (S:=Nat) 0 (λL1 n=>(3,.v (.one (.int .i64 (n:Int))))::L1) (λ_=>[]) id (λn=>n<=p.length/\∀ j x,n<=j->p[j]? = some x->x=0) (frow p).length ⟨by rw [hpl]; exact Qm _,λj x h1 h2=>by
  have:=(Qc.1 h2).1; rw [hpl] at h1; omega⟩ rfl (λ_ _=>rfl) rfl λn hs=>?_
 obtain ⟨h1,h2⟩:=hs;cases n with
 |
  zero =>
  have e:=Qfu h1 (λj x h=>h2 j x h) (λh=>absurd h (by decide));exact en tt [.g 8 false (by simp),.f rfl,.i 0] rfl (by rw [e]; rfl) (by simp [Uf])
 |
  succ n =>
  obtain ⟨x,hx⟩:=gxE (l:=p) (i:=n) (by omega);have hn:=Rat.num_eq_zero (q:=x);by_cases h0:x=0
  ·refine go tt [.g 8 true (by simp),.r 11 (eI (b:=(n:Int)) (by simp)),.x (Dt hx),.c [] (P8 (z:=x.num)),.t (decide_eq_true (hn.2 h0)),.r 18 (eI (b:=(n:Int)) (by simp))] rfl (by simp [Uf]; omega) ?_;exact rd n (by simp) ⟨by omega,λj y h3 h4=>by
    rcases Vg h3 with rfl | h3
    ·rw [hx] at h4; injection h4 with h4; rw [<-h4,h0]
    ·exact h2 j y h3 h4⟩ rfl
  ·have e:=Qfu h1 (λj x h=>h2 j x h) (λ_=>⟨x,hx,h0⟩);exact en tt [.g 8 true (by simp),.r 11 (eI (b:=(n:Int)) (by simp)),.x (Dt hx),.c [] (P8 (z:=x.num)),.f (decide_eq_false λh=>h0 (hn.1 h)),.i (n+1)] rfl (by rw [e]; simp [rp,frow,Yv]) (by simp [Uf,hpl] <;> omega)
theorem Zgf {p:List Rat} {i:Nat} (hi:i<1099511627776):Uh Tryz.prog 111 [.one (rp p),.one (.int .i64 (i:Int))] [.agg (fr (p.getD i 0))]:=by
 have hpl:=Rq p;by_cases h:i<p.length
 ·have e:p.getD i 0=p[i]:=by rw [Qe,Qf h]; rfl
  rw [e];exact w tt Tryz.func111 rfl [.g 7 false (decide_eq_false (by omega)),.f (decide_eq_false (by omega)),.x (Dt (Qf h))] rfl rfl trivial
 ·have e:p.getD i 0=0:=by rw [Qe,Qr (by omega)]; rfl
  rw [e];exact w tt Tryz.func111 rfl [.g 7 false (decide_eq_false (by omega)),.t (decide_eq_true (by omega)),.c [] Q5n] rfl rfl trivial
theorem Qvt:Uh Tryz.prog 108 [.one (ids [1])] [.one (rp (zp [1]))]:=by
 have cc:=Ix (p:=zp [1]);rw [Ng,show trim [1]=[1] from rfl] at cc;refine Ha Tryz.func108 rfl ?_;refine go tt [.o 3 35 4] rfl trivial ?_;refine lp (S:=Nat) 1 (λL1 i=>(7,.v (.one (.int .i64 (i:Int))))::(3,.v (.one (.orow 0 4 none)))::L1) (λi=>[.row false 35 4 (frow ((zp [1]).take i))]) (λi=>1-i) (λi=>i<=1) 0 (by decide) rfl (λ_ _=>rfl) rfl λi hi=>?_
 rcases (show i=0\/i=1 by omega) with rfl | rfl
 ·refine go tt [.t rfl,.x (l:=idl [1]) (i:=0) (xs:=[.int .i64 1]) rfl,.c [] (Qii (n:=1) (by decide)),.s (sz:=4) (Qw0 _)] rfl (by simp [Uf,frow]) ?_;exact rd 1 (by omega) (by omega) rfl
 ·exact en tt [.f rfl,.c [] cc] rfl rfl trivial
theorem Qae {p:List Int} (hb:Bd 90000000 p) (hl:p.length<=1000000):Uh Tryz.prog 28 [pr p] [.one (rp (zp (trim p)))]:=by
 have hpl:(p.map Gs).length=p.length:=by simp
 have cc:=Ix (p:=zp p);rw [Ng] at cc;show Uh Tryz.prog 28 [.one (.row (p.map Gs))] _;refine Ha Tryz.func28 rfl ?_;refine go tt [.o 3 35 4] rfl trivial ?_;refine lp (S:=Nat) 1 (λL1 i=>(7,.v (.one (.int .i64 (i:Int))))::(3,.v (.one (.orow 0 4 none)))::L1) (λi=>[.row false 35 4 (frow (zp (p.take i)))]) (λi=>p.length-i) (λi=>i<=p.length) 0 (Qg _) rfl (λ_ _=>rfl) rfl λi hi=>?_
 have hol:(frow (zp (p.take i))).length=i:=by rw [Rq,Ty,Qx]; omega
 by_cases h:i<p.length
 ·obtain ⟨z,hz⟩:=gxE (l:=p) (i:=i) h;have hzb:=hb z (Qa hz);have hg:frow (zp (p.take (i+1)))=frow (zp (p.take i))++[fr (z:Rat)]:=by
   rw [Xc,hz]; simp [frow,zp]
  refine go tt [.t (decide_eq_true (by omega)),.x (Gz (f:=Gs) hz),.c [] (Qn2 (z:=z) (by omega)),.c [] (Cd (n:=1) (by decide)),.c [] (Pp (n:=z)),.s (sz:=4) (Qw0 _)] rfl (by simp [Uf,hol,-List.getD_eq_getElem?_getD]; omega) ?_;exact rd (i+1) (by omega) h (by rw [hg]; rfl)
 ·have e:i=p.length:=by omega
  rw [e,Q5];exact en tt [.f (decide_eq_false (by omega)),.c [] cc] rfl rfl trivial
theorem Zge {p:List Int} (hb:Bd 90000000 p) (hl:p.length<=1000000):Uh Tryz.prog 229 [.one (rp (zp p))] [pr p]:=by
 have hpl:(frow (zp p)).length=p.length:=by rw [Rq,Ty]
 show Uh Tryz.prog 229 [.one (rp (zp p))] [.one (.row (p.map Gs))];refine Ha Tryz.func229 rfl ?_;refine go tt [.o 3 55 2] rfl trivial ?_;refine lp (S:=Nat) 1 (λL1 i=>(7,.v (.one (.int .i64 (i:Int))))::(3,.v (.one (.orow 0 2 none)))::L1) (λi=>[.row false 55 2 ((p.take i).map Gs)]) (λi=>p.length-i) (λi=>i<=p.length) 0 (Qg _) rfl (λ_ _=>rfl) rfl λi hi=>?_
 have hol:((p.take i).map Gs).length=i:=by rw [Zc,Qx]; omega
 by_cases h:i<p.length
 ·obtain ⟨z,hz⟩:=gxE (l:=p) (i:=i) h;have hzb:=hb z (Qa hz);have hq:∀ c∈[Gs z],c.length=2:=λc hc=>by rw [Qn.1 hc]; rfl
  have hg:(p.take (i+1)).map Gs=(p.take i).map Gs++[Gs z]:=by
   rw [Xc,hz]; simp
  refine go tt [.t (decide_eq_true (by omega)),.x (Dt (Zbd hz)),.c [] (Q5j (z:=z) (by omega)),.s (sz:=2) hq] rfl (by simp [Uf]; omega) ?_;exact rd (i+1) (by omega) h (by rw [hg]; rfl)
 ·have e:i=p.length:=by omega
  rw [e,Q5];exact en tt [.f (decide_eq_false (by omega))] rfl rfl trivial
theorem Qvp {p q:List Rat} (hp:Rb 20000000 p) (hq:Rb 20000000 q) (hlp:p.length<=1000000) (hlq:q.length<=1000000):Uh Tryz.prog 55 [.one (rp p),.one (rp q)] [.one (rp (Qts p q))]:=by
 have h1:=Rq p;have h2:=Rq q;obtain ⟨M,hM⟩:=nmE (max p.length q.length);have cc:=Ix (p:=Ib (λi=>p.getD i 0+q.getD i 0) M);unfold Qts;rw [<-hM];refine Ha Tryz.func55 rfl ?_;refine go tt [.o 5 35 4] rfl trivial ?_;refine lp (S:=Nat) 1 (λL1 i=>(6,.v (.one (.int .i64 (i:Int))))::(5,.v (.one (.orow 0 4 none)))::L1) (λi=>[.row false 35 4 (frow (Ib (λi=>p.getD i 0+q.getD i 0) i))]) (λi=>M-i) (λi=>i<=M) 0 (Qg _) rfl (λ_ _=>rfl) rfl λi hi=>?_
 have hol:(frow (Ib (λi=>p.getD i 0+q.getD i 0) i)).length=i:=by rw [Rq,Qd8]
 by_cases h:i<M
 ·refine go tt [.r 12 (eI (b:=(M:Int)) (by omega)),.t (decide_eq_true (by omega)),.c [] (Zgf (p:=p) (i:=i) (by omega)),.c [] (Zgf (p:=q) (i:=i) (by omega)),.c [] (Q4w (hp.getD (by decide) i) (hq.getD (by decide) i)),.s (sz:=4) (Qw0 _)] rfl (by simp [Uf,hol,-List.getD_eq_getElem?_getD]; omega) ?_;exact rd (i+1) (by omega) h (by rw [Qno,Ql8]; rfl)
 ·have e:i=M:=by omega
  rw [e];exact en tt [.r 12 (eI (b:=(M:Int)) (by omega)),.f (decide_eq_false (by omega)),.c [] cc] rfl rfl trivial
theorem Ek {p:List Rat} {c:Rat} (hp:Rb 40000000 p) (hc:Qs 40000000 c) (hlp:p.length<=1000000):Uh Tryz.prog 156 [.one (rp p),.agg (fr c)] [.one (rp (Sy p c))]:=by
 have h1:=Rq p;have cc:=Ix (p:=Ib (λi=>p.getD i 0*c) p.length);unfold Sy;refine Ha Tryz.func156 rfl ?_;refine go tt [.o 5 35 4] rfl trivial ?_;refine lp (S:=Nat) 2 (λL1 i=>(9,.v (.one (.int .i64 (i:Int))))::(5,.v (.one (.orow 1 4 none)))::L1) (λi=>[.blk 35 (fr c),.row false 35 4 (frow (Ib (λi=>p.getD i 0*c) i))]) (λi=>p.length-i) (λi=>i<=p.length) 0 (Qg _) rfl (λ_ _=>rfl) rfl λi hi=>?_
 have hol:(frow (Ib (λi=>p.getD i 0*c) i)).length=i:=by rw [Rq,Qd8]
 by_cases h:i<p.length
 ·have hg:p[i]? = some (p.getD i 0):=by rw [Qe,Qf h]; rfl
  refine go tt [.t (decide_eq_true (by omega)),.x (Dt hg),.c [] (Q45 (hp.getD (by decide) i) hc),.s (sz:=4) (Qw0 _)] rfl (by simp [Uf,hol,-List.getD_eq_getElem?_getD]; omega) ?_;exact rd (i+1) (by omega) h (by rw [Qno,Ql8]; rfl)
 ·have e:i=p.length:=by omega
  rw [e];exact en tt [.f (decide_eq_false (by omega)),.c [] cc] rfl rfl trivial
theorem Qvs {p:List Rat} (hp:Rb 40000000 p) (hlp:p.length<=1000000):Uh Tryz.prog 104 [.one (rp p)] [.one (rp (Qkk p))]:=by
 have cs:=Ek (p:=p) (c:=-1) hp ⟨by decide,by decide⟩ hlp;have co:=Qii (n:=-1) (by decide);rw [show ((-1:Int):Rat)=-1 from rfl] at co;exact w tt Tryz.func104 rfl [.c [] co,.c [] cs] rfl rfl trivial
theorem Zey {s t:Nat} {a b:Rat} (ha:Qs s a) (hb:Qs t b):Qs (s+t+1) (a*b):=by
 rw [<-Qmm];unfold Gd;rw [if_neg (Jj (Nu a) (Nu b))];have h1:=U6 a.num b.num;have h2:=U6 (a.den:Int) (b.den:Int);have:=ha.1; have:=ha.2; have:=hb.1; have:=hb.2;exact Qs.divInt (by omega) (by omega) (by omega)
theorem Q9n {s:Nat} {p:List Rat} (hp:Rb s p):Rb (s+2) (Qkk p):=by
 unfold Qkk Sy;refine Rb.trim (Zfr λi hi=>?_);have h1:Qs (s+0) (p.getD i 0):=by
  have hi:i<p.length:=hi;rw [Qe,Qf hi];exact hp _ (X3 hi)
 have:=Zey h1 (show Qs 1 (-1:Rat) from ⟨by decide,by decide⟩);exact this.mono (by omega)
theorem Qtw (p:List Rat):(Qkk p).length<=p.length:=by
 unfold Qkk Sy;exact Qd (Qnh _) (by rw [Qd8]; exact Qm _)
theorem Q5v {p q:List Rat} (hp:Rb 19000000 p) (hq:Rb 19000000 q) (hlp:p.length<=1000000) (hlq:q.length<=1000000):Uh Tryz.prog 106 [.one (rp p),.one (rp q)] [.one (rp (Qd0 p q))] :=
 w tt Tryz.func106 rfl [.c [] (Qvs (hq.mono (by decide)) hlq),.c [] (Qvp (hp.mono (by decide)) ((Q9n hq).mono (by decide)) hlp (Qd (Qtw q) hlq))] rfl rfl trivial
theorem Q46 {a b:Int} (ha:Ur a<=40000000) (hb:Ur b<=40000000):Uh Tryz.prog 107 [.agg (fr (a:Rat)),.agg (fr (b:Rat))] [.agg (fr ((a*b:Int):Rat))]:=by
 have h:=Q45 (Ca ha (by decide)) (Ca hb (by decide));rw [<-Xx] at h; exact h
theorem Zhp {a b:Int} (ha:Ur a<=20000000) (hb:Ur b<=20000000):Uh Tryz.prog 110 [.agg (fr (a:Rat)),.agg (fr (b:Rat))] [.agg (fr ((a+b:Int):Rat))]:=by
 have h:=Q4w (Ca ha (by decide)) (Ca hb (by decide));rw [<-V9] at h; exact h
theorem Qr9 (l:List Int) (i:Nat) (z:Int):(frow (zp l)).set i (fr (z:Rat))=frow (zp (l.set i z)):=by simp [frow,zp,Yo]
theorem Zbe {p:List Int} {i:Nat} (h:i<p.length):(zp p)[i]? = some ((p.getD i 0:Int):Rat):=Zbd (Hg h)
theorem Hz {p:List Int} {i:Nat} (h:i<p.length):(frow (zp p))[i]? = some (fr ((p.getD i 0:Int):Rat)):=Dt (Zbe h)
theorem fzl (p:List Int):(frow (zp p)).length=p.length:=by rw [Rq,Ty]
abbrev zR:List LV:=[.nils,.bool false,.nils,.bool false]
theorem Qox {n i:Nat} (h:i<n):(List.replicate i (fr 0)++List.replicate (n-i) zR).set i (fr 0)=List.replicate (i+1) (fr 0)++List.replicate (n-(i+1)) zR:=by
 rw [List.set_append_right _ _ (by simp),Ja,Yd,show n-i=n-(i+1)+1 by omega,J0 (n:=n-(i+1)),List.set_cons_zero,List.replicate_succ' (n:=i),Ze]; rfl
theorem Qkz (n:Nat):List.replicate n (fr 0)++List.replicate (n-n) zR=frow (zp (List.replicate n 0)):=by simp [zp,frow]
theorem Qbs {p q:List Int} {s t:Nat} (hlp:p.length<=1000000) (hlq:q.length<=1000000) (hp:Bd s p) (hq:Bd t q) (hst:s+t<=19000000):Uh Tryz.prog 56 [.one (rp (zp p)),.one (rp (zp q))] [.one (rp (zp (Uq p q)))]:=by
 have hpl:=fzl p;have hql:=fzl q;rcases Qy p.length with h0 | h0
 ·have e:Uq p q=[]:=by unfold Uq; rw [if_pos (.inl h0)]
  rw [e];exact w tt Tryz.func56 rfl [.g 12 true (decide_eq_true (by omega)),.t rfl] rfl rfl trivial
 rcases Qy q.length with h1 | h1
 ·have e:Uq p q=[]:=by unfold Uq; rw [if_pos (.inr h1)]
  rw [e];exact w tt Tryz.func56 rfl [.g 12 false (decide_eq_false (by omega)),.t (decide_eq_true (by omega))] rfl rfl trivial
 have e:Uq p q=trim (B8 p q (List.replicate (p.length+q.length-1) 0) p.length):=by unfold Uq; rw [if_neg (by omega)]
 rw [e];obtain ⟨N,hN⟩:=nmE (p.length+q.length-1);rw [<-hN];obtain ⟨o,ho⟩:=nmE (List.replicate N (0:Int));rw [<-ho];have hol:o.length=N:=by rw [ho]; simp
 have ho0:∀ m,o.getD m 0=0:=λm=>by rw [ho]; exact So N m
 have cc:=Ix (p:=zp (B8 p q o p.length));rw [Ng] at cc;refine Ha Tryz.func56 rfl ?_;refine go tt [.g 12 false (decide_eq_false (by omega)),.f (decide_eq_false (by omega)),.r 22 (eI (b:=(N:Int)) (by omega)),.i N,.i N,.r 25 (eI (b:=(N:Int)) (by simp))] rfl (by simp [Uf]; omega) ?_;refine lp (S:=Nat) 1 (λL1 i=>(26,.v (.one (.int .i64 (i:Int))))::L1) (λi=>[.row false 35 4 (List.replicate i (fr 0)++List.replicate (N-i) zR)]) (λi=>N-i) (λi=>i<=N) 0 (Qg _) rfl (λ_ _=>rfl) rfl λi hi=>?_
 by_cases hlt:i<N
 ·refine go tt [.t (decide_eq_true (by omega)),.c [] Q5n,.i i] rfl (by simp [Uf]; omega) ?_;rw [Qox hlt];exact rd (i+1) (by omega) hlt rfl
 have hiN:i=N:=by omega
 rw [hiN,Qkz,<-ho];clear hiN hlt hi;refine go tt [.f (decide_eq_false (by omega))] rfl trivial ?_;refine lp (S:=Nat) 1 (λL1 i=>(36,.v (.one (.int .i64 (i:Int))))::L1) (λi=>[.row false 35 4 (frow (zp (B8 p q o i)))]) (λi=>p.length-i) (λi=>i<=p.length) 0 (Qg _) rfl (λ_ _=>rfl) rfl λi hi=>?_
 by_cases hlt:i<p.length
 ·refine go tt [.t (decide_eq_true (by omega))] rfl trivial ?_;refine lp (S:=Nat) 1 (λL1 k=>(41,.v (.one (.int .i64 (k:Int))))::L1) (λk=>[.row false 35 4 (frow (zp (Ez (p.getD i 0) q i (B8 p q o i) k)))]) (λk=>q.length-k) (λk=>k<=q.length) 0 (Qg _) rfl (λ_ _=>rfl) rfl λk hk=>?_
  by_cases hk2:k<q.length
  ·have hm1:Ur ((Ez (p.getD i 0) q i (B8 p q o i) k).getD (i+k) 0)<=20000000:=Qd (Ea (t:=39) (Qpf (by rw [Bt]; omega) (Qpe (λj hj=>by omega) ho0 (λi j=>Pv (Uu hp i) (Uu hq j))) (λj=>Pv (Uu hp i) (Uu hq j)) (i+k)) (Kd (show i+1<549755813888 by omega) (by decide))) (by omega);have hm2:Ur (p.getD i 0*q.getD k 0)<=20000000:=Qd (U6 _ _) (by have:=Uu hp i; have:=Uu hq k; omega);have hml:(Ez (p.getD i 0) q i (B8 p q o i) k).length=N:=by rw [E3,Bt,hol]
   have cm:=Q46 (a:=p.getD i 0) (b:=q.getD k 0) (Qd (Uu hp i) (by omega)) (Qd (Uu hq k) (by omega));have hfl:=fzl (Ez (p.getD i 0) q i (B8 p q o i) k);refine go tt [.t (decide_eq_true (by omega)),.i (i+k),.x (Hz (p:=Ez (p.getD i 0) q i (B8 p q o i) k) (i:=i+k) (by omega)),.x (Hz hlt),.x (Hz hk2),.c [] cm,.c [] (Zhp hm1 hm2),.i (i+k)] rfl (by simp [Uf,hfl,-List.getD_eq_getElem?_getD] <;> omega) ?_;rw [Qr9];exact rd (k+1) (by omega) hk2 rfl
  ·obtain rfl:k=q.length:=by omega
   exact go tt [.f (decide_eq_false (by omega))] rfl (by simp [Uf]; omega) (rd (i+1) (by omega) hlt rfl)
 ·obtain rfl:i=p.length:=by omega
  exact en tt [.f (decide_eq_false (by omega)),.c [] cc] rfl rfl trivial
def Qr2 (p:List Int) (n:Nat):List Int:=(List.range n).map λk=>p.getD (k+1) 0*((k+1:Nat):Int)
theorem Q6w (p:List Int) (n:Nat):(Qr2 p n).length=n:=by simp [Qr2]
theorem Q2q (p:List Int) (n:Nat):Qr2 p (n+1)=Qr2 p n++[p.getD (n+1) 0*((n+1:Nat):Int)]:=by simp [Qr2,K5]
theorem Qq0 (p:List Int) (z:Int):frow (zp (p++[z]))=frow (zp p)++[fr (z:Rat)]:=by simp [frow,zp]
theorem Qvq {p:List Int} (hp:Bd 40000000 p) (hl:p.length<=1000000):Uh Tryz.prog 52 [.one (rp (zp p))] [.one (rp (zp (Fg p)))]:=by
 have hpl:=fzl p;have cc:=Ix (p:=zp (Qr2 p (p.length-1)));rw [Ng] at cc;refine Ha Tryz.func52 rfl ?_;refine go tt [.o 3 35 4] rfl trivial ?_;refine lp (S:=Nat) 1 (λL1 j=>(4,.v (.one (.int .i64 ((j+1:Nat):Int))))::(3,.v (.one (.orow 0 4 none)))::L1) (λj=>[.row false 35 4 (frow (zp (Qr2 p j)))]) (λj=>p.length-j) (λj=>j<=p.length-1) 0 (Qg _) rfl (λ_ _=>rfl) rfl λj hj=>?_
 have hfl:=fzl (Qr2 p j);rw [Q6w] at hfl;by_cases h:j+1<p.length
 ·have hk:Ur ((j+1:Nat):Int)<=40000000:=Qd (Qo5 (t:=38) (k:=j+1) (Kd (show j+1<274877906944 by omega) (by decide))) (by decide);refine go tt [.t (decide_eq_true (by omega)),.x (Hz h),.c [] (Qii (n:=((j+1:Nat):Int)) (by omega)),.c [] (Q46 (Uu hp (j+1)) hk),.s (sz:=4) (Qw0 _)] rfl (by simp [Uf,hfl,-List.getD_eq_getElem?_getD] <;> omega) ?_;exact rd (j+1) (by omega) (by omega) (by rw [Q2q,Qq0]; rfl)
 ·have e:j=p.length-1:=by omega
  rw [e];exact en tt [.f (decide_eq_false (by omega)),.c [] cc] rfl rfl trivial
theorem Zil (z:Int):fr (z:Rat)=[nd z.natAbs,sg z,.row [[.int .i64 1]],.bool false]:=by
 have e:U5 1=[1]:=by rw [Aw (by decide),show 1 / 10000=0 from rfl,Ge]
 show [nd z.natAbs,sg z,nd 1,sg 1]=_;unfold nd dl;rw [e]; rfl
theorem Q5w {p:List Int} (hl:p.length<=1000000):Uh Tryz.prog 141 [.one (rp (zp p))] [.one (.bool true)]:=by
 have hpl:=fzl p;refine Ha Tryz.func141 rfl ?_;refine go tt [] rfl trivial ?_;refine lp (S:=Nat) 0 (λL1 i=>(6,.v (.one (.int .i64 (i:Int))))::L1) (λ_=>[]) (λi=>p.length-i) (λi=>i<=p.length) 0 (Qg _) rfl (λ_ _=>rfl) rfl λi hi=>?_
 by_cases h:i<p.length
 ·have hg:=Hz h;rw [Zil] at hg;refine go tt [.t (decide_eq_true (by omega)),.x hg,.g 17 false rfl,.x hg,.x (l:=[[.int .i64 1]]) (i:=0) (xs:=[.int .i64 1]) rfl,.f rfl] rfl (by simp [Uf]; omega) ?_;exact rd (i+1) (by omega) h rfl
 ·exact en tt [.f (decide_eq_false (by omega))] rfl rfl trivial
theorem Q1a:[LV.nils,LV.bool false].map Qg3=ri 0:=by
 show _=[nd 0,sg 0];unfold nd dl;rw [Ge]; rfl
theorem Qxa (p:List Int) (q:Rat):Int.sign (S4 p q.num q.den p.length).1=U9 p q:=by
 unfold U9 Zew B7;generalize (S4 p q.num q.den p.length).1=z;rcases Ju z 0 with h | h | h
 ·rw [if_pos h,X5 h]
 ·subst h; rfl
 ·rw [if_neg (by omega),if_pos h,Jg h]
theorem Qyy {p:List Int} {q:Rat} (hp:Bd 30000000 p) (hl:p.length<=64) (hq:Qs 1000000 q):Uh Tryz.prog 80 [.one (rp (zp p)),.agg (fr q)] [.one (.int .i64 (U9 p q))]:=by
 have hpl:=fzl p;refine Ha Tryz.func80 rfl ?_;refine go tt [.c [] (Q5w (p:=p) (by omega)),.f rfl,.c [] (Cd (n:=1) (by decide)),.r 19 (eI (b:=(p.length:Int)-1-((0:Nat):Int)) (by simp; omega))] rfl (by simp [Uf]; omega) ?_;refine nlb 1 rfl rfl rfl ?_;rw [Q1a];refine lp (S:=Nat) 3 (λL1 j=>(7,.v (.one (.int .i64 ((p.length:Int)-1-(j:Int)))))::L1) (λj=>[.blk 35 (fr q),.blk 33 (ri (S4 p q.num q.den j).1),.blk 33 (ri (S4 p q.num q.den j).2)]) (λj=>p.length-j) (λj=>j<=p.length) 0 (Qg _) rfl (λ_ _=>rfl) rfl λj hj=>?_
 have hv:=Qqs (k:=j) hp hq.1 hq.2;have hjl:j*(1000000+1)<=p.length*(1000000+1):=Qz _ (by omega);by_cases h:j<p.length
 ·have hc:=Uu hp (p.length-1-j);have hq1:=hq.1;have hq2:=hq.2;have hm1:Ur ((S4 p q.num q.den j).1*q.num)<=200000000:=Qd (U6 _ _) (by omega);have hm2:Ur (p.getD (p.length-1-j) 0*(S4 p q.num q.den j).2)<=200000000:=Qd (U6 _ _) (by omega);refine go tt [.t (decide_eq_true (by omega)),.c [] (Sj (a:=(S4 p q.num q.den j).1) (b:=q.num) (by omega) (by omega)),.r 29 (eI (b:=((p.length-1-j:Nat):Int)) (by omega)),.x (Hz (p:=p) (i:=p.length-1-j) (by omega)),.c [] (Sj (a:=p.getD (p.length-1-j) 0) (b:=(S4 p q.num q.den j).2) (by omega) (by omega)),.c [] (Qvk hm1 hm2),.c [] (Sj (a:=(S4 p q.num q.den j).2) (b:=(q.den:Int)) (by omega) (by omega)),.r 23 (eI (b:=(p.length:Int)-1-((j+1:Nat):Int)) (by omega))] rfl (by simp [Uf] <;> omega) ?_;exact rd (j+1) (by omega) h rfl
 ·obtain rfl:j=p.length:=by omega
  exact en tt [.f (decide_eq_false (by omega)),.c [] Qyu] rfl (by rw [Qxa]) trivial
end Orr
namespace Orr
def Fh (p:List Int):Int:=p.getD (p.length-1) 0
def Oz (a b:List Int):Int:=if Fh b<0 then -(Fh a) else Fh a
def Ed (a b:List Int) (i:Nat):Int:=a.getD i 0*((Fh b).natAbs:Int)-(if a.length-b.length<=i then Oz a b*b.getD (i-(a.length-b.length)) 0 else 0)
def Qne (a b:List Int):List Int:=Pk a.length (Ed a b)
inductive RRun (b:List Int):Nat->List Int->List Int->Prop
 | stop {a:List Int}:a.length<b.length->RRun b 0 a a
 | step {k:Nat} {a r:List Int}:b.length<=a.length->a.length<=1000->Bd 9000000 a->Bd 9000000 b->RRun b k (Qne a b) r->RRun b (k+1) a r
def Em (p:List Int):Nat->Nat
 | 0=>0
 | i+1=>Int.gcd (Em p i:Nat) (p.getD i 0)
def Qa9 (p:List Int):Nat:=Em p p.length
theorem Qez (p:List Int):∀ {i j:Nat},j<i->((Em p i:Nat):Int)∣p.getD j 0
 | 0,_,h=>absurd h (Ub _)
 |
  i+1,j,h=>by
  simp only [Em];rcases Q8 j i with h1 | h1
  ·exact Vd (Wx ..) (Qez p h1)
  ·rw [show j=i by omega]; exact Vo ..
theorem Qrn (p:List Int) (j:Nat):((Qa9 p:Nat):Int)∣p.getD j 0:=by
 rcases Q8 j p.length with h | h
 ·exact Qez p h
 ·rw [Qe,Qr h]; exact Int.dvd_zero _
theorem Iz {s:Nat} {p:List Int} (h:Bd s p):∀ i,Ur ((Em p i:Nat):Int)<=s
 | 0=>by simp [Em,Pu]
 |
  i+1=>by
  simp only [Em];by_cases h0:p.getD i 0=0
  ·rw [h0,Int.gcd_zero_right]; exact Iz h i
  ·have h1:=Vo (Em p i:Nat) (p.getD i 0);have h2:(Int.gcd (Em p i:Nat) (p.getD i 0))<=(p.getD i 0).natAbs:=V1 (by omega) (by simpa using Xw.2 h1);have h3:=Uu h i;rw [Ri] at h3 ⊢;simp only [Xa];omega
theorem Q2g {p:List Int} {j i:Nat} (hj:j<i) (h:p.getD j 0≠0):0<Em p i:=by
 have:=Qez p hj;rcases Qy (Em p i) with h0 | h0
 ·rw [h0] at this;exact absurd (Int.zero_dvd.1 this) h
 ·exact h0
theorem Qro {p:List Int} (ht:Um p) (h:0<p.length):0<Qa9 p:=Q2g (j:=p.length-1) (by omega) (Gw ht h)
def Ml (p:List Int):Int:=if Fh p<0 then -((Qa9 p:Nat):Int) else ((Qa9 p:Nat):Int)
def G7 (p:List Int):List Int:=Pk p.length λi=>p.getD i 0 / Ml p
def Po (p:List Int):List Int:=if Fh p<0 then H5 (G7 p) else G7 p
theorem Q2u (p:List Int) (j:Nat):Ml p∣p.getD j 0:=by
 unfold Ml
 split
 ·exact Uc.2 (Qrn p j)
 ·exact Qrn p j
theorem Q67 {p:List Int} (ht:Um p) (h:0<p.length):Ml p≠0:=by
 have:=Qro ht h;unfold Ml
 split <;> omega
theorem Qly {s:Nat} {p:List Int} (h:Bd s p):Ur (Ml p)<=s:=by
 unfold Ml
 split
 ·rw [Gy]; exact Iz h _
 ·exact Iz h _
theorem Qxm {p:List Int} {c:Int} (hc:c≠0) (hd:∀ j,c∣p.getD j 0):Sy (zp p) (1 / (c:Rat))=zp (Pk p.length λi=>p.getD i 0 / c):=by
 unfold Sy Pk;rw [Qh6 (g:=λi=>p.getD i 0 / c) _ λi _=>?_,Ng,Ty];obtain ⟨k,hk⟩:=hd i;have hc':(c:Rat)≠0:=λe=>hc (by exact_mod_cast e)
 rw [Qem,hk,Xt _ hc,Xx];grind
theorem Qie {s:Nat} {p:List Int} (h:Bd s p):Bd s (G7 p):=Qab λi _=>Qd (I9 _ _) (Uu h i)
theorem Qfg (p:List Int):(G7 p).length<=p.length:=Eo _ _
theorem Q1v {s:Nat} {p:List Int} (h:Bd s p):Bd s (Po p):=by
 unfold Po
 split
 ·exact Qac (Qie h)
 ·exact Qie h
theorem Qwo (p:List Int):(Po p).length<=p.length:=by
 unfold Po
 split
 ·exact Qd (Bs _) (Qfg p)
 ·exact Qfg p
inductive GRun:Nat->List Int->List Int->List Int->Prop
 | stop (a:List Int):GRun 0 a [] a
 | step {k m:Nat} {a b r g:List Int}:0<b.length->b.length<=1000->Bd 9000000 b->RRun b m a r->r.length<=1000->Bd 9000000 r->Um r->GRun k b (G7 r) g->GRun (k+1) a b g
theorem GRun.inv {k:Nat} {a b g:List Int} (h:GRun k a b g):(k=0/\b.length=0/\a=g)\/∃ j m r,k=j+1/\0<b.length/\b.length<=1000/\Bd 9000000 b/\RRun b m a r/\r.length<=1000/\Bd 9000000 r/\Um r/\GRun j b (G7 r) g:=by
 cases h with
 | stop=>exact .inl ⟨rfl,rfl,rfl⟩
 | step h1 h2 h3 h4 h5 h6 h7 h8=>exact .inr ⟨_,_,_,rfl,h1,h2,h3,h4,h5,h6,h7,h8⟩
def D9 (k:Nat) (p:List Int):List Int:=List.replicate k 0++p
theorem Qxr (k:Nat) (p:List Int):(D9 k p).length=k+p.length:=by simp [D9]
theorem Q1w {s k:Nat} {p:List Int} (h:Bd s p):Bd s (D9 k p):=λz hz=>by
 rcases Qw.1 hz with h1 | h1
 ·rw [Zs h1,Pu]; exact Qg _
 ·exact h z h1
inductive DRun (b:List Int):Nat->List Int->List Int->List Int->List Int->Prop
 | stop {a q:List Int}:a.length<b.length->DRun b 0 a q q a
 | step {k:Nat} {a q qf r:List Int}:b.length<=a.length->a.length<=1000->Bd 9000000 a->Fh b≠0->Fh b∣Fh a->a.length-b.length<q.length ->
  DRun b k (Sx a (D9 (a.length-b.length) (Uz b (Fh a / Fh b)))) (q.set (a.length-b.length) (Fh a / Fh b)) qf r->DRun b (k+1) a q qf r
theorem DRun.inv {b a q qf r:List Int} {k:Nat} (h:DRun b k a q qf r):(k=0/\q=qf/\a=r/\a.length<b.length)\/∃ j,k=j+1/\b.length<=a.length/\a.length<=1000/\Bd 9000000 a/\Fh b≠0/\Fh b∣Fh a/\a.length-b.length<q.length /\
 DRun b j (Sx a (D9 (a.length-b.length) (Uz b (Fh a / Fh b)))) (q.set (a.length-b.length) (Fh a / Fh b)) qf r:=by
 cases h with
 | stop h=>exact .inl ⟨rfl,rfl,rfl,h⟩
 | step h1 h2 h3 h4 h5 h6 h7=>exact .inr ⟨_,rfl,h1,h2,h3,h4,h5,h6,h7⟩
def Pj (l:List (List Int)):List Int:=l.getD (l.length-1) []
inductive LRun:Nat->List (List Int)->List (List Int)->Prop
 | stop {l:List (List Int)}:(Pj l).length<=1->LRun 0 l l
 | step {k m:Nat} {l f:List (List Int)} {g:List Int}:1<(Pj l).length->(Pj l).length<=1000->Um (Pj l)->Bd 9000000 (Pj l)->Bd 9000000 (Fg (Pj l))->GRun m (G7 (Pj l)) (G7 (Fg (Pj l))) g->l.length<=1000->LRun k (l++[g]) f->LRun (k+1) l f
theorem LRun.inv {k:Nat} {l f:List (List Int)} (h:LRun k l f):(k=0/\l=f/\(Pj l).length<=1)\/∃ j m g,k=j+1/\1<(Pj l).length/\(Pj l).length<=1000/\Um (Pj l)/\Bd 9000000 (Pj l)/\Bd 9000000 (Fg (Pj l))/\GRun m (G7 (Pj l)) (G7 (Fg (Pj l))) g/\l.length<=1000/\LRun j (l++[g]) f:=by
 cases h with
 | stop h=>exact .inl ⟨rfl,rfl,h⟩
 | step h1 h2 h3 h4 h5 h6 h7 h8=>exact .inr ⟨_,_,_,rfl,h1,h2,h3,h4,h5,h6,h7,h8⟩
def DOk (a b q:List Int):Prop:=0<b.length/\b.length<=1000/\a.length<=1000/\Bd 9000000 b/\∃ qf r n,Bd 9000000 qf/\qf.length<=1000/\DRun b n a (List.replicate (a.length+1-b.length) 0) qf r/\q=trim qf
theorem DOk.bd {a b q:List Int} (h:DOk a b q):Bd 9000000 q:=by
 obtain ⟨_,_,_,_,qf,r,n,h1,_,_,rfl⟩:=h;exact Rf h1
theorem DOk.len {a b q:List Int} (h:DOk a b q):q.length<=1000:=by
 obtain ⟨_,_,_,_,qf,r,n,_,h1,_,rfl⟩:=h;exact Qd (G0 _) h1
theorem DOk.trim {a b q:List Int} (h:DOk a b q):Um q:=by
 obtain ⟨_,_,_,_,qf,r,n,_,_,_,rfl⟩:=h;exact He _
def Zko (a b c f:List Int):Prop:=∃ x y z,DOk a b x/\DOk b c y/\DOk (G7 x) (G7 y) z/\f=G7 z
structure FRun (a:List Int) (m:Nat) (f:Nat->List Int):Prop where
 run:∃ n l,LRun n [G7 a] l/\l.length=m+1/\∀ k,k<m->Zko ((l++[[1]]).getD k []) ((l++[[1]]).getD (k+1) []) ((l++[[1]]).getD (k+2) []) (f k)
 small:m<=1000
def Qkv (f:Nat->List Int) (n:Nat):List (List Int):=(List.range n).map f
theorem Qt8 (f:Nat->List Int) (n:Nat):(Qkv f n).length=n:=by simp [Qkv]
theorem Q3z (f:Nat->List Int) (n:Nat):Qkv f (n+1)=Qkv f n++[f n]:=by simp [Qkv,K5]
theorem Zar {f:Nat->List Int} {n i:Nat} (h:i<n):(Qkv f n)[i]? = some (f i):=by simp [Qkv,Xz h]
theorem Qwh {l:List (List Int)} {i:Nat} (h:i<l.length):l[i]? = some (l.getD i []):=by
 rw [Qe,Qf h]; rfl
def Aa (f:Nat->List Int):Nat->List Int
 | 0=>[1]
 | i+1=>Uq (Aa f i) (f i)
def Zkn (m:Nat) (f:Nat->List Int):Prop:=∀ i,i<m->Bd 9000000 (Aa f i)/\(Aa f i).length<=1000/\Bd 9000000 (f i)/\(f i).length<=1000
inductive CRun:Nat->List (List Int)->List Int->List (List Int)->Prop
 | stop {l:List (List Int)} {g:List Int}:g.length=0->CRun 0 l g l
 | step {k m:Nat} {l f:List (List Int)} {g r:List Int}:0<g.length->g.length<=1000->Bd 9000000 g->RRun g m (Pj l) r->Um r->Bd 9000000 r->r.length<=1000->0<l.length->l.length<=1000->CRun k (l++[g]) (H5 (Po r)) f->CRun (k+1) l g f
theorem CRun.inv {k:Nat} {l f:List (List Int)} {g:List Int} (h:CRun k l g f):(k=0/\l=f/\g.length=0)\/∃ j m r,k=j+1/\0<g.length/\g.length<=1000/\Bd 9000000 g/\RRun g m (Pj l) r/\Um r/\Bd 9000000 r/\r.length<=1000/\0<l.length/\l.length<=1000/\CRun j (l++[g]) (H5 (Po r)) f:=by
 cases h with
 | stop h=>exact .inl ⟨rfl,rfl,h⟩
 | step h1 h2 h3 h4 h5 h6 h7 h8 h9 h10=>exact .inr ⟨_,_,_,rfl,h1,h2,h3,h4,h5,h6,h7,h8,h9,h10⟩
structure ChRun (a:List Int) (sq:List Int) (c:List (List Int)):Prop where
 fac:∃ m f,FRun a m f/\Zkn m f/\sq=Aa f m
 Lj:∃ n,CRun n [sq] (Po (Fg sq)) c
 bd:Bd 8000000 sq
 len:sq.length<=1000
 small:c.length<=1000
def Qyb (q:Rat) (c:List (List Int)):Prop:=∃ sq,ChRun [-q.num,(q.den:Int)] sq c
end Orr
