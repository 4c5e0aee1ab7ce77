/- T19 T20 T21 T22 T23 T24 T25 G1 G2 SortL KinL K1 K2 F6 F7 F8 F9 G3 G4 K3 -/
import Derived.Test.YtpnhifedfcgjbaaGreatPart06
import Derived.Test.YtpnhifedfcgjbaaGreatPart00
import Derived.Test.YtpnhifedfcgjbaaGreatPart05
set_option linter.all false
namespace Orq
open Orr Go
structure Pr1 (p:List Int):Prop where
 t:Ud p
 m:Prm p
 l:0<Um p
theorem Pr1.n {p:List Int} (h:Pr1 p):p.length≠0:=λe=>by
 have:=h.l;rw [Qk e] at this;exact absurd this (by decide)
theorem Pr1.one {p:List Int} (h:Pr1 p) (hl:p.length<2):p=[1]:=by
 have hn:=h.n;obtain ⟨c,rfl⟩:∃ c,p=[c]:=Kb.1 (by omega);have h1:=h.m c λk=>by cases k <;> simp
 have h2:0<c:=h.l;have:=Int.le_of_dvd (by decide) h1;rw [show c=1 by omega]
theorem Zfg {p g h:List Int} (hp:Prm p) (e:∀ t,Uf p t=Uf g t*Uf h t):Prm h:=λd hd=>by
 refine hp d λk=>?_
 have:=Bn (p:=p) (q:=Uo g h) (λt=>by rw [e,Uy]) k;rw [this];have e2:∀ t,Uf (Uo g h) t=(d:Rat)*Uf (Uo g (h.map (· / d))) t:=λt=>by
  have h1:Uf h t=(d:Rat)*Uf (h.map (· / d)) t:=by
   have:=Mm d 0 t (max h.length (h.map (· / d)).length) (h.map (· / d)) [] h (by omega) (by simp) (by omega) λk=>by
    rw [Qdg,Ks (hd k)]; simp
   rw [this]; simp only [Uf]; push_cast; grind
  rw [Uy,Uy,h1]; grind
 have:=Bn (p:=Uo g h) (q:=U3 (Uo g (h.map (· / d))) d) (λt=>by rw [e2,Tw]; grind) k;rw [this,Tx]; exact Ke _ _
theorem Zff {p g h:List Int} (hp:Pr1 p) (hg:0<Um g) (tg:Ud g) (th:Ud h) (e:∀ t,Uf p t=Uf g t*Uf h t):Pr1 h:=by
 obtain ⟨p1,p2⟩:=Hi hp.t hp.n e;have:=Qs3 tg th hp.t e p1 p2;refine ⟨th,Zfg hp.m e,?_⟩;have hl:=hp.l;rw [this] at hl;rcases Jt (Um h) 0 with h1 | h1 | h1
 ·have:=Yx hg h1; omega
 ·rw [h1] at hl; omega
 ·exact h1
structure Sqp (p g q:List Int):Prop where
 pp:Pr1 p
 pg:Pr1 g
 pq:Pr1 q
 e:∀ t,Uf p t=Uf g t*Uf q t
 c:∃ U V,∀ t,Uf g t=ev U t*Uf p t+ev V t*dv (cz p) t
 d:∃ z,∀ t,dv (cz p) t=Uf g t*ev z t
theorem Sqp.num {p g q:List Int} (h:Sqp p g q) {d:List Rat} (h1:Is d (cz q)) (h2:Is d (Pp (cz q))):∃ c:Rat,c≠0/\∀ t,ev d t=c:=by
 obtain ⟨U,V,hc⟩:=h.c;have hpow:=sqf (k:=1) (a:=cz p) (g:=cz g) (q:=cz q) (d:=d) (U:=U) (V:=V) (by decide) (λt=>by rw [Uc,Uc,Uc,h.e]) (λt=>by rw [Uc,Uc,hc]; grind) h1 h2;rcases Qj5 d with h3 | ⟨m,_,h3⟩
 ·obtain ⟨u,hu⟩:=h1;exact absurd (λt=>by rw [<-Uc,hu,h3]; grind) (Qgm h.pq.t (by have:=h.pq.n; omega))
 ·obtain rfl:=Qns h3 (Qgt h.pg.t (by have:=h.pg.n; omega)) hpow;refine ⟨d.getD 0 0,h3.1,λt=>?_⟩;cases d with
  | nil=>exact absurd (by simp) h3.1
  |
   cons c l =>
   have:=Bh (p:=l) λk=>by have:=h3.2 (k+1) (by omega); rwa [Q3] at this
   simp only [ev,this,Zo]; grind
theorem Sqp.bez {p g q:List Int} (h:Sqp p g q):∃ X Y,∀ t,ev X t*ev (cz q) t+ev Y t*dv (cz q) t=1:=by
 obtain ⟨d,U,V,h1,h2,h3⟩:=Q8g (cz q) (Pp (cz q));obtain ⟨c,hc,hd⟩:=h.num h1 h2;refine ⟨Nz (1 / c) U,Nz (1 / c) V,λt=>?_⟩;have h5:=h3 t;rw [hd,Hp] at h5;have h4:1 / c*c=1:=Zm hc;rw [U0,U0];have:1 / c*ev U t*ev (cz q) t+1 / c*ev V t*dv (cz q) t=1 / c*(ev U t*ev (cz q) t+ev V t*dv (cz q) t):=by grind
 rw [this,<-h5,h4]
theorem Zbn {n s:Nat} (h:Szz n s):s<=8388600:=by
 have:2*(s+8)*1<=2*(s+8)*3^(n-1):=Zp _ (Zz (by decide));have:=h.2; omega
theorem Qva {s:Nat} {p:List Int} (h:Bd s p) (hl:p.length<=10):Bd (s+4) (U8 p):=Qhm h (t:=4) (by omega)
theorem Q1x {n s:Nat} (hz:Szz n (s+73)) {p:List Int} (pp:Pr1 p) (l2:2<=p.length) (lp:p.length<=n) (bp:Bd (s+69) p) {p0 h0:List Int} (b0:Bd s p0) (l0:p0.length<=10) (t0:Ud p0) (th0:Ud h0) (z0:p0.length≠0) (e0:∀ t,Uf p0 t=Uf h0 t*Uf p t) :
 ∃ g q,chk (U8 p)=some (U8 p)/\O4 p (U8 p)=some g/\O2 p g=some q/\Sqp p g q/\g.length<p.length:=by
 have hn:=hz.1;have hs:=Zbn hz;have bd:=Qva bp (by omega);have ld:=Tt p;have td:Ud (U8 p):=Uw _ _;obtain ⟨g,e1,hg,m,l⟩:=Qct hz pp.t td lp (by omega) (W7 bp (by omega)) bd (.inl pp.n);obtain ⟨q,tq,eq⟩:=Q8a m hg.da;have hdnz:(U8 p).length≠0:=λh=>by
  have h1:=P7 p (p.length-2);rw [Qk h,show p.length-2+1=p.length-1 by omega] at h1;have h2:p.getD (p.length-1) 0≠0:=Gp pp.t (by omega);rcases J8.1 (h1.symm.trans (by simp)) with h3 | h3
  ·exact h2 h3
  ·omega
 have pg:Pr1 g:=⟨hg.t,m,l⟩;have hql:=Zaf (s:=s+69) pp.t hg.t tq pp.n (by omega) bp (by omega) eq;refine ⟨g,q,C9 (by omega) (W7 bd (by omega)),e1,hql,⟨pp,pg,Zff pp l hg.t tq eq,eq,?_,?_⟩,?_⟩
 ·obtain ⟨U,V,hc⟩:=hg.c;exact ⟨U,V,λt=>by rw [hc,E6]⟩
 ·obtain ⟨z,hz⟩:=hg.db;exact ⟨z,λt=>by rw [<-E6,<-Uc,hz,Uc]⟩
 ·obtain ⟨z,tz,ez⟩:=Q8a m hg.db;obtain ⟨q1,q2⟩:=Hi td hdnz ez;have:=Sl hg.t tz td ez q1 q2;omega
theorem Zfa:Sqp [1] [1] [1]:=by
 have p1:Pr1 [1]:=⟨rfl,λd hd=>by have:=hd 0; rwa [Zo] at this,by decide⟩;have e1:∀ t,Uf [1] t=1:=λt=>by simp only [Uf]; push_cast; grind
 exact ⟨p1,p1,p1,λt=>by rw [e1]; grind,⟨[1],[],λt=>by rw [e1,Hg]; simp only [ev]; grind⟩,⟨[],λt=>by simp only [cz,Zv,X2,dv,ev]; grind⟩⟩
structure Okp (n s:Nat) (p:List Int):Prop where
 z:Szz n (s+73)
 t:Ud p
 nz:p.length≠0
 l:p.length<=n
 b:Bd s p
theorem Okp.pr {n s:Nat} {p:List Int} (h:Okp n s p):Pr1 (Ui p)/\(Ui p).length=p.length/\Bd s (Ui p):=by
 obtain ⟨h1,h2,h3,h4,h5,_⟩:=Mp h.t h.nz;exact ⟨⟨h1,h3,h4⟩,h2,h5 s h.b⟩
theorem Qa5 {n s:Nat} {p:List Int} (h:Okp n s p):∃ g q,Tl p=some q/\Sqp (Ui p) g q:=by
 obtain ⟨pp,hl,hb⟩:=h.pr;have hn:=h.z.1;have:=h.l;unfold Tl;by_cases h2:(Ui p).length<2
 ·rw [if_pos h2,pp.one h2]; exact ⟨[1],[1],rfl,Zfa⟩
 ·rw [if_neg h2];obtain ⟨g,q,h3,h4,h5,h6,_⟩:=Q1x h.z pp (by omega) (by omega) (W7 hb (by omega)) (p0:=Ui p) (h0:=[1]) hb (by omega) pp.t rfl pp.n λt=>by simp only [Uf]; push_cast; grind
  exact ⟨g,q,by rw [h3]; show (O4 (Ui p) (U8 (Ui p))).bind _=_; rw [h4]; exact h5,h6⟩
inductive LW:List Int->List (List Int)->Prop
 | nil:LW [1] []
 | cons {g h w:List Int} {ws:List (List Int)} (hs:Sqp g h w) (hl:LW h ws):LW g (w::ws)
theorem Zjt {g:List Int} {ws:List (List Int)} (h:LW g ws):∀ t,Uf g t=ev (E5 (ws.map cz)) t:=by
 induction h with
 | nil=>intro t; simp only [X2,E5,Uf]; rw [Hg]; push_cast; grind
 | cons hs hl ih=>intro t; simp only [Zv,E5]; rw [Ug,Uc,hs.e,ih]; grind
theorem Q0q {g:List Int} {w v:List Int} {ws:List (List Int)} (h:LW g (w::v::ws)):∃ f,Ud f/\∀ t,Uf w t=Uf f t*Uf v t:=by
 cases h with
 |
  @cons _ h _ _ hs hl =>
  cases hl with
  |
   @cons _ h2 _ _ hs2 hl2 =>
   obtain ⟨X,Y,hb⟩:=hs2.bez;obtain ⟨z,hz⟩:=hs.d;have hd:=Zgb (a:=cz g) (g:=cz h) (q:=cz w) (z:=z) (r:=cz v) (X:=X) (Y:=Y) (n:=h.length-1) (λt=>by rw [Uc,Uc,Uc,hs.e]) (λt=>by rw [hz,Uc]) (Qgt hs.pg.t (by have:=hs.pg.n; omega)) hb
    ⟨Fh (cz h2) (cz w),λt=>by rw [Ug,Uc,Uc,Uc,Uc,hs.e,hs2.e]; grind⟩
   obtain ⟨f,tf,ef⟩:=Q8a hs2.pq.m hd;exact ⟨f,tf,λt=>by rw [ef]; grind⟩
theorem Qs5 {g w:List Int} {ws:List (List Int)} (h:LW g (w::ws)):∀ v∈w::ws,Pr1 v/\Is (cz v) (cz w):=by
 have key:∀ (ws:List (List Int)) (g w:List Int),LW g (w::ws)->∀ v∈w::ws,Pr1 v/\Is (cz v) (cz w):=by
  intro ws
  induction ws with
  |
   nil =>
   intro g w h v hv;rw [Qm.1 hv];cases h with
   | cons hs hl=>exact ⟨hs.pq,dvd_refl _⟩
  |
   cons u ws ih =>
   intro g w h v hv;have hn:=Q0q h;cases h with
   |
    @cons _ h _ _ hs hl =>
    rcases Qo.1 hv with rfl | hv
    ·exact ⟨hs.pq,dvd_refl _⟩
    ·obtain ⟨i1,i2⟩:=ih h u hl v hv;obtain ⟨f,_,hf⟩:=hn;exact ⟨i1,dvd_trans i2 ⟨cz f,λt=>by rw [Uc,Uc,Uc,hf]; grind⟩⟩
 exact key ws g w h
theorem lay_ok {n s:Nat} (hz:Szz n (s+73)) {p0:List Int} (b0:Bd s p0) (l0:p0.length<=10) (t0:Ud p0) (z0:p0.length≠0):∀ (k:Nat) (g h0:List Int),Pr1 g->g.length<=k->g.length<=n->Ud h0->(∀ t,Uf p0 t=Uf h0 t*Uf g t)->∃ ws,Qfq k g=some ws/\LW g ws
 | 0,g,_,pg,hk,_,_,_=>absurd pg.n (by omega)
 |
  k+1,g,h0,pg,hk,hn,th0,e0=>by
  simp only [Qfq];by_cases h2:g.length<2
  ·rw [if_pos h2,pg.one h2]; exact ⟨[],rfl,.nil⟩
  ·rw [if_neg h2];have bg:Bd (s+69) g:=I7 b0 l0 t0 pg.t th0 z0 λt=>by rw [e0]; grind
   obtain ⟨h,w,h3,h4,h5,h6,h7⟩:=Q1x hz pg (by omega) hn bg b0 l0 t0 th0 z0 e0;obtain ⟨ws,i1,i2⟩:=lay_ok hz b0 l0 t0 z0 k h (Uo h0 w) h6.pg (by omega) (by omega) (Gg _ _) λt=>by rw [e0,Uy,h6.e]; grind
   refine ⟨w::ws,?_,.cons h6 i2⟩;rw [h3];show (O4 g (U8 g)).bind _=_;rw [h4];show (O2 g h).bind _=_;rw [h5];show (Qfq k h).bind _=_;rw [i1]; rfl
theorem Q72 {s:Nat} {p0:List Int} (b0:Bd s p0) (l0:p0.length≤10) (t0:Ud p0) (z0:p0.length≠0) (hs:s+69+69≤16777216):∀ (ws:List (List Int)) (g h0:List Int),LW g ws->Ud h0->(∀ t,Uf p0 t=Uf h0 t*Uf g t)->∃ fs,Qlw ws=some fs/\Lay (ws.map cz) (fs.map cz)/\∀ f∈fs,Ud f
 | [],g,_,_,_,_=>⟨[],rfl,trivial,λf hf=>by cases hf⟩
 |
  [w],g,_,hl,_,_=>by
  cases hl with
  | cons hs hl=>exact ⟨[w],rfl,λt=>rfl,λf hf=>by rw [Qm.1 hf]; exact hs.pq.t⟩
 |
  w::v::ws,g,h0,hl,th0,e0=>by
  obtain ⟨f,tf,ef⟩:=Q0q hl;cases hl with
  |
   @cons _ h _ _ hs1 hl =>
   have hpv:=(Qs5 hl v (Qt ..)).1;obtain ⟨fs,i1,i2,i3⟩:=Q72 b0 l0 t0 z0 hs (v::ws) h (Uo h0 w) hl (Gg _ _) λt=>by rw [e0,Uy,hs1.e]; grind
   have ew:∀ t,Uf p0 t=Uf w t*Uf (Uo h0 h) t:=λt=>by rw [e0,Uy,hs1.e]; grind
   have bw:Bd (s+69) w:=I7 b0 l0 t0 hs1.pq.t (Gg _ _) z0 ew;obtain ⟨p1,p2⟩:=Hi t0 z0 ew;have lw:=Sl hs1.pq.t (Gg _ _) t0 ew p1 p2;have hq:=Zaf (s:=s+69) hs1.pq.t hpv.t tf hs1.pq.n (by omega) bw hs λt=>by rw [ef]; grind
   refine ⟨f::fs,?_,⟨λt=>by rw [Uc,Uc,Uc,ef],i2⟩,λx hx=>?_⟩
   ·show (O2 w v).bind _=_;rw [hq];show (Qlw (v::ws)).bind _=_;rw [i1]; rfl
   ·rcases Qo.1 hx with rfl | hx
    ·exact tf
    ·exact i3 x hx
def S7:List (List Int)->List Int
 | []=>[1]
 | [f]=>f
 | f::_::l=>Uo f (S7 l)
theorem Qtj:∀ (fs:List (List Int)) (t:Rat),ev (Qhf (fs.map cz)) t=Uf (S7 fs) t
 | [],t=>by simp only [X2,Qhf,S7,Uf]; rw [Hg]; push_cast; grind
 | [f],t=>by simp only [Zv,X2,Qhf,S7]; rw [Uc]
 | f::g::l,t=>by simp only [Zv,Qhf,S7]; rw [Ug,Uc,Uy,Qtj l]
theorem Ph (t:Rat):Uf [1] t=1:=by simp only [Uf]; push_cast; grind
theorem Qmw:∀ {w:List Int} {ws fs:List (List Int)},Lay ((w::ws).map cz) (fs.map cz)->(∀ f∈fs,Ud f)->(∀ v∈w::ws,Ud v)->∃ E,Ud E/\∀ t,Uf w t=Uf (S7 fs) t*Uf E t
 |
  w,[],[f],h,_,_=>⟨[1],rfl,λt=>by
  have:=h t;rw [Uc,Uc] at this;rw [this,Ph]; simp only [S7]; grind⟩
 |
  w,[v],[f,f2],h,_,hw=>⟨v,hw v (by simp),λt=>by
  have:=h.1 t;rw [Uc,Uc,Uc] at this;rw [this]; simp only [S7]; rw [Uy,Ph]; grind⟩
 |
  w,v::x::l,f::f2::fs,h,hf,hw=>by
  obtain ⟨E,hE,e⟩:=Qmw (w:=x) (ws:=l) (fs:=fs) h.2.2 (λg hg=>hf g (by simp [hg])) (λg hg=>hw g (by simp at hg ⊢; exact .inr (.inr hg)));refine ⟨Uo f2 E,Gg _ _,λt=>?_⟩;have a1:=h.1 t;have a2:=h.2.1 t;rw [Uc,Uc,Uc] at a1 a2;have e2:Uf (S7 (f::f2::fs)) t=Uf f t*Uf (S7 fs) t:=by simp only [S7]; rw [Uy]
  rw [a1,a2,e,e2,Uy]; grind
 | w,[],[],h,_,_=>h.elim
 | w,[],_::_::_,h,_,_=>h.elim
 | w,[v],[],h,_,_=>h.elim
 | w,[v],[f],h,_,_=>h.2.elim
 | w,[v],_::_::_::_,h,_,_=>h.2.elim
 | w,v::x::l,[f],h,_,_=>h.2.elim
 | w,v::x::l,[],h,_,_=>h.elim
theorem Qay {s:Nat} {p0:List Int} (b0:Bd s p0) (l0:p0.length≤10) (t0:Ud p0) (z0:p0.length≠0) (hs:s+69≤16777216):∀ (fs:List (List Int)) (i:Nat) (a E:List Int),i % 2=0->Ud a->Ud E->(∀ f∈fs,Ud f)->(∀ t,Uf p0 t=Uf a t*Uf (S7 fs) t*Uf E t)->∃ o,Qds i a fs=some o/\Ud o/\∀ t,Uf o t=Uf a t*Uf (S7 fs) t
 | [],i,a,E,hi,ta,_,_,_=>⟨a,rfl,ta,λt=>by simp only [S7]; rw [Ph]; grind⟩
 |
  [f],i,a,E,hi,ta,tE,tf,hE=>by
  have e1:∀ t,Uf p0 t=Uf (Uo a f) t*Uf E t:=λt=>by rw [hE,Uy]; rfl
  have b1:=I7 b0 l0 t0 (Gg a f) tE z0 e1;obtain ⟨p1,p2⟩:=Hi t0 z0 e1;have hl:=Sl (Gg a f) tE t0 e1 p1 p2;refine ⟨Uo a f,?_,Gg _ _,λt=>by rw [Uy]; rfl⟩;simp only [Qds];rw [if_pos hi,C9 (by omega) (W7 b1 (by omega))]; rfl
 |
  f::g::fs,i,a,E,hi,ta,tE,tf,hE=>by
  have e0:∀ t,Uf (S7 (f::g::fs)) t=Uf f t*Uf (S7 fs) t:=λt=>by simp only [S7]; rw [Uy]
  have e1:∀ t,Uf p0 t=Uf (Uo a f) t*Uf (Uo (S7 fs) E) t:=λt=>by rw [hE,e0,Uy,Uy]; grind
  have b1:=I7 b0 l0 t0 (Gg a f) (Gg _ _) z0 e1;obtain ⟨p1,p2⟩:=Hi t0 z0 e1;have hl:=Sl (Gg a f) (Gg _ _) t0 e1 p1 p2;obtain ⟨o,o1,o2,o3⟩:=Qay b0 l0 t0 z0 hs fs (i+2) (Uo a f) E (by omega) (Gg _ _) tE (λx hx=>tf x (by simp [hx])) λt=>by rw [hE,e0,Uy]; grind
  refine ⟨o,?_,o2,λt=>by rw [o3,e0,Uy]; grind⟩;have h1:Qds (i+1) (Uo a f) (g::fs)=Qds (i+2) (Uo a f) fs:=by
   show (if (i+1) % 2=0 then _ else _)=_;rw [if_neg (by omega)]
  show (if i % 2=0 then (chk (Uo a f)).bind λq=>Qds (i+1) q (g::fs) else _)=_;rw [if_pos hi,C9 (by omega) (W7 b1 (by omega))];exact h1.trans o1
structure Parts (p q o:List Int):Prop where
 sq:∃ g,Sqp (Ui p) g q
 ws:∃ ws:List (List Int),(∀ w∈ws,Pr1 w/\Is (cz w) (cz q))/\∀ t,Uf (Ui p) t=ev (E5 (ws.map cz)) t
 oq:Is (cz o) (cz q)
 ot:Ud o
 oh:∃ h,Ud h/\∀ t,Uf (Ui p) t=Uf o t*Uf h t
 os:∃ S,∀ t,Uf (Ui p) t=Uf o t*(ev S t*ev S t)
theorem Q9k {n s:Nat} {p:List Int} (h:Okp n s p):∃ q o,Tl p=some q/\Qxc p=some o/\Parts p q o:=by
 obtain ⟨pp,hl,hb⟩:=h.pr;have hn:=h.z.1;have hpl:=h.l;have hs:=Zbn h.z;obtain ⟨g,q,hq,sq⟩:=Qa5 h;obtain ⟨ws,w1,w2⟩:=lay_ok h.z hb (by omega) pp.t pp.n 66 (Ui p) [1] pp (by omega) (by omega) rfl λt=>by rw [Ph]; grind
 obtain ⟨fs,f1,f2,f3⟩:=Q72 hb (by omega) pp.t pp.n (by omega) ws (Ui p) [1] w2 rfl λt=>by rw [Ph]; grind
 have hw:=Zjt w2;have hfirst:(∀ w∈ws,Pr1 w/\Is (cz w) (cz q))/\∃ E,Ud E/\∀ t,Uf q t=Uf (S7 fs) t*Uf E t:=by
  cases ws with
  |
   nil =>
   have e:fs=[]:=by
    cases fs with
    | nil=>rfl
    | cons f l=>exact f2.elim
   subst e;exact ⟨(λw hw=>by cases hw),q,sq.pq.t,λt=>by simp only [S7]; rw [Ph]; grind⟩
  |
   cons w ws =>
   have hwq:w=q:=by
    have w3:(if (Ui p).length<2 then some [] else (chk (U8 (Ui p))).bind λd=>(O4 (Ui p) d).bind λh=>(O2 (Ui p) h).bind λw=>(Qfq 65 h).bind λl=>some (w::l))=some (w::ws):=w1;have hlen:¬(Ui p).length<2:=λh2=>by
     rw [if_pos h2] at w3;injection w3 with w3;cases w3
    rw [if_neg hlen] at w3;unfold Tl at hq;rw [if_neg hlen] at hq;obtain ⟨d,d1,w3⟩:=Qf.1 w3;obtain ⟨h,d2,w3⟩:=Qf.1 w3;obtain ⟨w',d3,w3⟩:=Qf.1 w3;obtain ⟨l,d4,w3⟩:=Qf.1 w3;rw [d1] at hq;have hq:(O4 (Ui p) d).bind (λg=>O2 (Ui p) g)=some q:=hq;rw [d2] at hq;have hq:O2 (Ui p) h=some q:=hq;rw [d3] at hq;injection hq with hq;injection w3 with w3;injection w3 with w3 _;rw [<-w3,hq]
   subst hwq;have hall:=Qs5 w2;exact ⟨hall,Qmw f2 f3 λv hv=>(hall v hv).1.t⟩
 obtain ⟨ha,E,tE,hE⟩:=hfirst;obtain ⟨o,o1,o2,o3⟩:=Qay hb (by omega) pp.t pp.n (by omega) fs 0 [1] (Uo E g) rfl rfl (Gg _ _) f3 λt=>by rw [Ph,Uy,sq.e,hE]; grind
 have o3:∀ t,Uf o t=Uf (S7 fs) t:=λt=>by rw [o3,Ph]; grind
 refine ⟨q,o,hq,?_,⟨g,sq⟩,⟨ws,ha,hw⟩,⟨cz E,λt=>by rw [Uc,Uc,Uc,hE,o3]⟩,o2,⟨Uo E g,Gg _ _,λt=>by rw [sq.e,hE,o3,Uy]; grind⟩,?_⟩
 ·unfold Qxc;rw [if_neg pp.n,w1];show (Qlw ws).bind _=_;rw [f1]; exact o1
 ·obtain ⟨S,hS⟩:=Q0i f2;exact ⟨S,λt=>by rw [hw,hS,Qtj,o3]⟩
theorem Qzj {s:Nat}:∀ (k:Nat) (a b:List Int),Ud a->Ud b->b.length≠0->b.length<k->b.length<a.length->a.length<=60->Bd s a->Bd s b->(s+8)*3^(a.length-1)<=16777216->(∀ d,Is d (cz a)->Is d (cz b)->∃ c:Rat,c≠0/\∀ t,ev d t=c)->∃ l,chF k a b=some (b::l)/\SCl (cz a) (cz b) (l.map cz)
 | 0,_,_,_,_,_,h,_,_,_,_,_,_=>by omega
 |
  k+1,a,b,ta,tb,hb,hk,hab,hl,ba,bb,hs,hd=>by
  obtain ⟨h1,h2,h3,u,v,up,vp,X,hX⟩:=Qic ta tb hb hl;have h3:=h3 s ba bb;obtain ⟨m,hm⟩:=nmE (a.length-b.length);have e1:a.length+1-b.length=m+1:=by omega
  rw [e1] at h3;have e2:s+(m+1)*(s+8)+8=(m+2)*(s+8):=by
   rw [show m+2=(m+1)+1 by omega,Z6 (m+1)]; omega
  have e3:(m+2)*(s+8)*3^(b.length-1)<=(s+8)*3^(a.length-1):=by
   rw [show a.length-1=m+(b.length-1) by omega,Xa,<-Xh,Zi (s+8)];exact Q0 _ (Q0 _ (Zj4 m (by omega)))
  have e4:s+(m+1)*(s+8)<=16777216:=by
   have:(m+2)*(s+8)<=(m+2)*(s+8)*3^(b.length-1):=Js _ (Zz (by decide));omega
  simp only [chF];rw [if_neg hb,C9 (by omega) (W7 h3 e4)];show ∃ l,((chF k b (Tg (He a b))).bind λl=>some (b::l))=some (b::l)/\_;have lneg:(Tg (He a b)).length<=(He a b).length:=Dm _;by_cases hr:(He a b).length=0
  ·have e:Tg (He a b)=[]:=Qk (by omega);rw [e];refine ⟨[],?_,?_⟩
   ·obtain ⟨j,rfl⟩:∃ j,k=j+1:=⟨k-1,by omega⟩;rfl
   ·obtain ⟨c,hc,hcc⟩:=hd (cz b) ⟨Nz (1 / u) X,λt=>by
     have:=hX t;rw [Nw hr] at this;have hu:1 / u*u=1:=Fq up;rw [Uc,Uc,U0];have:Uf a t=1 / u*(u*Uf a t):=by grind
     rw [this,hX,Nw hr]; grind⟩ (dvd_refl _)
    exact .base hc hcc
  ·have tn:Ud (Tg (He a b)):=Uw _ _;have hn0:(Tg (He a b)).length≠0:=λh0=>by
    have:=Ib (c:=-1) h1 tn (by decide) λt=>by rw [Qdy]; grind
    omega
   obtain ⟨l,i1,i2⟩:=Qzj (s:=s+(m+1)*(s+8)) k b (Tg (He a b)) tb tn hn0 (by omega) (by omega) (by omega) (W7 bb (by omega)) (Qal h3) (by rw [e2]; omega) λd d1 d2=>by
    refine hd d ?_ d1;obtain ⟨y,hy⟩:=d1;obtain ⟨z,hz⟩:=d2;have hu:1 / u*u=1:=Fq up;refine ⟨Nz (1 / u) (Rf (Fh X y) (Nz (-v) z)),λt=>?_⟩;have a1:=hX t; have a2:=hy t; have a3:=hz t;rw [Uc] at a2 a3;rw [Qdy] at a3;rw [Uc,U0,Fc,Ug,U0];have:Uf a t=1 / u*(u*Uf a t):=by grind
    rw [this,a1,a2,show Uf (He a b) t=-(ev d t*ev z t) by grind]; grind
   refine ⟨Tg (He a b)::l,by rw [i1]; rfl,?_⟩;rw [Zv];exact .step (q:=X) up vp (λt=>by rw [Uc,Uc,Uc,hX,Qdy]; clear i2 i1 hd h3 hs; grind) i2
theorem Qcs (x:Rat):∀ (l:List (List Int)) (n:Nat) (s:Int),(l.foldl (Rz λp=>Ft p x) (n,s)).1=n+tc x s (l.map cz)
 | [],n,s=>rfl
 |
  p::l,n,s=>by
  simp only [Z3,Zv,tc,Rz];rw [S8,Uc]
  split
  ·exact Qcs x l n s
  ·rw [Qcs x l]
   split <;> omega
theorem Ih (l:List (List Int)) (x:Rat):Mx l x=vv (l.map cz) x:=by
 have:=Qcs x l 0 0;unfold Mx Mw vv;rw [this]; omega
theorem Q7c {n s:Nat} (hz:Szz n (s+73)) {P g q:List Int} (sq:Sqp P g q) (lq:q.length<=n) (bq:Bd (s+69) q):∃ d,chk (U8 q)=some d/\∃ l,chF 66 q (Ui d)=some l/\Stm (cz q) ((q::l).map cz)/\(q.length<2->l=[]):=by
 have hn:=hz.1;have hs:=Zbn hz;have bd:=Qva bq (by omega);have ld:=Tt q;refine ⟨U8 q,C9 (by omega) (W7 bd (by omega)),?_⟩;have hq0:=sq.pq.n;by_cases h2:q.length<2
 ·have e:Ui (U8 q)=[]:=by rw [Qk (l:=U8 q) (by omega)]; rfl
  rw [e];refine ⟨[],rfl,.inl ⟨1,by decide,λt=>?_,rfl⟩,λ_=>rfl⟩;rw [Uc,sq.pq.one h2,Ph]
 ·have hdnz:(U8 q).length≠0:=λh=>by
   have h1:=P7 q (q.length-2);rw [Qk h,show q.length-2+1=q.length-1 by omega] at h1;have h3:q.getD (q.length-1) 0≠0:=Gp sq.pq.t (by omega);rcases J8.1 (h1.symm.trans (by simp)) with h4 | h4
   ·exact h3 h4
   ·omega
  obtain ⟨p1,p2,p3,p4,p5,p6,p7⟩:=Mp (p:=U8 q) (Uw _ _) hdnz;have hdl:Um (U8 q)=Um q*((q.length-1:Nat):Int):=by
   have hld:(U8 q).length=q.length-1:=by
    rcases Q9 (U8 q).length (q.length-1) with h | h
    ·have h1:=P7 q (q.length-2);rw [Qh,Qu (by omega),show q.length-2+1=q.length-1 by omega] at h1;have h3:q.getD (q.length-1) 0≠0:=Gp sq.pq.t (by omega);rcases J8.1 (h1.symm.trans (by simp)) with h4 | h4
     ·exact absurd h4 h3
     ·omega
    ·omega
   unfold Um;rw [hld,P7,show q.length-1-1+1=q.length-1 by omega]
  have hfac:0<Ga (U8 q):=by
   have hlp:0<Um (U8 q):=by rw [hdl]; exact Int.mul_pos sq.pq.l (by omega)
   have hc:=Oy (p:=U8 q) (Uw _ _) hdnz;unfold Ga;rw [if_neg (by omega)];unfold Rq at hc ⊢; omega
  have hfq:((0:Int):Rat)<(Ga (U8 q):Rat):=Jh.2 hfac;have hfq:(0:Rat)<(Ga (U8 q):Rat):=by simpa using hfq
  have hff:1 / (Ga (U8 q):Rat)*(Ga (U8 q):Rat)=1:=Fq hfq;have hz2:=hz.2;have hp3:(s+73+8)*3^(q.length-1)<=16777216:=by
   have:(s+73+8)*3^(q.length-1)<=(s+73+8)*3^(n-1):=Zp _ (Zu (by decide) (by omega));rw [Xh] at hz2; omega
  obtain ⟨l,h3,h4⟩:=Qzj (s:=s+73) 66 q (Ui (U8 q)) sq.pq.t p1 (by omega) (by omega) (by omega) (by omega) (W7 bq (by omega)) (p5 _ bd) hp3 λd d1 d2=>sq.num d1 (by
   obtain ⟨z,hz⟩:=d2;exact ⟨Nz (Ga (U8 q)) z,λt=>by
    have:=hz t;rw [Uc] at this;rw [Hp,<-E6,p7,this,U0]; grind⟩)
  refine ⟨Ui (U8 q)::l,h3,.inr ⟨cz (Ui (U8 q)),l.map cz,1 / (Ga (U8 q):Rat),Dd (by decide) hfq,λt=>?_,h4,rfl⟩,λh=>absurd h h2⟩;rw [Uc,<-E6,p7 t]; grind
theorem chain_ok {n s:Nat} {p:List Int} (h:Okp n s p):∃ q l,Tl p=some q/\C7 p=some (q::l)/\Stm (cz q) ((q::l).map cz)/\(q.length<2->l=[]):=by
 obtain ⟨pp,hl,hb⟩:=h.pr;have hn:=h.z.1;have hpl:=h.l;obtain ⟨g,q,hq,sq⟩:=Qa5 h;have e1:∀ t,Uf (Ui p) t=Uf q t*Uf g t:=λt=>by rw [sq.e]; grind
 obtain ⟨p1,p2⟩:=Hi pp.t pp.n e1;have hll:=Sl sq.pq.t sq.pg.t pp.t e1 p1 p2;obtain ⟨d,d1,l,d2,d3⟩:=Q7c h.z sq (by omega) (I7 hb (by omega) pp.t sq.pq.t sq.pg.t pp.n e1);refine ⟨q,l,hq,?_,d3⟩;unfold C7;rw [hq];show (if q.length=0 then none else _)=_;rw [if_neg sq.pq.n,d1];show (chF 66 q (Ui d)).bind _=_;rw [d2]; rfl
structure Gr (D M k:Nat) (q:Rat):Prop where
 u:∃ u:Int,q*((D*2^k:Nat):Rat)=(u:Rat)
 b:Uj q<=(M:Rat)
 d:0<D
theorem nat_pos {n:Nat} (h:0<n):(0:Rat)<(n:Rat):=by
 have:((0:Nat):Rat)<(n:Rat):=Vg.2 h;simpa using this
theorem Qm9 {D M k:Nat} {q:Rat} (h:Gr D M k q):Gr D M (k+1) q:=by
 obtain ⟨u,hu⟩:=h.u;refine ⟨⟨u*2,?_⟩,h.b,h.d⟩;rw [Zn,<-Xh]
 push_cast at hu ⊢
 rw [<-hu]; grind
theorem Q8m {D M k:Nat} {a b:Rat} (ha:Gr D M k a) (hb:Gr D M k b):Gr D M (k+1) ((a+b) / 2):=by
 obtain ⟨u,hu⟩:=ha.u;obtain ⟨v,hv⟩:=hb.u;have h2:(a+b) / 2*2=a+b:=Fq (by decide);refine ⟨⟨u+v,?_⟩,?_,ha.d⟩
 ·rw [Zn,<-Xh]
  push_cast at hu hv ⊢
  rw [<-hu,<-hv];generalize (a+b) / 2=c at *;generalize (D:Rat)*2^k=z at *;have:c*(z*2)=(c*2)*z:=by grind
  rw [this,h2]; grind
 ·have h3:=ha.b;have h4:=hb.b;rw [Tz] at *;constructor <;> grind
theorem Zji {D M k:Nat} {q:Rat} (h:Gr D M k q):q.den<=D*2^k:=by
 obtain ⟨u,hu⟩:=h.u;have hp:0<D*2^k:=J0 h.d (Zz (by decide));have e:q=Rat.divInt u ((D*2^k:Nat):Int):=by
  rw [<-Gv,<-hu];have hz:=nat_pos hp;rw [show ((((D*2^k:Nat):Int)):Rat)=((D*2^k:Nat):Rat) from rfl];rw [J7];have:=Rat.mul_inv_cancel ((D*2^k:Nat):Rat) (by grind);generalize ((D*2^k:Nat):Rat)=z at *;have:q*z*z⁻¹=q*(z*z⁻¹):=by grind
  rw [this,‹z*z⁻¹=1›]; grind
 rw [e,K7,if_neg (by omega),Z7];exact Jv _ _
theorem Qkc {a b k:Nat} {z:Int} (h:z.natAbs<=a*(b*2^k)):Uh z<=Uh (a:Int)+Uh (b:Int)+k:=by
 have h1:Uh (a:Int)<=Uh (a:Int):=Qn _;have h2:Uh (b:Int)<=Uh (b:Int):=Qn _;rw [Rl] at h1 h2 ⊢;rw [Z7] at h1 h2;rw [Xa,Xa];have h3:a*b<2^Uh (a:Int)*2^Uh (b:Int):=Nat.mul_lt_mul_of_lt_of_le h1 (Yc h2) (Zz (by decide));have h4:=Xo h3 (show 0<2^k from Zz (by decide));rw [<-Xh] at h; omega
theorem Qz8 {D M k B:Nat} {q:Rat} (h:Gr D M k q) (hM:0<M) (hs:Uh (D:Int)+Uh (M:Int)+k<=B):Qs B q:=by
 have hd:=Zji h;have hden:=nat_pos q.den_pos;have h1:(q.num.natAbs:Rat)<=((M*(D*2^k):Nat):Rat):=by
  have e:(q.num:Rat)=q*(q.den:Rat):=by
   have:(q.num:Rat) / (((q.den:Int)):Rat)=q:=by rw [Gv,Z1]
   have h2:(q.num:Rat) / (q.den:Rat)*(q.den:Rat)=q.num:=Zm (by grind);rw [show (q.num:Rat) / (q.den:Rat)=q from this] at h2; exact h2.symm
  rw [<-Ri,e];have h3:=Fo (x:=q) (y:=(q.den:Rat)) (b:=((D*2^k:Nat):Rat)) h.b (by
   have:Uj (q.den:Rat)=(q.den:Rat):=by unfold Uj; rw [if_neg (by grind)]
   rw [this]; exact Zh.2 hd)
  push_cast at h3 ⊢; exact h3
 have h1:=Zh.1 h1;refine ⟨?_,?_⟩
 ·have:=Qkc (z:=q.num) h1; omega
 ·have:=Qkc (z:=(q.den:Int)) (a:=M) (b:=D) (k:=k) (by
   rw [Z7];exact Qd hd (Nat.le_mul_of_pos_left _ hM))
  omega
theorem Qw1 (a b:Rat):mid a b=(a+b) / 2:=by
 unfold mid;rw [<-Gv];have ha:(a.num:Rat)=a*(a.den:Rat):=by
  have:(a.num:Rat) / (((a.den:Int)):Rat)=a:=by rw [Gv,Z1]
  have h2:(a.num:Rat) / (a.den:Rat)*(a.den:Rat)=a.num:=Zm (by have:=nat_pos a.den_pos; grind);rw [show (a.num:Rat) / (a.den:Rat)=a from this] at h2; exact h2.symm
 have hb:(b.num:Rat)=b*(b.den:Rat):=by
  have:(b.num:Rat) / (((b.den:Int)):Rat)=b:=by rw [Gv,Z1]
  have h2:(b.num:Rat) / (b.den:Rat)*(b.den:Rat)=b.num:=Zm (by have:=nat_pos b.den_pos; grind);rw [show (b.num:Rat) / (b.den:Rat)=b from this] at h2; exact h2.symm
 have pa:=nat_pos a.den_pos;have pb:=nat_pos b.den_pos;rw [V1,Xq,Xq,Xq,Xq,ha,hb];rw [show (((a.den:Int)):Rat)=(a.den:Rat) from rfl,show (((b.den:Int)):Rat)=(b.den:Rat) from rfl,show (((2:Int)):Rat)=2 from rfl];generalize (a.den:Rat)=x at *;generalize (b.den:Rat)=y at *;have hxy:=Eb (Eb pa pb) (show (0:Rat)<2 by decide);have h1:(a*x*y+b*y*x) / (x*y*2)*(x*y*2)=a*x*y+b*y*x:=Fq hxy;have h2:(a+b) / 2*2=a+b:=Fq (by decide);generalize (a*x*y+b*y*x) / (x*y*2)=c at *;generalize (a+b) / 2=d at *;have h3:(x*y*2)*(c-d)=0:=by grind
 rcases Yt.1 h3 with h4 | h4 <;> grind
theorem Qie (a b:Rat):Qk7 a b=a-b:=by
 unfold Qk7;rw [Rat.sub_def',<-Rat.divInt_ofNat]
 push_cast; rfl
theorem Qzo {a b:Rat}:Fy a b=0↔a=b:=by
 constructor
 ·intro h;have h1:¬a<b:=λh'=>by have:=Nq.2 h'; omega
  have h2:¬b<a:=λh'=>by have:=Np.2 h'; omega
  grind
 ·intro h; subst h; exact Ni a
theorem Qc5 {a b:Rat}:Fy a b<=0↔a<=b:=by
 constructor
 ·intro h;have h2:¬b<a:=λh'=>by have:=Np.2 h'; omega
  grind
 ·intro h;have h2:¬0<Fy a b:=λh'=>by have:=Np.1 h'; grind
  omega
theorem Qhs {a b:Rat}:0<=Fy a b↔b<=a:=by
 constructor
 ·intro h;have h2:¬a<b:=λh'=>by have:=Nq.2 h'; omega
  grind
 ·intro h;have h2:¬Fy a b<0:=λh'=>by have:=Nq.1 h'; grind
  omega
theorem Bf (a b:Rat):Fy a b=1/\b<a\/Fy a b=0/\a=b\/Fy a b=-1/\a<b:=by
 have hb:=Az a b;rcases (show Fy a b=1\/Fy a b=0\/Fy a b=-1 by omega) with h | h | h
 ·exact .inl ⟨h,Np.1 (by omega)⟩
 ·exact .inr (.inl ⟨h,Qzo.1 h⟩)
 ·exact .inr (.inr ⟨h,Nq.1 (by omega)⟩)
theorem Qs4 (p:List Int) (x:Rat):low p x=Rx (cz p) x:=by
 unfold low Rx;rw [S8,S8,Uc,E6]
theorem Mg {t:Tm} (h:t.lo<t.hi) (q:Rat):Uq t q=cq (cz t.p) t.lo t.hi q:=by
 have hp:t.point=false:=by
  unfold Tm.point;have:¬0<=Fy t.lo t.hi:=λh'=>by have:=Qhs.1 h'; grind
  simp [this]
 unfold Uq cq;rw [hp,if_neg (by decide)];have e1:(Fy q t.lo<=0)=(q<=t.lo):=propext Qc5;have e2:(0<Fy q t.hi)=(t.hi<q):=propext Np;rw [S8,Qs4,<-Uc];simp only [e1,e2]
theorem P8 {t:Tm}:t.point=true↔t.hi<=t.lo:=by
 unfold Tm.point;rw [decide_eq_true_iff]; exact Qhs
theorem Ld {t:Tm} (h:t.lo=t.hi) (q:Rat):Uq t q=Fy t.lo q:=by
 have hp:t.point=true:=P8.2 (by rw [h]; exact Qq);unfold Uq; rw [if_pos hp]
theorem Zi3 {c:Rat->Int} {x:Rat} (h:∀ q,c q=Fy x q):Cut c where
 val q:=by rw [h]; have:=Az x q; omega
 mono q r hqr h1:=by
  rw [h] at h1 ⊢;rcases Bf x q with ⟨e,e'⟩ | ⟨e,e'⟩ | ⟨e,e'⟩
  ·exact absurd e h1
  ·rcases Bf x r with ⟨f,f'⟩ | ⟨f,f'⟩ | ⟨f,f'⟩ <;> grind
  ·rcases Bf x r with ⟨f,f'⟩ | ⟨f,f'⟩ | ⟨f,f'⟩ <;> grind
 up q h1:=by
  rw [h] at h1;have h2:=Np.1 (show 0<Fy x q by omega);have h3:(x+q) / 2*2=x+q:=Fq (by decide);have h4:=Np.2 (show (x+q) / 2<x by grind);have:=Az x ((x+q) / 2);exact ⟨(x+q) / 2,by grind,by rw [h]; omega⟩
 dn q h1:=by
  rw [h] at h1;have h2:=Nq.1 (show Fy x q<0 by omega);have h3:(x+q) / 2*2=x+q:=Fq (by decide);have h4:=Nq.2 (show x<(x+q) / 2 by grind);have:=Az x ((x+q) / 2);exact ⟨(x+q) / 2,by grind,by rw [h]; omega⟩
 lo:=⟨x-1,by
  rw [h];have h4:=Np.2 (show x-1<x by grind);have:=Az x (x-1); omega⟩
 hi:=⟨x+1,by
  rw [h];have h4:=Nq.2 (show x<x+1 by grind);have:=Az x (x+1); omega⟩
structure Va (t:Tm):Prop where
 i:t.lo=t.hi/\Uf t.p t.lo=0\/∃ L,Vt (cz t.p) L t.lo t.hi
 tr:Ud t.p
 n:t.p.length<=9
 n2:2<=t.p.length
 b:Bd 1000000 t.p
 bi:t.point=false->Bd 1260 t.p
 sc:t.point=false->∃ (l:List (List Int)) (P g:List Int),chF 66 t.p (Ui (U8 t.p))=some l/\Sqp P g t.p/\Vt (cz t.p) ((t.p::l).map cz) t.lo t.hi
 g:∃ D M k,Gr D M k t.lo/\Gr D M k t.hi/\0<M/\Uh (D:Int)+Uh (M:Int)+k<=1000000
theorem Va.le {t:Tm} (h:Va t):t.lo<=t.hi:=by
 rcases h.i with ⟨e,_⟩ | ⟨L,V⟩
 ·rw [e]; exact Qq
 ·exact Qr V.l
theorem Va.pt {t:Tm} (h:Va t) (hp:t.point=true):t.lo=t.hi/\Uf t.p t.lo=0:=by
 rcases h.i with e | ⟨L,V⟩
 ·exact e
 ·have:=P8.1 hp;have:=V.l;grind
theorem Va.iv {t:Tm} (h:Va t) (hp:t.point=false):∃ L,Vt (cz t.p) L t.lo t.hi:=by
 rcases h.i with ⟨e,_⟩ | h
 ·have:=P8.2 (show t.hi<=t.lo by rw [e]; exact Qq);rw [hp] at this; cases this
 ·exact h
theorem Va.cut {t:Tm} (h:Va t):Cut (Uq t):=by
 rcases h.i with ⟨e,_⟩ | ⟨L,V⟩
 ·exact Zi3 (x:=t.lo) λq=>Ld e q
 ·have:Uq t=cq (cz t.p) t.lo t.hi:=funext λq=>Mg V.l q
  rw [this]; exact V.cut
theorem Zk0 {c:Rat->Int} (hc:Cut c) {p:List Rat} {x:Rat} (h:c x=0) (h0:ev p x=0):Ek p c:=by
 rcases Qag hc p with h1 | ⟨s,hs,h1⟩
 ·exact h1
 ·have:=Qti hc h h1;rw [U9.2 h0] at this; exact absurd this.symm hs
theorem Va.van {t:Tm} (h:Va t):Ek (cz t.p) (Uq t):=by
 have hc:=h.cut;rcases h.i with ⟨e,h0⟩ | ⟨L,V⟩
 ·exact Zk0 hc (x:=t.lo) (by rw [Ld e,Ni]) (by rw [Uc]; exact h0)
 ·have:Uq t=cq (cz t.p) t.lo t.hi:=funext λq=>Mg V.l q
  rw [this]; exact V.van
theorem Va.qs {t:Tm} (h:Va t):Qs 1000000 t.lo/\Qs 1000000 t.hi:=by
 obtain ⟨D,M,k,h1,h2,h3,h4⟩:=h.g;exact ⟨Qz8 h1 h3 h4,Qz8 h2 h3 h4⟩
theorem Va.tb {t:Tm} (h:Va t):Tb t:=⟨⟨h.tr,by have:=h.n; omega,W7 h.b (by omega)⟩,h.qs.1.mono (t:=16777216) (by omega),h.qs.2.mono (t:=16777216) (by omega)⟩
structure Hv (t:Tm) (D M k:Nat) (u:Tm):Prop where
 p:u.p=t.p
 i:u.lo=u.hi/\Uf u.p u.lo=0\/∃ L,Vt (cz u.p) L u.lo u.hi
 c:∀ q,Uq u q=Uq t q
 l:Gr D M k u.lo
 h:Gr D M k u.hi
theorem Qr7 {c:Rat->Int} (hc:Cut c) {x:Rat} (h:c x=0) (q:Rat):c q=Fy x q:=by
 rcases Bf x q with ⟨e,e'⟩ | ⟨e,e'⟩ | ⟨e,e'⟩
 ·rw [e]; exact hc.mono' e' (by omega)
 ·rw [e,<-e',h]
 ·rw [e]; exact hc.mono x q e' (by omega)
theorem Qpk {t u:Tm} {D M k:Nat} (hu:Hv t D M k u) (hM:0<M) (hs:Uh (D:Int)+Uh (M:Int)+(k+1)<=16777216):∃ v,Qpj u=some v/\Hv t D M (k+1) v/\v.hi-v.lo<=(u.hi-u.lo) / 2/\u.lo<=v.lo/\v.hi<=u.hi:=by
 have h2:∀ x:Rat,x / 2*2=x:=λx=>Fq (by decide)
 unfold Qpj;rcases hu.i with ⟨e,h0⟩ | ⟨L,V⟩
 ·have hp:u.point=true:=P8.2 (by rw [e]; exact Qq);rw [if_pos hp];refine ⟨u,rfl,⟨hu.p,hu.i,hu.c,Qm9 hu.l,Qm9 hu.h⟩,?_,Qq,Qq⟩;rw [e]; have:=h2 (u.hi-u.hi); grind
 ·have hp:u.point=false:=by
   have:¬u.point=true:=λh=>by have:=P8.1 h; have:=V.l; grind
   simpa using this
  rw [hp,if_neg (by decide)];obtain ⟨m,hm⟩:=nmE ((u.lo+u.hi) / 2);have hmg:Gr D M (k+1) m:=by rw [hm]; exact Q8m hu.l hu.h
  have hmm:=h2 (u.lo+u.hi);rw [<-hm] at hmm;have hl:=V.l;have hl1:u.lo<m:=by grind
  have hl2:m<u.hi:=by grind
  have hch:chq (mid u.lo u.hi)=some m:=by
   rw [Qw1,<-hm];have:=Qz8 hmg hM hs;unfold chq;rw [if_pos ⟨this.1,this.2⟩]
  have hcm:mid u.lo u.hi=m:=by rw [Qw1,<-hm]
  rw [hch];show ∃ v,some (if Uq u m=0 then (⟨u.p,m,m⟩:Tm) else if Uq u m=-1 then ⟨u.p,u.lo,m⟩ else ⟨u.p,m,u.hi⟩)=some v/\_;have hw:=h2 (u.hi-u.lo);have hcu:=Mg hl;have hcut:=V.cut;have hcut':Cut (Uq u):=by rw [show Uq u=cq (cz u.p) u.lo u.hi from funext hcu]; exact hcut
  by_cases c0:Uq u m=0
  ·rw [if_pos c0];have hz:Uf u.p m=0:=by
    have:=Qge hcut (q:=m) (by rw [<-hcu]; exact c0) V.van;rwa [Uc] at this
   refine ⟨_,rfl,⟨hu.p,.inl ⟨rfl,hz⟩,λq=>?_,hmg,hmg⟩,by show m-m<=_; grind,by show u.lo<=m; grind,by show m<=u.hi; grind⟩;rw [Ld rfl,<-hu.c];exact (Qr7 hcut' c0 q).symm
  ·rw [if_neg c0];by_cases c1:Uq u m=-1
   ·rw [if_pos c1];have hv:vv L m=vv L u.hi:=V.eq_hi hl1 (Qr hl2) (by rw [<-hcu,c1]; decide);have V':Vt (cz u.p) L u.lo m:=⟨V.s,hl1,by rw [hv]; exact V.v⟩;refine ⟨_,rfl,⟨hu.p,.inr ⟨L,V'⟩,λq=>?_,Qm9 hu.l,hmg⟩,by show m-u.lo<=_; grind,Qq,by show m<=u.hi; grind⟩;rw [Mg hl1,<-hu.c,hcu];exact V.uniq V'.cut (Da Qq) (by rw [Qc6 hl1 hl2]; decide) V'.van q
   ·rw [if_neg c1];have c2:Uq u m=1:=by rcases hcut'.val m with h | h | h <;> omega
    have hv:vv L m=vv L u.lo:=V.eq_lo hl1 (Qr hl2) (by rw [<-hcu]; exact c2);have V':Vt (cz u.p) L m u.hi:=⟨V.s,hl2,by rw [hv]; exact V.v⟩;refine ⟨_,rfl,⟨hu.p,.inr ⟨L,V'⟩,λq=>?_,hmg,Qm9 hu.h⟩,by show u.hi-m<=_; grind,by show u.lo<=m; grind,Qq⟩;rw [Mg hl2,<-hu.c,hcu];exact V.uniq V'.cut (Da (by grind)) V'.hi1 V'.van q
def Bv (a b:Tm):Prop:=∃ q,Uq a q=-1/\Uq b q=1
def TEq (a b:Tm):Prop:=∀ q,Uq a q=Uq b q
theorem tri {a b:Tm} (ha:Cut (Uq a)) (hb:Cut (Uq b)):Bv a b\/TEq a b\/Bv b a:=by
 rcases Classical.em (TEq a b) with h | h
 ·exact .inr (.inl h)
 ·obtain ⟨q,hq⟩:=Classical.not_forall.1 h;obtain ⟨r,⟨h1,h2⟩ | ⟨h1,h2⟩⟩:=Qr6 ha hb hq
  ·exact .inl ⟨r,h1,h2⟩
  ·exact .inr (.inr ⟨r,h2,h1⟩)
theorem Oj {a b:Tm} (ha:Cut (Uq a)) (hb:Cut (Uq b)) (h:Bv a b) (h':Bv b a):False:=by
 obtain ⟨q,q1,q2⟩:=h;obtain ⟨r,r1,r2⟩:=h';have:=ha.lt r2 q1;have:=hb.lt q2 r1;grind
theorem Qt4 {p:List Int} (k:Nat):(p.getD k 0).natAbs<=2^Fj p:=by
 have h:Uh (p.getD k 0)<=Fj p:=by
  have key:∀ (l:List Int) (n:Nat),n≤l.foldl (λn z=>max n (Uh z)) n/\∀ z∈l,Uh z≤l.foldl (λn z=>max n (Uh z)) n:=by
   intro l
   induction l with
   | nil=>exact λn=>⟨Qn _,λz hz=>by cases hz⟩
   |
    cons y l ih =>
    intro n;obtain ⟨i1,i2⟩:=ih (max n (Uh y));refine ⟨by simp only [Z3]; omega,λz hz=>?_⟩;simp only [Z3];rcases Qo.1 hz with rfl | hz
    ·omega
    ·exact i2 z hz
  exact Ul (s:=Fj p) (λz hz=>(key p 0).2 z hz) k
 rw [Rl] at h; omega
theorem Zhj {s:Nat}:∀ (B:List Int),(∀ z∈B,z.natAbs≤2^s)->gB B≤2^(s+(B.length-1))
 | [],_=>Qg _
 |
  c::B,h=>by
  have h1:=h c (Qt ..);have h2:=Zhj B λz hz=>h z (Qi _ hz)
  simp only [gB,Q7,J5];have h3:2^s<=2^(s+B.length):=Zu (by decide) (by omega);cases B with
  | nil=>simp only [gB,X1] at *; omega
  |
   cons d B =>
   have h4:2^(s+(d::B).length)=2*2^(s+((d::B).length-1)):=by
    rw [Zi,<-Zn]; congr 1
   rw [h4]; omega
def H6 (A B:List Int):Nat:=(Fj A+Fj B+(A.length+B.length)+8)*(2*(A.length+B.length-2)-1)
theorem Q78 {A B:List Int} (tA:Ud A) (tB:Ud B) (nA:A.length<=9) (nB:B.length<=9) (lA:2<=A.length) (lB:2<=B.length) {R d:Rat} (hR:1<=R) (dp:0<d)
 (hs:∀ e:Rat,0<e->∃ q r,Uj q<=R/\Uj r<=R/\d<=Uj (q-r)/\Uj (q-r)*((2^(H6 A B+1):Nat):Rat)<=1/\Uj (Uf A q)<e/\Uj (Uf B r)<e):False:=by
 obtain ⟨a,ha⟩:∃ a,A.length=a+1:=⟨A.length-1,by omega⟩;obtain ⟨b,hb⟩:∃ b,B.length=b+1:=⟨B.length-1,by omega⟩;obtain ⟨s,hsd⟩:=nmE (Fj A+Fj B+b);obtain ⟨N,hN⟩:∃ N,b*(2*(a*b))+a*(2*(a*b)-b)=N:=⟨_,rfl⟩;have hNt:N<=2^(a+9):=by
  rw [<-hN];have hab:∀ a b:Fin 9,b.1*(2*(a.1*b.1))+a.1*(2*(a.1*b.1)-b.1)<=2^(a.1+9):=by decide
  exact hab ⟨a,by omega⟩ ⟨b,by omega⟩
 have hK:H6 A B=(s+a+10)*(2*(a+b-1)+1):=by
  unfold H6;rw [ha,hb,hsd,show a+1+(b+1)-2=a+b by omega,show 2*(a+b)-1=2*(a+b-1)+1 by omega];congr 1; omega
 have h0A:A.getD a 0≠0:=by have:=Gp tA (by omega); rwa [ha] at this
 have h0B:B.getD b 0≠0:=by have:=Gp tB (by omega); rwa [hb] at this
 have hp:∀ m,1<=2^m:=λm=>Zz (by decide)
 refine Zje (N:=N) (D:=2^(H6 A B-1)) ha hb h0A h0B (by omega) (by omega) (h:=2^s) (hp s) (λk=>Qd (Qt4 k) (Zu (by decide) (by omega))) ?_ hN ?_ hR dp λe ep=>?_
 ·refine Qd (Zhj (s:=Fj B) B λz hz=>?_) (Zu (by decide) (by omega));obtain ⟨i,hi⟩:=Zf.1 hz;have:=Qt4 (p:=B) i;rwa [Qh,hi] at this
 ·have h1:2*(N*2^s)<=2^(s+a+10):=by
   have:N*2^s<=2^(a+9)*2^s:=Q0 _ hNt;rw [<-Xa] at this;rw [show s+a+10=(a+9+s)+1 by omega,Zn]; omega
  have h2:N*2^s<=2^(s+a+9):=by
   rw [show s+a+9=(a+9)+s by omega,Xa]; exact Q0 _ hNt
  have h3:=Nat.pow_le_pow_left h1 (2*(a+b-1));have h4:=Zy h2 h3;rw [<-W4,<-Xa] at h4;rw [<-Xh];refine Qd h4 (Zu (by decide) ?_);rw [hK,Xk,Yn]; omega
 ·obtain ⟨q,r,h1,h2,h3,h4,h5,h6⟩:=hs e ep;refine ⟨q,r,h1,h2,h3,?_,h5,h6⟩;have hK1:1<=H6 A B:=by
   rw [hK]; exact J0 (by omega) (by omega)
  have e1:2^(H6 A B+1)=4*2^(H6 A B-1):=by
   obtain ⟨m,hm⟩:∃ m,H6 A B=m+1:=⟨H6 A B-1,by omega⟩;rw [hm,J5,Zn,Zn]; omega
  rw [e1] at h4
  push_cast at h4 ⊢
  exact h4
theorem Hv.lo' {t:Tm} {D M k:Nat} {u:Tm} (h:Hv t D M k u):Uq t u.lo=1\/Uq t u.lo=0/\u.lo=u.hi:=by
 rw [<-h.c];rcases h.i with ⟨e,_⟩ | ⟨L,V⟩
 ·exact .inr ⟨by rw [Ld e,Ni],e⟩
 ·exact .inl (by rw [Mg V.l]; exact Da Qq)
theorem Hv.hi' {t:Tm} {D M k:Nat} {u:Tm} (h:Hv t D M k u):Uq t u.hi=0\/Uq t u.hi=-1:=by
 rw [<-h.c];rcases h.i with ⟨e,_⟩ | ⟨L,V⟩
 ·exact .inl (by rw [Ld e,e,Ni])
 ·rw [Mg V.l];have:=V.hi1;rcases V.cut.val u.hi with h | h | h <;> omega
theorem Hv.le {t:Tm} {D M k:Nat} {u:Tm} (h:Hv t D M k u):u.lo<=u.hi:=by
 rcases h.i with ⟨e,_⟩ | ⟨L,V⟩
 ·rw [e]; exact Qq
 ·exact Qr V.l
theorem Q79 {a b:Tm} (ha:Va a) (hb:Va b) {D M k D' M' k':Nat} {u v:Tm} (hu:Hv a D M k u) (hv:Hv b D' M' k' v) (h:Bv a b):1<(v.hi-u.lo)*((2^(H6 a.p b.p+1):Nat):Rat):=by
 rcases Ut ((v.hi-u.lo)*((2^(H6 a.p b.p+1):Nat):Rat)) 1 with hw | hw
 ·exfalso;have ca:=ha.cut;have cb:=hb.cut;obtain ⟨m,m1,m2⟩:=h;obtain ⟨m',hm',m3⟩:=ca.dn m m1;have hpow:(0:Rat)<=((2^(H6 a.p b.p+1):Nat):Rat):=Xi;obtain ⟨R,hR⟩:=nmE (Uj u.lo+Uj m'+Uj m+Uj v.hi+1);have n1:=Gl u.lo; have n2:=Gl m'; have n3:=Gl m; have n4:=Gl v.hi;refine Q78 (R:=R) (d:=m-m') ha.tr hb.tr ha.n hb.n ha.n2 hb.n2 (by grind) (by grind) λe ep=>?_
  obtain ⟨q,q1,q2,q3⟩:∃ q,u.lo<=q/\q<=m'/\Uj (Uf a.p q)<e:=by
   rcases hu.lo' with h1 | ⟨h1,_⟩
   ·obtain ⟨x,y,hx,hy,hq⟩:=ha.van e ep;rcases Ut x u.lo with e1 | e1
    ·exact ⟨u.lo,Qq,Qr (ca.lt h1 m3),by rw [<-Uc]; exact hq u.lo e1 (Qr (ca.lt h1 hy))⟩
    ·exact ⟨x,Qr e1,Qr (ca.lt hx m3),by rw [<-Uc]; exact hq x Qq (Qr (ca.lt hx hy))⟩
   ·refine ⟨u.lo,Qq,?_,by rw [<-Uc,Qge ca h1 ha.van,Gz]; exact ep⟩;rcases Ut u.lo m' with e1 | e1
    ·exact e1
    ·have:=ca.mono m' u.lo e1 (by omega); omega
  obtain ⟨r,r1,r2,r3⟩:∃ r,r<=v.hi/\m<=r/\Uj (Uf b.p r)<e:=by
   rcases hv.hi' with h1 | h1
   ·refine ⟨v.hi,Qq,?_,by rw [<-Uc,Qge cb h1 hb.van,Gz]; exact ep⟩;rcases Ut m v.hi with e1 | e1
    ·exact e1
    ·have:=cb.mono v.hi m e1 (by omega); omega
   ·obtain ⟨x,y,hx,hy,hq⟩:=hb.van e ep;rcases Ut v.hi y with e1 | e1
    ·exact ⟨v.hi,Qq,Qr (cb.lt m2 h1),by rw [<-Uc]; exact hq v.hi (Qr (cb.lt hx h1)) e1⟩
    ·exact ⟨y,Qr e1,Qr (cb.lt m2 hy),by rw [<-Uc]; exact hq y (Qr (cb.lt hx hy)) Qq⟩
  have e1:Uj (q-r)=r-q:=by unfold Uj; split <;> grind
  have b1:Uj q<=R:=by
   have:=Qdj (R:=R) (x:=u.lo) (y:=m') (t:=q) (by grind) (by grind) q1 q2; exact this
  have b2:Uj r<=R:=by
   have:=Qdj (R:=R) (x:=m) (y:=v.hi) (t:=r) (by grind) (by grind) r2 r1; exact this
  refine ⟨q,r,b1,b2,by rw [e1]; grind,?_,q3,r3⟩;rw [e1];have:=Zb (show r-q<=v.hi-u.lo by grind) hpow;exact Zg this hw
 ·exact hw
theorem Qrm {a b:Tm} (ha:Va a) (hb:Va b) {D M k D' M' k':Nat} {u v:Tm} (hu:Hv a D M k u) (hv:Hv b D' M' k' v) (hne:¬TEq a b) (h:Ba u v=true):Bv a b:=by
 have h1:=(of_decide_eq_true h).1;have h1:=Qc5.1 h1;rcases tri ha.cut hb.cut with h2 | h2 | ⟨m,m1,m2⟩
 ·exact h2
 ·exact absurd h2 hne
 ·exfalso;have e1:m<u.hi:=by
   rcases Ut u.hi m with e | e
   ·rcases Classical.em (u.hi=m) with e' | e'
    ·have:=hu.hi'; rw [e'] at this; omega
    ·have:=ha.cut.mono u.hi m (by grind) (by have:=hu.hi'; omega); omega
   ·exact e
  have e2:v.lo<m:=by
   rcases Ut m v.lo with e | e
   ·rcases Classical.em (m=v.lo) with e' | e'
    ·have:=hv.lo'; rw [<-e'] at this; omega
    ·have:=hb.cut.mono m v.lo (by grind) (by omega);have:=hv.lo'; omega
   ·exact e
  grind
theorem Q03 {a b:Tm} (ha:Va a) (hb:Va b) {D M k D' M' k':Nat} {u v:Tm} (hu:Hv a D M k u) (hv:Hv b D' M' k' v) (hlt:Bv a b) (h:Ba u v≠true):v.lo<=u.hi:=by
 rcases Ut v.lo u.hi with e | e
 ·exact e
 ·refine absurd (decide_eq_true ⟨Qc5.2 (Qr e),λh'=>?_⟩) h;have:=Qzo.1 h'.2; grind
theorem Qt0 (m:Nat):((2^(m+1):Nat):Rat)=2*((2^m:Nat):Rat):=by rw [Zn]; push_cast; grind
def Zh3 (a b:Tm) (r:Tm×Tm×Int):Prop:=r.2.2=-1/\Bv a b\/r.2.2=1/\Bv b a
theorem Q3n (A B:List Int):H6 A B=H6 B A:=by unfold H6; rw [Nat.add_comm A.length,Nat.add_comm (Fj A)]
theorem Zlg {a b:Tm} (ha:Va a) (hb:Va b) (hne:¬TEq a b) {D M D' M':Nat} (hM:0<M) (hM':0<M'):∀ (i j:Nat) (u v:Tm) (k k':Nat) (W:Rat),2*i+1<=j->Hv a D M k u->Hv b D' M' k' v->Uh (D:Int)+Uh (M:Int)+(k+j)<=16777216->Uh (D':Int)+Uh (M':Int)+(k'+j)<=16777216->u.hi-u.lo<=W->v.hi-v.lo<=W->2*W*((2^(H6 a.p b.p+1):Nat):Rat)<=((2^i:Nat):Rat)->∃ r,apF j u v=some r/\Zh3 a b r:=by
 intro i;have step:∀ (j:Nat) (u v:Tm) (k k':Nat),Hv a D M k u->Hv b D' M' k' v->Uh (D:Int)+Uh (M:Int)+(k+(j+1))<=16777216->Uh (D':Int)+Uh (M':Int)+(k'+(j+1))<=16777216->(∃ r,apF (j+1) u v=some r/\Zh3 a b r)\/(Ba u v≠true/\Ba v u≠true/\∃ u' v' k1 k1',apF (j+1) u v=apF j u' v'/\Hv a D M k1 u'/\Hv b D' M' k1' v'/\k1<=k+1/\k1'<=k'+1/\(v.hi-v.lo<=u.hi-u.lo/\u'.hi-u'.lo<=(u.hi-u.lo) / 2/\v'=v\/u.hi-u.lo<=v.hi-v.lo/\v'.hi-v'.lo<=(v.hi-v.lo) / 2/\u'=u)):=by
  intro j u v k k' hu hv hs hs';by_cases h1:Ba u v=true
  ·exact .inl ⟨(u,v,-1),by simp only [apF]; rw [if_pos h1],.inl ⟨rfl,Qrm ha hb hu hv hne h1⟩⟩
  by_cases h2:Ba v u=true
  ·exact .inl ⟨(u,v,1),by simp only [apF]; rw [if_neg h1,if_pos h2],.inr ⟨rfl,Qrm hb ha hv hu (λh=>hne λq=>(h q).symm) h2⟩⟩
  refine .inr ⟨h1,h2,?_⟩;by_cases h3:0<=Fy (Qk7 u.hi u.lo) (Qk7 v.hi v.lo)
  ·obtain ⟨x,x1,x2,x3,_⟩:=Qpk hu hM (by omega);refine ⟨x,v,k+1,k',?_,x2,hv,by omega,by omega,.inl ⟨?_,x3,rfl⟩⟩
   ·simp only [apF]; rw [if_neg h1,if_neg h2,if_pos h3,x1]; rfl
   ·have:=Qhs.1 h3; rwa [Qie,Qie] at this
  ·obtain ⟨x,x1,x2,x3,_⟩:=Qpk hv hM' (by omega);refine ⟨u,x,k,k'+1,?_,hu,x2,by omega,by omega,.inr ⟨?_,x3,rfl⟩⟩
   ·simp only [apF]; rw [if_neg h1,if_neg h2,if_neg h3,x1]; rfl
   ·rcases Ut (u.hi-u.lo) (v.hi-v.lo) with e | e
    ·exact e
    ·refine absurd (Qhs.2 ?_) h3;rw [Qie,Qie]; exact Qr e
 induction i with
 |
  zero =>
  intro j u v k k' W hj hu hv hs hs' hW hW' hK;obtain ⟨j,rfl⟩:∃ m,j=m+1:=⟨j-1,by omega⟩;rcases step j u v k k' hu hv hs hs' with h | ⟨h1,h2,_⟩
  ·exact h
  ·exfalso;have hpow:(0:Rat)<=((2^(H6 a.p b.p+1):Nat):Rat):=Xi;rw [Y3] at hK;rcases tri ha.cut hb.cut with h3 | h3 | h3
   ·have h4:=Q03 ha hb hu hv h3 h1;have h5:=Q79 ha hb hu hv h3;have h6:=Zb (show v.hi-u.lo<=2*W by clear step; grind) hpow;have h7:((1:Nat):Rat)=1:=rfl;rw [h7] at hK;clear step; grind
   ·exact hne h3
   ·have h4:=Q03 hb ha hv hu h3 h2;have h5:=Q79 hb ha hv hu h3;rw [Q3n] at h5;have h6:=Zb (show u.hi-v.lo<=2*W by clear step; grind) hpow;have h7:((1:Nat):Rat)=1:=rfl;rw [h7] at hK;clear step; grind
 |
  succ i ih =>
  intro j u v k k' W hj hu hv hs hs' hW hW' hK;obtain ⟨j,rfl⟩:∃ m,j=m+2:=⟨j-2,by omega⟩;have hd:∀ x:Rat,x / 2*2=x:=λx=>Fq (by decide)
  rcases step (j+1) u v k k' hu hv hs hs' with h | ⟨_,_,u1,v1,k1,k1',e1,hu1,hv1,hk1,hk1',hw1⟩
  ·exact h
  ·rw [e1];rcases step j u1 v1 k1 k1' hu1 hv1 (by omega) (by omega) with h | ⟨_,_,u2,v2,k2,k2',e2,hu2,hv2,hk2,hk2',hw2⟩
   ·exact h
   ·rw [e2];have a1:=hd (u.hi-u.lo); have a2:=hd (v.hi-v.lo); have a3:=hd (u1.hi-u1.lo); have a4:=hd (v1.hi-v1.lo); have a5:=hd W;have b1:=hu.le; have b2:=hv.le; have b3:=hu1.le; have b4:=hv1.le; have b5:=hu2.le; have b6:=hv2.le;have hww:u2.hi-u2.lo<=W / 2/\v2.hi-v2.lo<=W / 2:=by
     clear step ih;rcases hw1 with ⟨c1,c2,rfl⟩ | ⟨c1,c2,rfl⟩ <;> rcases hw2 with ⟨d1,d2,rfl⟩ | ⟨d1,d2,rfl⟩ <;> constructor <;> grind
    refine ih j u2 v2 k2 k2' (W / 2) (by omega) hu2 hv2 (by omega) (by omega) hww.1 hww.2 ?_;rw [Qt0 i] at hK;have:2*(W / 2)*((2^(H6 a.p b.p+1):Nat):Rat)*2=2*W*((2^(H6 a.p b.p+1):Nat):Rat):=by clear step ih hw1 hw2; grind
    clear step ih hw1 hw2; grind
def CmpOk (a b:Tm) (c:Int):Prop:=c=-1/\Bv a b\/c=0/\TEq a b\/c=1/\Bv b a
theorem Va.hv0 {t:Tm} (h:Va t):∃ D M k,Hv t D M k t/\0<M/\Uh (D:Int)+Uh (M:Int)+k<=1000000:=by
 obtain ⟨D,M,k,h1,h2,h3,h4⟩:=h.g;exact ⟨D,M,k,⟨rfl,h.i,λ_=>rfl,h1,h2⟩,h3,h4⟩
theorem Qxi {a:Tm} (ha:Va a) (hp:a.point=true) (q:Rat):Uq a q=Fy a.lo q:=Ld (ha.pt hp).1 q
theorem Q7h {a b:Tm} (hb:Va b) {x:Rat} (hx:∀ q,Uq a q=Fy x q):CmpOk a b (-Uq b x):=by
 have cb:=hb.cut;rcases cb.val x with h | h | h
 ·obtain ⟨q,q1,q2⟩:=cb.up x h;refine .inl ⟨by omega,q,?_,q2⟩;rw [hx]; rcases Bf x q with ⟨e,e'⟩ | ⟨e,e'⟩ | ⟨e,e'⟩ <;> grind
 ·exact .inr (.inl ⟨by omega,λq=>by rw [hx,Qr7 cb h]⟩)
 ·obtain ⟨q,q1,q2⟩:=cb.dn x h;refine .inr (.inr ⟨by omega,q,q2,?_⟩);rw [hx]; rcases Bf x q with ⟨e,e'⟩ | ⟨e,e'⟩ | ⟨e,e'⟩ <;> grind
theorem CmpOk.symm {a b:Tm} {c:Int} (h:CmpOk a b c):CmpOk b a (-c):=by
 rcases h with ⟨h1,h2⟩ | ⟨h1,h2⟩ | ⟨h1,h2⟩
 ·exact .inr (.inr ⟨by omega,h2⟩)
 ·exact .inr (.inl ⟨by omega,λq=>(h2 q).symm⟩)
 ·exact .inl ⟨by omega,h2⟩
theorem Zm0:Szz 9 1260:=⟨by decide,by decide⟩
theorem Qdi (g:List Int) (lo hi:Rat):Qdh g lo hi=true↔Qwq (cz g) lo hi:=by
 unfold Qdh Qwq;rw [decide_eq_true_iff,S8,Qs4,Uc]
theorem Qsq {g:List Int} (tg:Ud g) (hn:g.length≠0) {lo hi:Rat} (h:Qwq (cz g) lo hi):1<g.length:=by
 rcases Q9 1 g.length with e | e
 ·exact e
 ·exfalso;obtain ⟨c,rfl⟩:∃ c,g=[c]:=Kb.1 (by omega);have hc:c≠0:=by have:=Gp tg (by simp); simpa using this
  have hv:∀ t,ev (cz [c]) t=(c:Rat):=λt=>by rw [Uc]; simp only [Uf]; grind
  have hs:Un (c:Rat)≠0:=λh=>Ob hc (U9.1 h)
  unfold Qwq at h;rw [hv,Dn (by rw [hv]; exact hs),hv] at h;rcases h with h | h
  ·exact hs h
  ·exact h rfl
theorem Qkb {q:Rat}:Uj q<=((2^Uh q.num:Nat):Rat):=by
 have h1:Uh q.num<=Uh q.num:=Qn _;rw [Rl] at h1;have e:(q.num:Rat)=q*(q.den:Rat):=by
  have:(q.num:Rat) / (((q.den:Int)):Rat)=q:=by rw [Gv,Z1]
  have h2:(q.num:Rat) / (q.den:Rat)*(q.den:Rat)=q.num:=Zm (by have:=nat_pos q.den_pos; grind);rw [show (q.num:Rat) / (q.den:Rat)=q from this] at h2; exact h2.symm
 have hd:(1:Rat)<=(q.den:Rat):=by
  have:((1:Nat):Rat)<=(q.den:Rat):=Zh.2 q.den_pos;exact this
 have h2:Uj q<=Uj (q.num:Rat):=by
  rw [e,Ls];have:Uj (q.den:Rat)=(q.den:Rat):=by unfold Uj; rw [if_neg (by grind)]
  rw [this];have:=Ml (a:=Uj q) (c:=1) (Gl q) Qq (by decide) hd;grind
 rw [Ri] at h2;exact Zg h2 (Zh.2 (Yc h1))
theorem Qgf {a:Tm} {w:Nat} (h:Uh a.lo.num+Uh a.hi.num<=w):a.hi-a.lo<=((2^(w+1):Nat):Rat):=by
 have h1:=Qkb (q:=a.lo);have h2:=Qkb (q:=a.hi);have h3:((2^Uh a.lo.num:Nat):Rat)<=((2^w:Nat):Rat):=Zh.2 (Zu (by decide) (by omega));have h4:((2^Uh a.hi.num:Nat):Rat)<=((2^w:Nat):Rat):=Zh.2 (Zu (by decide) (by omega));rw [Qt0];rw [Tz] at h1 h2;grind
theorem Ac {p:List Int} {s:Nat} (h:Bd s p):Fj p<=s:=by
 have:=Ty h p.length; rwa [Q4] at this
theorem Zbh {a b:Tm} (ha:Va a) (hb:Va b) (pa:a.point=false) (pb:b.point=false):Ti a b<=9000000:=by
 have q1:=ha.qs; have q2:=hb.qs;have l1:=ha.n; have l2:=hb.n;have s1:=Ac (ha.bi pa); have s2:=Ac (hb.bi pb);have b1:=q1.1.1; have b2:=q1.2.1; have b3:=q2.1.1; have b4:=q2.2.1;have:4*(a.p.length+b.p.length)*(Fj a.p+Fj b.p+(a.p.length+b.p.length)+8)<=4*18*2600:=Zy (by omega) (by omega);unfold Ti; omega
theorem Q5c {a b:Tm} (ha:Va a) (hb:Va b) (pa:a.point=false) (pb:b.point=false) (hne:¬TEq a b):∃ r,apF (Ti a b) a b=some r/\Zh3 a b r:=by
 obtain ⟨D,M,k,h1,h2,h3⟩:=ha.hv0;obtain ⟨D',M',k',h1',h2',h3'⟩:=hb.hv0;have hst:=Zbh ha hb pa pb;obtain ⟨w,hw⟩:=nmE (Uh a.lo.num+Uh a.hi.num+Uh b.lo.num+Uh b.hi.num);obtain ⟨K,hK⟩:=nmE (Fj a.p+Fj b.p+(a.p.length+b.p.length)+8);obtain ⟨n,hn⟩:=nmE (a.p.length+b.p.length);have l1:=ha.n2; have l2:=hb.n2;have hsteps:Ti a b=64+2*w+4*n*K:=by unfold Ti; rw [hw,hK,hn]
 have hg:H6 a.p b.p=K*(2*(n-2)-1):=by unfold H6; rw [hK,hn]
 have hgle:H6 a.p b.p+5*K<=2*n*K:=by
  rw [hg,Zi K,<-Jg];exact Q0 _ (by omega)
 have hKp:8<=K:=by omega
 refine Zlg ha hb hne h2 h2' (31+w+2*n*K) (Ti a b) a b k k' ((2^(w+1):Nat):Rat) ?_ h1 h1' (by omega) (by omega) (Qgf (by omega)) (Qgf (by omega)) ?_
 ·rw [hsteps,Xk,Xh 4,Xh 2 n]; omega
 ·have e:2*(2^(w+1))*(2^(H6 a.p b.p+1))<=2^(31+w+2*n*K):=by
   rw [Zi 2,<-Zn,<-Xa];exact Zu (by decide) (by omega)
  have:=Zh.2 e
  push_cast at this ⊢
  exact this
theorem Qc4 {a b:Tm} (ha:Va a) (hb:Va b):∃ c,Qe7 a b=some c/\CmpOk a b c:=by
 unfold Qe7;by_cases pa:a.point=true
 ·rw [if_pos pa];exact ⟨_,rfl,Q7h hb (Qxi ha pa)⟩
 rw [if_neg pa];by_cases pb:b.point=true
 ·rw [if_pos pb];have:=(Q7h ha (Qxi hb pb)).symm;rw [Int.neg_neg] at this;exact ⟨_,rfl,this⟩
 rw [if_neg pb];have pa:a.point=false:=by simpa using pa
 have pb:b.point=false:=by simpa using pb
 obtain ⟨L,V⟩:=ha.iv pa;obtain ⟨L',V'⟩:=hb.iv pb;have eqa:∀ q,Uq a q=cq (cz a.p) a.lo a.hi q:=Mg V.l;have eqb:∀ q,Uq b q=cq (cz b.p) b.lo b.hi q:=Mg V'.l;obtain ⟨lo,hlo⟩:=nmE (if 0<Fy b.lo a.lo then b.lo else a.lo);obtain ⟨hi,hhi⟩:=nmE (if Fy b.hi a.hi<0 then b.hi else a.hi);show ∃ c,(if Fy (if 0<Fy b.lo a.lo then b.lo else a.lo) (if Fy b.hi a.hi<0 then b.hi else a.hi)<0 then _ else _)=some c/\_;rw [<-hlo,<-hhi];have e1:(0<Fy b.lo a.lo)=(a.lo<b.lo):=propext Np;have e2:(Fy b.hi a.hi<0)=(b.hi<a.hi):=propext Nq;have e3:(Fy lo hi<0)=(lo<hi):=propext Nq;simp only [e1] at hlo;simp only [e2] at hhi;simp only [e3];obtain ⟨g,g1,g2,g3,g4⟩:=Q8h Zm0 ha.tr hb.tr ha.n hb.n (ha.bi pa) (hb.bi pb) (by have:=ha.n2; omega);obtain ⟨U,W,hc⟩:=g2.c;obtain ⟨u,hu⟩:=g2.da;obtain ⟨u',hu'⟩:=g2.db;have key:=V.same V' (g:=cz g) (u:=u) (u':=u') (U:=U) (W:=W) (k:=1) (by decide) hu hu' (λt=>by rw [Uc,Uc,Uc,hc]; grind) (a:=lo) (b:=hi) (by rw [hlo]; split <;> grind) (by rw [hlo]; split <;> grind) (by rw [hlo]; split <;> simp) (by rw [hhi]; split <;> grind) (by rw [hhi]; split <;> grind) (by rw [hhi]; split <;> simp);have hTE:(∀ q,cq (cz a.p) a.lo a.hi q=cq (cz b.p) b.lo b.hi q)↔TEq a b:=by
  unfold TEq; constructor
  ·intro h q; rw [eqa,eqb]; exact h q
  ·intro h q; rw [<-eqa,<-eqb]; exact h q
 rw [hTE] at key;have fin:¬TEq a b->∃ c,((apF (Ti a b) a b).bind λr=>some r.2.2)=some c/\CmpOk a b c:=λhne=>by
  obtain ⟨r,r1,r2⟩:=Q5c ha hb pa pb hne;refine ⟨r.2.2,by rw [r1]; rfl,?_⟩;rcases r2 with h | h
  ·exact .inl h
  ·exact .inr (.inr h)
 by_cases hl:lo<hi
 ·rw [if_pos hl,g1];show ∃ c,(if 1<g.length/\Qdh g lo hi=true then some 0 else (apF (Ti a b) a b).bind λr=>some r.2.2)=some c/\_;by_cases hh:Qdh g lo hi=true
  ·have hq:=(Qdi g lo hi).1 hh;rw [if_pos ⟨Qsq g2.t g2.n hq,hh⟩];exact ⟨0,rfl,.inr (.inl ⟨rfl,key.1 ⟨hl,hq⟩⟩)⟩
  ·rw [if_neg λh=>hh h.2];exact fin λh=>hh ((Qdi g lo hi).2 (key.2 h).2)
 ·rw [if_neg hl];exact fin λh=>hl (key.2 h).1
def SgT (p:List Int) (a:Tm) (s:Int):Prop:=s=0/\Ek (cz p) (Uq a)\/s≠0/\NZ (cz p) (Uq a) s
theorem Zkd {p:List Int} {c:Rat->Int} (hc:Cut c) {x:Rat} (h:c x=0):Ft p x=0/\Ek (cz p) c\/Ft p x≠0/\NZ (cz p) c (Ft p x):=by
 rw [S8,<-Uc];rcases Qag hc (cz p) with h1 | ⟨s,hs,h1⟩
 ·exact .inl ⟨U9.2 (Qge hc h h1),h1⟩
 ·have:=Qti hc h h1;rw [this]; exact .inr ⟨hs,h1⟩
theorem Aq {l:List (List Int)} {lo hi:Rat} (h:lo<=hi):Ho l lo hi=(vv (l.map cz) lo:Int)-(vv (l.map cz) hi:Int):=by
 unfold Ho;rw [if_neg λh'=>by have:=Nq.1 h'; grind,Ih,Ih]
theorem Zke {p q:List Int} {L:List (List Rat)} (hp:Ud p) (np:p.length<=9) (lp:2<=p.length) (hS:Stm (cz q) L) (hpq:Is (cz q) (cz p)) {a:Tm} (ha:Va a) {s:Int} (hnz:NZ (cz p) (Uq a) s) {D M k:Nat} {x:Tm} (hx:Hv a D M k x) (hl:x.lo<x.hi) (hv:vv L x.lo≠vv L x.hi):1<(x.hi-x.lo)*((2^(H6 a.p p+1):Nat):Rat):=by
 rcases Ut ((x.hi-x.lo)*((2^(H6 a.p p+1):Nat):Rat)) 1 with hw | hw
 ·exfalso;have ca:=ha.cut;obtain ⟨d,dp,x1,y1,c1,c2,hn⟩:=hnz;obtain ⟨x2,x12,c3⟩:=ca.up x1 c1;obtain ⟨y2,y12,c4⟩:=ca.dn y1 c2;have hpow:(0:Rat)<=((2^(H6 a.p p+1):Nat):Rat):=Xi;obtain ⟨z,zp,z1,z2⟩:=min2 (a:=x2-x1) (b:=y1-y2) (by clear hn; grind) (by clear hn; grind);obtain ⟨R0,hR0,r1,r2⟩:=Qok x.lo x.hi;obtain ⟨u,hu⟩:=hpq;refine Q78 (R:=R0+1) (d:=z) ha.tr hp ha.n np ha.n2 lp (by clear hn; grind) zp λe ep=>?_
  obtain ⟨q0,q1,q2,q3,q4,q5⟩:∃ q0,x.lo<=q0/\q0<=x.hi/\x2<=q0/\q0<=y2/\Uj (Uf a.p q0)<e:=by
   rcases hx.lo' with h1 | ⟨h1,h2⟩
   ·obtain ⟨x',y',hx',hy',hq⟩:=ha.van e ep;obtain ⟨m,m1,m2,m3,m4⟩:∃ m,Uq a m=1/\x.lo<=m/\x2<=m/\x'<=m:=by
     rcases Ut x.lo x2 with e1 | e1
     ·rcases Ut x2 x' with e2 | e2
      ·exact ⟨x',hx',by clear hn hq; grind,e2,Qq⟩
      ·exact ⟨x2,c3,e1,Qq,Qr e2⟩
     ·rcases Ut x.lo x' with e2 | e2
      ·exact ⟨x',hx',e2,by clear hn hq; grind,Qq⟩
      ·exact ⟨x.lo,h1,Qq,Qr e1,Qr e2⟩
    refine ⟨m,m2,?_,m3,Qr (ca.lt m1 c4),by rw [<-Uc]; exact hq m m4 (Qr (ca.lt m1 hy'))⟩;rcases hx.hi' with h3 | h3
    ·rcases Ut m x.hi with e1 | e1
     ·exact e1
     ·have:=ca.mono x.hi m e1 (by omega); omega
    ·exact Qr (ca.lt m1 h3)
   ·exact absurd h2 (by clear hn; grind)
  obtain ⟨b,hb⟩:=nmE (evB R0 u);have hb0:0<=b:=by rw [hb]; exact I6 hR0 u
  obtain ⟨f,fp,_,hf⟩:=Fu (b:=b) (d:=if e<=d then e else d) hb0 (by split <;> assumption);obtain ⟨r,r3,r4,r5⟩:=Qq0 hS hl hv fp;have hrR:Uj r<=R0:=Qdj r1 r2 r3 r4;have hpr:Uj (Uf p r)<(if e<=d then e else d):=by
   rw [<-Uc,hu];have:=Fo (Qr r5) (Qgo hrR u);rw [<-hb] at this;exact Jo.1 λh=>absurd (Zg h this) (Jo.2 hf)
  have hpe:Uj (Uf p r)<e:=by split at hpr <;> (clear hn; grind)
  have hpd:Uj (Uf p r)<d:=by split at hpr <;> (clear hn; grind)
  have hrout:r<x1\/y1<r:=by
   rcases Ut x1 r with e1 | e1
   ·rcases Ut r y1 with e2 | e2
    ·have:=(hn r e1 e2).2;rw [Uc] at this;exact absurd this (Jo.2 hpd)
    ·exact .inr e2
   ·exact .inl e1
  have hqr:z<=Uj (q0-r):=by
   clear hn;rcases hrout with h | h
   ·have:Uj (q0-r)=q0-r:=by unfold Uj; split <;> grind
    rw [this]; grind
   ·have:Uj (q0-r)=r-q0:=by unfold Uj; split <;> grind
    rw [this]; grind
  have hq0R:Uj q0<=R0:=Qdj r1 r2 q1 q2;refine ⟨q0,r,by clear hn; grind,by clear hn; grind,hqr,?_,q5,hpe⟩;have h1:Uj (q0-r)<=x.hi-x.lo:=by rw [Tz]; clear hn; constructor <;> grind
  exact Zg (Zb h1 hpow) hw
 ·exact hw
theorem Za3 {p q:List Int} {l:List (List Int)} (hp:Ud p) (np:p.length<=9) (lp:2<=p.length) (hS:Stm (cz q) (l.map cz)) (hpq:Is (cz q) (cz p)) {a:Tm} (ha:Va a) {s:Int} (hnz:NZ (cz p) (Uq a) s) {D M:Nat} (hM:0<M):∀ (j i:Nat) (x:Tm) (k:Nat) (W:Rat),i+1<=j->Hv a D M k x->Uh (D:Int)+Uh (M:Int)+(k+j)<=16777216->x.hi-x.lo<=W->W*((2^(H6 a.p p+1):Nat):Rat)<=((2^i:Nat):Rat)->∃ u k',sgF l j x=some u/\Hv a D M k' u/\(u.point=true\/Ho l u.lo u.hi=0)
 | 0,i,x,k,W,h,_,_,_,_=>by omega
 |
  j+1,i,x,k,W,hj,hx,hs,hW,hK=>by
  simp only [sgF];by_cases h:x.point=true\/Ho l x.lo x.hi=0
  ·rw [if_pos h]; exact ⟨x,k,rfl,hx,h⟩
  ·rw [if_neg h];obtain ⟨v,v1,v2,v3,_⟩:=Qpk hx hM (by omega);rw [v1];show ∃ u k',sgF l j v=some u/\_;have hpt:¬x.hi<=x.lo:=λh'=>h (.inl (P8.2 h'))
   have hl:x.lo<x.hi:=by grind
   have hvv:vv (l.map cz) x.lo≠vv (l.map cz) x.hi:=λh'=>h (.inr (by rw [Aq (Qr hl)]; omega))
   have hg:=Zke hp np lp hS hpq ha hnz hx hl hvv;have hpow:(0:Rat)<=((2^(H6 a.p p+1):Nat):Rat):=Xi;have hd:∀ x:Rat,x / 2*2=x:=λx=>Fq (by decide)
   cases i with
   |
    zero =>
    exfalso;rw [Y3] at hK;have:=Zb hW hpow;have h7:((1:Nat):Rat)=1:=rfl;rw [h7] at hK;grind
   |
    succ i =>
    refine Za3 hp np lp hS hpq ha hnz hM j i v (k+1) (W / 2) (by omega) v2 (by omega) ?_ ?_
    ·have:=hd (x.hi-x.lo); have:=hd W; grind
    ·rw [Qt0 i] at hK;have:=hd W;have:W / 2*((2^(H6 a.p p+1):Nat):Rat)*2=W*((2^(H6 a.p p+1):Nat):Rat):=by grind
     grind
theorem Qtu {x y:Rat}:∀ {ws:List (List Rat)},(∀ w∈ws,Un (ev w x)=Un (ev w y))->Un (ev (E5 ws) x)=Un (ev (E5 ws) y)
 | [],_=>by simp only [E5]; rw [Hg,Hg]
 |
  w::l,h=>by
  simp only [E5];rw [Ug,Ug,Rh,Rh,h w (Qt ..),Qtu λv hv=>h v (Qi _ hv)]
theorem Q34 {p q o:List Int} (hpt:Parts p q o) (tp:Ud p) (hp:p.length≠0) {L:List (List Rat)} (hS:Stm (cz q) L) {x y:Rat} (hxy:x<y) (hv:vv L x=vv L y):∃ s,s≠0/\∀ z,x<z->z<=y->Un (Uf p z)=s:=by
 obtain ⟨ws,w1,w2⟩:=hpt.ws;obtain ⟨_,_,_,_,_,p6,p7⟩:=Mp tp hp;have key:∀ z,x<z->z≤y->∀ w∈ws.map cz,Sm w x z:=λz h1 h2 w hw=>by
  obtain ⟨v,hv',rfl⟩:=Zc.1 hw;obtain ⟨u,hu⟩:=(w1 v hv').2;have a1:=D2 hS h1;have a2:vv L y<=vv L z:=by
   rcases Classical.em (z=y) with e | e
   ·rw [e]; exact Qn _
   ·exact D2 hS (by grind)
  exact Qbu hS hu h1 (by omega)
 have hval:∀ z,Uf p z=(Ga p:Rat)*ev (E5 (ws.map cz)) z:=λz=>by rw [p7,w2]
 refine ⟨Un (Uf p y),λh0=>?_,λz h1 h2=>?_⟩
 ·rw [hval,Rh] at h0;rcases J8.1 h0 with h | h
  ·exact Ob p6 (U9.1 h)
  ·have:∀ l:List (List Rat),(∀ w∈l,Un (ev w y)≠0)->Un (ev (E5 l) y)≠0:=by
    intro l
    induction l with
    | nil=>intro _; simp only [E5]; rw [Hg]; decide
    |
     cons w l ih =>
     intro h;simp only [E5];rw [Ug,Rh];exact X9 (h w (Qt ..)) (ih λv hv=>h v (Qi _ hv))
   refine this _ (λw hw=>?_) h;have hs:=key y hxy Qq w hw;rw [hs.s]; exact hs.n
 ·rw [hval,hval,Rh,Rh,Qtu (y:=y) λw hw=>(key z h1 h2 w hw).s.trans (key y hxy Qq w hw).s.symm]
theorem Zjf {g p P:List Int} {c:Rat->Int} (hc:Cut c) (hg:Gc g p P):Ek (cz g) c↔Ek (cz p) c/\Ek (cz P) c:=by
 constructor
 ·intro h;obtain ⟨u,hu⟩:=hg.da;obtain ⟨v,hv⟩:=hg.db;exact ⟨Tn hc hu h,Tn hc hv h⟩
 ·rintro ⟨h1,h2⟩
  obtain ⟨U,V,hcc⟩:=hg.c;have a1:Ek (Fh U (cz p)) c:=Tn hc (p:=cz p) (q:=U) (λt=>by rw [Ug]; grind) h1;have a2:Ek (Fh V (cz P)) c:=Tn hc (p:=cz P) (q:=V) (λt=>by rw [Ug]; grind) h2;exact Qil (λt=>by rw [Uc,hcc,Ug,Ug,Uc,Uc]) a1 a2
theorem Zbb {p:List Int} (hp:Okp 9 1180 p) {a:Tm} (ha:Va a):∃ s,Qee p a=some s/\SgT p a s:=by
 unfold Qee;rw [if_neg hp.nz];have ca:=ha.cut;by_cases pa:a.point=true
 ·rw [if_pos pa];exact ⟨_,rfl,Zkd ca (x:=a.lo) (by rw [Qxi ha pa,Ni])⟩
 rw [if_neg pa];have pa:a.point=false:=by simpa using pa
 obtain ⟨L,V⟩:=ha.iv pa;have eqa:∀ q,Uq a q=cq (cz a.p) a.lo a.hi q:=Mg V.l;obtain ⟨g,g1,g2,g3,g4⟩:=Q8h Zm0 hp.t ha.tr hp.l ha.n (W7 hp.b (by omega)) (ha.bi pa) hp.nz;obtain ⟨u',hu'⟩:=g2.db;have hhas:=V.has hu' (a:=a.lo) (b:=a.hi) Qq V.l Qq;have hvan:=Zjf ca g2;rw [show cq (cz a.p) a.lo a.hi=Uq a from (funext eqa).symm] at hhas;rw [g1];show ∃ s,(if 1<g.length/\Qdh g a.lo a.hi=true then some 0 else _)=some s/\_;by_cases hh:Qdh g a.lo a.hi=true
 ·have hq:=(Qdi g _ _).1 hh;rw [if_pos ⟨Qsq g2.t g2.n hq,hh⟩];exact ⟨0,rfl,.inl ⟨rfl,(hvan.1 (hhas.1 hq).1).1⟩⟩
 ·rw [if_neg λh=>hh h.2];have hnv:¬Ek (cz p) (Uq a):=λh=>hh ((Qdi g _ _).2 (hhas.2 ⟨hvan.2 ⟨h,ha.van⟩,by rw [eqa]; exact Da Qq,by rw [eqa]; exact V.hi1⟩))
  rcases Qag ca (cz p) with h | ⟨s,hs0,hnz⟩
  ·exact absurd h hnv
  obtain ⟨q,o,q1,q2,hpt⟩:=Q9k hp;obtain ⟨q',l,r1,r2,hS,hl0⟩:=chain_ok hp;rw [q1] at r1;injection r1 with r1;subst r1;rw [r2];show ∃ s,((sgF (q::l) (64+2*(Uh a.lo.num+Uh a.hi.num)+4*(a.p.length+p.length)*(Fj a.p+Fj p+(a.p.length+p.length)+8)) a).bind λx=>some (Ft p x.hi))=some s/\_;obtain ⟨w,hw⟩:=nmE (Uh a.lo.num+Uh a.hi.num);obtain ⟨K,hK⟩:=nmE (Fj a.p+Fj p+(a.p.length+p.length)+8);obtain ⟨n,hn⟩:=nmE (a.p.length+p.length);rw [<-hw,<-hK,<-hn];obtain ⟨gg,sq⟩:=hpt.sq;obtain ⟨_,_,_,_,_,pf0,pfe⟩:=Mp hp.t hp.nz;have hpq:Is (cz q) (cz p):=⟨Nz (Ga p) (cz gg),λt=>by rw [Uc,Uc,U0,Uc,pfe,sq.e]; grind⟩;obtain ⟨D,M,k,h1,h2,h3⟩:=ha.hv0;have b1:=ha.qs.1.1; have b2:=ha.qs.2.1;have l1:=ha.n; have l2:=hp.l; have l3:=ha.n2;have s1:=Ac (ha.bi pa); have s2:=Ac hp.b;have hst:4*n*K<=4*18*2466:=Zy (by omega) (by omega);have hend:∃ u k',sgF (q::l) (64+2*w+4*n*K) a=some u/\Hv a D M k' u/\(u.point=true\/Ho (q::l) u.lo u.hi=0):=by
   by_cases hpl:p.length<2
   ·have hq1:(Ui p)=[1]:=hp.pr.1.one (by have:=hp.pr.2.1; omega);have hql:q.length<2:=by
     have e:=sq.e;rw [hq1] at e;obtain ⟨p1,p2⟩:=Hi (c:=[1]) rfl (by simp) e;have:=Sl sq.pg.t sq.pq.t (c:=[1]) rfl e p1 p2;simp at this; omega
    have hbt:Ho (q::l) a.lo a.hi=0:=by
     rw [Aq (Qr V.l),hl0 hql,sq.pq.one hql];have hv1:∀ x:Rat,ev (cz [1]) x=1:=λx=>by rw [Uc,Ph]
     simp only [Zv,X2,vv,tc,hv1]; omega
    refine ⟨a,k,?_,h1,.inr hbt⟩;obtain ⟨m,hm⟩:∃ m,64+2*w+4*n*K=m+1:=⟨63+2*w+4*n*K,by omega⟩;rw [hm];simp only [sgF];rw [if_pos (.inr hbt)]
   ·have hg:H6 a.p p=K*(2*(n-2)-1):=by unfold H6; rw [hK,hn]
    have hgle:H6 a.p p+5*K<=2*n*K:=by
     rw [hg,Zi K,<-Jg];exact Q0 _ (by omega)
    have hKp:8<=K:=by omega
    have hnK:2*n*K<=4*n*K:=Q0 _ (by omega);obtain ⟨u,k',u1,u2,u3⟩:=Za3 hp.t hp.l (by omega) hS hpq ha hnz h2 (64+2*w+4*n*K) (2+w+2*n*K) a k ((2^(w+1):Nat):Rat) (by omega) h1 (by omega) (Qgf (by omega)) (by
     have e:(2^(w+1))*(2^(H6 a.p p+1))<=2^(2+w+2*n*K):=by
      rw [<-Xa];exact Zu (by decide) (by omega)
     have:=Zh.2 e
     push_cast at this ⊢
     exact this)
    exact ⟨u,k',u1,u2,u3⟩
  obtain ⟨u,k',u1,u2,u3⟩:=hend;rw [u1];refine ⟨_,rfl,.inr ?_⟩;have hfin:Ft p u.hi=s:=by
   rcases u2.hi' with hz | hz
   ·have:=Qti ca hz hnz;rw [S8,<-Uc]; exact this
   ·rcases u2.i with ⟨e,_⟩ | ⟨L',V'⟩
    ·have:=u2.c u.hi;rw [Ld e,e,Ni] at this; omega
    ·have hup:u.point=false:=by
      have:¬u.point=true:=λh=>by have:=P8.1 h; have:=V'.l; grind
      simpa using this
     rcases u3 with h | h
     ·rw [hup] at h; cases h
     ·rw [Aq (Qr V'.l)] at h;obtain ⟨s',hs',hps⟩:=Q34 hpt hp.t hp.nz hS V'.l (by omega);obtain ⟨d,dp,x,y,hx,hy,hq⟩:=hnz;have hlo1:Uq a u.lo=1:=by
       rcases u2.lo' with h | ⟨_,h⟩
       ·exact h
       ·have:=V'.l; clear hps hq; grind
      obtain ⟨m,m1,m2,m3⟩:=Qjb ca hlo1 hx;have e1:=(hq m (Qr m3) (Qr (ca.lt m1 hy))).1;have e2:=hps m m2 (Qr (ca.lt m1 hz));have e3:=hps u.hi V'.l Qq;rw [S8,e3,<-e2,<-Uc,e1]
  rw [hfin]; exact ⟨hs0,hnz⟩
structure Dp (p:List Int):Prop where
 t:Ud p
 l:p.length<=9
 b:Bd (1130+4*(9-p.length)) p
theorem Q02:Szz 9 1253:=⟨by decide,by decide⟩
theorem Dp.ok {p:List Int} (h:Dp p) (h0:p.length≠0):Okp 9 1180 p:=⟨Q02,h.t,h0,h.l,W7 h.b (by omega)⟩
theorem Dp.der {p:List Int} (h:Dp p):Dp (U8 p):=by
 have hl:=Tt p;have hl2:=h.l;refine ⟨Uw _ _,by omega,?_⟩;by_cases h0:p.length=0
 ·rw [Qk (l:=U8 p) (by omega)]; exact Iw
 ·exact W7 (Qva h.b (by omega)) (by omega)
def Pv (a:Tm) (p:List Int):Int:=(Qee p a).getD 0
theorem Za1 {p:List Int} (h:Dp p) {a:Tm} (ha:Va a):Qee p a=some (Pv a p)/\SgT p a (Pv a p):=by
 by_cases h0:p.length=0
 ·have e:p=[]:=Qk h0;subst e;refine ⟨rfl,.inl ⟨rfl,λd dp=>?_⟩⟩;obtain ⟨x,y,h1,h2,_⟩:=ha.cut.near (e:=1) (by decide);exact ⟨x,y,h1,h2,λq _ _=>by simp only [cz,X2,ev,Gz]; exact dp⟩
 ·obtain ⟨s,h1,h2⟩:=Zbb (h.ok h0) ha;have e:Pv a p=s:=by unfold Pv; rw [h1]; rfl
  rw [e]; exact ⟨h1,h2⟩
theorem Zkb {c:Rat->Int} {p q:List Rat} {s:Int} (h:∀ t,ev p t=ev q t) (hp:RS p c s):RS q c s:=by
 obtain ⟨y,h1,h2⟩:=hp;exact ⟨y,h1,λz h3 h4=>by rw [<-h]; exact h2 z h3 h4⟩
theorem Qm8 {a:Tm} (ha:Va a):∀ (k:Nat) (p:List Int),Dp p->p.length<=k->p.length≠0->RS (cz p) (Uq a) (Hr (Pv a) k p)/\Hr (Pv a) k p≠0
 | 0,p,_,h1,h2=>by omega
 |
  k+1,p,h,h1,h2=>by
  simp only [Hr];rw [if_neg h2];obtain ⟨_,hs⟩:=Za1 h ha;rcases hs with ⟨e,hv⟩ | ⟨e,hn⟩
  ·rw [if_pos e];have hdn:(U8 p).length≠0:=λh0=>by
    by_cases h3:p.length=1
    ·obtain ⟨c,rfl⟩:∃ c,p=[c]:=Kb.1 h3;have hc:c≠0:=by have:=Gp h.t (by simp); simpa using this
     obtain ⟨q,hq,_⟩:=Qte ha.cut (hv (Uj (c:Rat)) (Mr (Ob hc)));rw [Uc] at hq;have:Uf [c] q=(c:Rat):=by simp only [Uf]; grind
     rw [this] at hq; grind
    ·have h4:=P7 p (p.length-2);rw [Qk h0,show p.length-2+1=p.length-1 by omega] at h4;have h5:p.getD (p.length-1) 0≠0:=Gp h.t (by omega);rcases J8.1 (h4.symm.trans (by simp)) with h6 | h6
     ·exact h5 h6
     ·omega
   have hl:=Tt p;obtain ⟨i1,i2⟩:=Qm8 ha k (U8 p) h.der (by omega) hdn;exact ⟨Qqn ha.cut hv (Zkb (λt=>by rw [Uc,E6,Hp]) i1) i2,i2⟩
  ·rw [if_neg e]; exact ⟨Qnz ha.cut hn,e⟩
theorem Qz7 {a:Tm} (ha:Va a) {p:List Int} (h:Dp p) (h0:p.length≠0):RS (cz p) (Uq a) (Bj (Pv a) p)/\Bj (Pv a) p≠0:=Qm8 ha _ p h (Qn _) h0
theorem Ze0 {l:List Int}:∀ z∈l,z.natAbs≤most l:=by
 have key:∀ (l:List Int) (m:Nat),m≤l.foldl (λm z=>if m<z.natAbs then z.natAbs else m) m/\∀ z∈l,z.natAbs≤l.foldl (λm z=>if m<z.natAbs then z.natAbs else m) m:=by
  intro l
  induction l with
  | nil=>exact λm=>⟨Qn _,λz hz=>by cases hz⟩
  |
   cons y l ih =>
   intro m;obtain ⟨e,he⟩:=nmE (if m<y.natAbs then y.natAbs else m);have h1:m<=e/\y.natAbs<=e:=by rw [he]; split <;> omega
   obtain ⟨i1,i2⟩:=ih e;simp only [Z3];rw [<-he];refine ⟨by omega,λz hz=>?_⟩;rcases Qo.1 hz with rfl | hz
   ·omega
   ·exact i2 z hz
 exact (key l 0).2
theorem Qiu {p:List Int} (h:Um p≠0):Fg p*((Um p).natAbs:Rat)=((Um p).natAbs:Rat)+((most (p.take (p.length-1)):Nat):Rat):=by
 unfold Fg;rw [<-Gv];have hp:0<(Um p).natAbs:=by omega
 have:=nat_pos hp;rw [show ((((Um p).natAbs:Int)):Rat)=((Um p).natAbs:Rat) from rfl,Fq this];rw [V1]; rfl
theorem Qz3 {m:Nat} {x:Rat} (hx:1≤Uj x):∀ (p:List Int) (lp:p.length≠0),(∀ z∈p.take (p.length-1),z.natAbs≤m)->Um p≠0->(m:Rat)≤(Uj x-1)*((Um p).natAbs:Rat)->((Um p).natAbs:Rat)≤Uf p x*(((Int.sign (Um p))*(if x<0/\p.length % 2=0 then -1 else 1):Int):Rat)
 | [],lp,_,_,_=>absurd rfl lp
 |
  [c],_,_,hc,_=>by
  have hl:Um [c]=c:=rfl;rw [hl] at hc ⊢;rw [if_neg (by simp),K8];have h1:Uf [c] x=(c:Rat):=by simp only [Uf]; grind
  rw [h1];have h2:c*Int.sign c=(c.natAbs:Int):=Int.mul_sign_self c;have:=congrArg (λz:Int=>(z:Rat)) h2;rw [Xq] at this;rw [this]; exact Qq
 |
  c::d::p,_,hm,hc,hb=>by
  have hl:Um (c::d::p)=Um (d::p):=by unfold Um; simp [List.getD_cons_succ]
  have ih:=Qz3 hx (d::p) (by simp) (λz hz=>hm z (by
   have e:(c::d::p).take ((c::d::p).length-1)=c::(d::p).take ((d::p).length-1):=by simp
   rw [e]; exact Qi _ hz)) (by rw [<-hl]; exact hc) (by rw [<-hl]; exact hb)
  rw [hl] at hc hb ⊢;have hcm:=hm c (by simp);obtain ⟨s,hs⟩:∃ s:Int,s=Int.sign (Um (d::p)):=⟨_,rfl⟩;have hsv:s=1\/s=-1:=by
   rw [hs];rcases V2 hc with h | h
   ·exact .inr (Xu h)
   ·exact .inl (X4 h)
  rw [<-hs] at ih ⊢;obtain ⟨ld,hld⟩:∃ ld:Rat,ld=((Um (d::p)).natAbs:Rat):=⟨_,rfl⟩;rw [<-hld] at ih hb ⊢;have hcq:Uj (c:Rat)<=(m:Rat):=by rw [Ri]; exact Zh.2 hcm
  rw [Tz] at hcq;have e1:Uf (c::d::p) x=(c:Rat)+x*Uf (d::p) x:=rfl;rw [e1];have hlen:(c::d::p).length % 2=0↔¬(d::p).length % 2=0:=by simp only [Q7]; omega
  generalize Uf (d::p) x=y at *;generalize (m:Rat)=mm at *;generalize (c:Rat)=cc at *;have hx0:=hx;by_cases hneg:x<0
  ·have hq:Uj x=-x:=by unfold Uj; rw [if_pos hneg]
   rw [hq] at hx0 hb;by_cases hpar:(d::p).length % 2=0
   ·rw [if_pos ⟨hneg,hpar⟩] at ih;rw [if_neg λh=>(hlen.1 h.2) hpar];rcases hsv with rfl | rfl
    ·have ih:ld<=y*(-1):=by simpa using ih
     have:=Zw ih (show 0<=-x by grind);have e:(((1:Int)*1:Int):Rat)=1:=rfl;rw [e]; grind
    ·have ih:ld<=y*1:=by simpa using ih
     have:=Zw ih (show 0<=-x by grind);have e:(((-1:Int)*1:Int):Rat)=-1:=rfl;rw [e]; grind
   ·rw [if_neg λh=>hpar h.2] at ih;rw [if_pos ⟨hneg,hlen.2 hpar⟩];rcases hsv with rfl | rfl
    ·have ih:ld<=y*1:=by simpa using ih
     have:=Zw ih (show 0<=-x by grind);have e:(((1:Int)*-1:Int):Rat)=-1:=rfl;rw [e]; grind
    ·have ih:ld<=y*(-1):=by simpa using ih
     have:=Zw ih (show 0<=-x by grind);have e:(((-1:Int)*-1:Int):Rat)=1:=rfl;rw [e]; grind
  ·have hq:Uj x=x:=by unfold Uj; rw [if_neg hneg]
   rw [hq] at hx0 hb;rw [if_neg λh=>hneg h.1] at ih ⊢;rcases hsv with rfl | rfl
   ·have ih:ld<=y*1:=by simpa using ih
    have:=Zw ih (show 0<=x by grind);have e:(((1:Int)*1:Int):Rat)=1:=rfl;rw [e]; grind
   ·have ih:ld<=y*(-1):=by simpa using ih
    have:=Zw ih (show 0<=x by grind);have e:(((-1:Int)*1:Int):Rat)=-1:=rfl;rw [e]; grind
theorem Qve {p:List Int} (tp:Ud p) (lp:p.length≠0) {x:Rat} (hx:Fg p<=Uj x):1<=Uj (Uf p x)/\(0<=x->Ft p x=Qdc p)/\(x<0->Ft p x=Io p):=by
 have hl:=Ch tp lp;have hpos:0<(Um p).natAbs:=by omega
 have h1:(1:Rat)<=((Um p).natAbs:Rat):=by
  have:((1:Nat):Rat)<=((Um p).natAbs:Rat):=Zh.2 hpos;exact this
 have hm0:(0:Rat)<=((most (p.take (p.length-1)):Nat):Rat):=Xi;have hb:=Qiu hl;have hx1:=Zb hx (show (0:Rat)<=((Um p).natAbs:Rat) by grind);have hx2:1<=Uj x:=by
  rcases Ut 1 (Uj x) with h | h
  ·exact h
  ·exfalso;have:=Vm h (show (0:Rat)<((Um p).natAbs:Rat) by grind);grind
 have key:=Qz3 (m:=most (p.take (p.length-1))) hx2 p lp (λz hz=>Ze0 z hz) hl (by grind);obtain ⟨s,hs⟩:∃ s:Int,s=Int.sign (Um p)*(if x<0/\p.length % 2=0 then -1 else 1):=⟨_,rfl⟩;rw [<-hs] at key;have hsv:s=1\/s=-1:=by
  rw [hs];rcases V2 hl with h | h
  ·rw [Xu h]; split <;> simp
  ·rw [X4 h]; split <;> simp
 have hsg:Ft p x=s/\1<=Uj (Uf p x):=by
  rw [S8];rcases hsv with e | e
  ·rw [e] at key ⊢;have key:((Um p).natAbs:Rat)<=Uf p x:=by simpa using key
   exact ⟨G0.2 (by grind),by unfold Uj; rw [if_neg (by grind)]; grind⟩
  ·rw [e] at key ⊢;have key:((Um p).natAbs:Rat)<=Uf p x*(-1):=by simpa using key
   exact ⟨Ro.2 (by grind),by unfold Uj; rw [if_pos (by grind)]; grind⟩
 refine ⟨hsg.2,λh=>?_,λh=>?_⟩
 ·rw [hsg.1,hs,if_neg λh'=>by have:=h'.1; grind]; unfold Qdc; omega
 ·rw [hsg.1,hs]; unfold Io;by_cases he:p.length % 2=0
  ·rw [if_pos ⟨h,he⟩,if_pos he]; omega
  ·rw [if_neg λh'=>he h'.2,if_neg he]; omega
theorem Qae {f g:List Int->Int}:∀ {l:List (List Int)} (s:Nat×Int),(∀ p∈l,f p=g p)->l.foldl (Rz f) s=l.foldl (Rz g) s
 | [],s,_=>rfl
 |
  p::l,s,h=>by
  simp only [Z3];have e:Rz f s p=Rz g s p:=by unfold Rz; rw [h p (List.mem_cons_self ..)]
  rw [e]; exact Qae _ λq hq=>h q (Qi _ hq)
theorem Qzz:∀ (l:List (List Int)),(∀ p∈l,Ud p/\p.length≠0)->∃ X:Rat,0<X/\∀ x,X≤x->(∀ p∈l,Ft p x=Qdc p)/\∀ p∈l,Ft p (-x)=Io p
 | [],_=>⟨1,by decide,λx _=>⟨(λp hp=>by cases hp),(λp hp=>by cases hp)⟩⟩
 |
  p::l,h=>by
  obtain ⟨X,hX,hl⟩:=Qzz l λq hq=>h q (Qi _ hq)
  obtain ⟨tp,lp⟩:=h p (Qt ..);refine ⟨X+Uj (Fg p),by have:=Gl (Fg p); grind,λx hx=>?_⟩;have hb0:=Gl (Fg p);have hb1:Fg p<=Uj (Fg p):=by unfold Uj; split <;> grind
  obtain ⟨l1,l2⟩:=hl x (by grind);have e1:Uj x=x:=by unfold Uj; rw [if_neg (by grind)]
  have e2:Uj (-x)=x:=by rw [Ck,e1]
  refine ⟨λq hq=>?_,λq hq=>?_⟩
  ·rcases Qo.1 hq with rfl | hq
   ·exact (Qve tp lp (x:=x) (by rw [e1]; grind)).2.1 (by grind)
   ·exact l1 q hq
  ·rcases Qo.1 hq with rfl | hq
   ·exact (Qve tp lp (x:=-x) (by rw [e2]; grind)).2.2 (by grind)
   ·exact l2 q hq
theorem Qyd {q:List Int} {L:List (List Rat)} (hS:Stm (cz q) L) (tq:Ud q) (lq:q.length≠0) {x y:Rat} (hxy:x<y) (h:Fg q<=x\/y<=-Fg q) (hb:0<Fg q):vv L x=vv L y:=by
 rcases Classical.em (vv L x=vv L y) with e | e
 ·exact e
 ·exfalso;obtain ⟨r,r1,r2,r3⟩:=Qq0 hS hxy e (d:=1) (by decide);have:=(Qve tq lq (x:=r) (by rcases h with h | h <;> (unfold Uj; split <;> grind))).1;rw [Uc] at r3; grind
theorem Qe0 {p:List Int} (h:Um p≠0):1<=Fg p:=by
 have hb:=Qiu h;have hp:=nat_pos (show 0<(Um p).natAbs by omega);have hm0:(0:Rat)<=((most (p.take (p.length-1)):Nat):Rat):=Xi;rcases Ut 1 (Fg p) with h' | h'
 ·exact h'
 ·have:=Vm h' hp; grind
theorem Q4g {q:List Int} {l:List (List Int)} (hS:Stm (cz q) ((q::l).map cz)) (hl:∀ p∈q::l,Ud p/\p.length≠0):O6 (q::l)=(vv ((q::l).map cz) (-Fg q):Int)-(vv ((q::l).map cz) (Fg q):Int):=by
 obtain ⟨tq,lq⟩:=hl q (Qt ..);have hb:=Qe0 (Ch tq lq);obtain ⟨X,hX,hx⟩:=Qzz (q::l) hl;obtain ⟨h1,h2⟩:=hx (X+Fg q) (by grind);have e1:Mw Qdc (q::l)=vv ((q::l).map cz) (X+Fg q):=by
  rw [<-Ih]; unfold Mx Mw;rw [Qae (f:=Qdc) (g:=λp=>Ft p (X+Fg q)) (0,0) λp hp=>(h1 p hp).symm]
 have e2:Mw Io (q::l)=vv ((q::l).map cz) (-(X+Fg q)):=by
  rw [<-Ih]; unfold Mx Mw;rw [Qae (f:=Io) (g:=λp=>Ft p (-(X+Fg q))) (0,0) λp hp=>(h2 p hp).symm]
 unfold O6;rw [e1,e2,Qyd hS tq lq (x:=-(X+Fg q)) (y:=-Fg q) (by grind) (.inr Qq) (by grind),<-Qyd hS tq lq (x:=Fg q) (y:=X+Fg q) (by grind) (.inl Qq) (by grind)]
theorem Zju {f:List Rat} {L:List (List Rat)} (hS:Stm f L) {x y:Rat} (hxy:x<y) (hv:vv L y+2<=vv L x):∃ m,x<m/\m<y/\vv L m<vv L x/\vv L y<vv L m/\ev f m≠0:=by
 obtain ⟨R,hR,hx,hy⟩:=Qok x y;obtain ⟨e,ep,he⟩:=Zbx hS R hR;have key:∀ n:Nat,∀ x,Uj x<=R->x<y->vv L y+2<=vv L x->y-x<=(n:Rat)*e->∃ m,x<m/\m<y/\vv L m<vv L x/\vv L y<vv L m:=by
  intro n
  induction n with
  | zero=>intro x _ hxy _ hn; rw [show ((0:Nat):Rat)=0 from rfl] at hn; exfalso; clear he; grind
  |
   succ n ih =>
   intro x hx hxy hv hn;have hn':(((n+1:Nat):Rat))=(n:Rat)+1:=by push_cast; rfl
   rw [hn'] at hn;rcases Ut (y-x) e with h1 | h1
   ·have:=he x y hx hy hxy h1; omega
   ·have hm:Uj (x+e)<=R:=Qdj hx hy (by clear he ih; grind) (by clear he ih; grind);have h2:=he x (x+e) hx hm (by clear he ih; grind) (by clear he ih; grind);have h3:=D2 hS (show x<x+e by clear he ih; grind);by_cases h4:vv L x=vv L (x+e)
    ·obtain ⟨m,m1,m2,m3,m4⟩:=ih (x+e) hm (by clear he ih; grind) (by omega) (by clear he ih; grind);exact ⟨m,by clear he ih; grind,m2,by omega,m4⟩
    ·exact ⟨x+e,by clear he ih; grind,by clear he ih; grind,by omega,by omega⟩
 obtain ⟨n,hn⟩:=Iv (z:=y-x) ep;obtain ⟨m,m1,m2,m3,m4⟩:=key n x hx hxy hv hn;rcases Classical.em (ev f m=0) with h0 | h0
 ·-- a little farther on
  obtain ⟨e2,e2p,hl⟩:=loc hR hS (w:=f) (u:=[1]) (λt=>by rw [Hg]; grind);obtain ⟨d,dp,d1,d2⟩:=min2 (a:=e2) (b:=(y-m) / 2) e2p (Dd (by clear he key hl; grind) (by decide));have h2:(y-m) / 2*2=y-m:=Fq (by decide);have hmR:Uj m<=R:=Qdj hx hy (Qr m1) (Qr m2);have hmR2:Uj (m+d)<=R:=Qdj hx hy (by clear he key hl; grind) (by clear he key hl; grind);rcases hl m (m+d) hmR hmR2 (by clear he key hl; grind) (by clear he key hl; grind) with ⟨p1,p2,_⟩ | ⟨_,p1,_,p3,_⟩
  ·refine ⟨m+d,by clear he key hl; grind,by clear he key hl; grind,by omega,by omega,λh'=>?_⟩;have:=p2.s;rw [U9.2 h'] at this; exact p2.n this.symm
  ·rw [U9.2 h0] at p3; exact absurd p3.symm p1
 ·exact ⟨m,m1,m2,m3,m4,h0⟩
theorem Zgk {q:List Int} {L:List (List Rat)} (hS:Stm (cz q) L) (tq:Ud q) (nq:q.length<=9) (lq:2<=q.length) {lo hi:Rat} (hl:lo<hi) (hv:vv L hi+2<=vv L lo):1<(hi-lo)*((2^(H6 q q+1):Nat):Rat):=by
 rcases Ut ((hi-lo)*((2^(H6 q q+1):Nat):Rat)) 1 with hw | hw
 ·exfalso;have hpow:(0:Rat)<=((2^(H6 q q+1):Nat):Rat):=Xi;obtain ⟨m,m1,m2,m3,m4,m0⟩:=Zju hS hl hv;obtain ⟨R,hR,r1,r2⟩:=Qok lo hi;have hd:=Mr m0;obtain ⟨d,dp,_,db⟩:=Fu (b:=dqB R (cz q)) (d:=Uj (ev (cz q) m) / 2) (Su hR _) (Dd hd (by decide));have hd2:Uj (ev (cz q) m) / 2*2=Uj (ev (cz q) m):=Fq (by decide);have hmR:Uj m<=R:=Qdj r1 r2 (Qr m1) (Qr m2);have hnear:∀ r,Uj r<=R->Uj (ev (cz q) r)<Uj (ev (cz q) m) / 2->d<Uj (r-m):=λr hr hs=>by
   rcases Ut (Uj (r-m)) d with h | h
   ·exfalso;have h1:=Tu (p:=cz q) hmR hr hR h db;have h2:=Re (ev (cz q) m-ev (cz q) r) (ev (cz q) r);rw [show ev (cz q) m-ev (cz q) r+ev (cz q) r=ev (cz q) m by grind,Q1m] at h2;grind
   ·exact h
  refine Q78 (R:=R+1) (d:=d+d) tq tq nq nq lq lq (by grind) (by grind) λe ep=>?_
  obtain ⟨e',ep',e1,e2⟩:=min2 (a:=e) (b:=Uj (ev (cz q) m) / 2) ep (Dd hd (by decide));obtain ⟨x,x1,x2,x3⟩:=Qq0 hS m1 (by omega) ep';obtain ⟨y,y1,y2,y3⟩:=Qq0 hS m2 (by omega) ep';have hxR:Uj x<=R:=Qdj r1 r2 x1 (by grind);have hyR:Uj y<=R:=Qdj r1 r2 (by grind) y2;have nx:=hnear x hxR (by grind);have ny:=hnear y hyR (by grind);have ex:Uj (x-m)=m-x:=by unfold Uj; split <;> grind
  have ey:Uj (y-m)=y-m:=by unfold Uj; split <;> grind
  rw [ex] at nx;rw [ey] at ny;have exy:Uj (x-y)=y-x:=by unfold Uj; split <;> grind
  refine ⟨x,y,by grind,by grind,by rw [exy]; grind,?_,by rw [<-Uc]; grind,by rw [<-Uc]; grind⟩;rw [exy];exact Zg (Zb (show y-x<=hi-lo by grind) hpow) hw
 ·exact hw
theorem Q7b:∀ {k:Nat} {a b:List Int} {l:List (List Int)},chF k a b=some l->∀ p∈l,p.length≠0
 | 0,_,_,_,h=>by cases h
 |
  k+1,a,b,l,h=>by
  simp only [chF] at h
  split at h
  ·injection h with h; subst h; exact λp hp=>by cases hp
  ·rename_i h0;obtain ⟨r,_,h⟩:=Qf.1 h;obtain ⟨l',h1,h⟩:=Qf.1 h;injection h with h; subst h;intro p hp;rcases Qo.1 hp with rfl | hp
   ·exact h0
   ·exact Q7b h1 p hp
theorem Okp.pb {n s:Nat} {p:List Int} (h:Okp n s p) (hs:s<=16777216):Pb p:=⟨h.t,by have:=h.l; have:=h.z.1; omega,W7 h.b hs⟩
theorem Q23 {p:List Int} {q:List Int} {l:List (List Int)} (hp:Pb p) (h:C7 p=some (q::l)) (hq:q.length≠0):∀ r∈q::l,Ud r/\r.length≠0:=by
 have h1:=(Orr.chain_ok hp h).2;unfold C7 at h;obtain ⟨a,_,h⟩:=Qf.1 h
 split at h
 ·cases h
 ·obtain ⟨d,_,h⟩:=Qf.1 h;obtain ⟨l',h3,h⟩:=Qf.1 h;injection h with h;injection h with e1 e2;subst e1; subst e2;intro r hr;refine ⟨(h1 r hr).t,?_⟩;rcases Qo.1 hr with rfl | hr
  ·exact hq
  ·exact Q7b h3 r hr
inductive RI (q:List Int) (L:List (List Rat)):Rat->List Tm->Rat->Prop
 | nil {lo hi:Rat} (h:lo<=hi) (hv:vv L lo=vv L hi):RI q L lo [] hi
 | cons {lo hi:Rat} {t:Tm} {l:List Tm} (h:lo<=t.lo) (hv:vv L lo=vv L t.lo) (ht:Vt (cz q) L t.lo t.hi) (hp:t.p=q) (hl:RI q L t.hi l hi):RI q L lo (t::l) hi
theorem RI.app {q:List Int} {L:List (List Rat)} {lo m hi:Rat} {l l':List Tm} (h:RI q L lo l m) (h':RI q L m l' hi):RI q L lo (l++l') hi:=by
 induction h with
 |
  nil h hv =>
  cases h' with
  | nil h2 hv2=>exact .nil (by grind) (by omega)
  | cons h2 hv2 ht hp hl=>exact .cons (by grind) (by omega) ht hp hl
 | cons h hv ht hp _ ih=>exact .cons h hv ht hp (ih h')
theorem Q7d {D M k:Nat} {m:Rat} (h:Gr D M k m) (hM:0<M) (hs:Uh (D:Int)+Uh (M:Int)+k<=16777216):chq m=some m:=by
 have:=Qz8 h hM hs;unfold chq;rw [if_pos ⟨this.1,this.2⟩]
theorem Qh9 {q:List Int} {c:List (List Int)} (hS:Stm (cz q) (c.map cz)) (tq:Ud q) (nq:q.length<=9) (hc1:q.length<2->c=[q]) {D M F:Nat} (hM:0<M):∀ (k j:Nat) (lo hi:Rat),lo<hi->Gr D M j lo->Gr D M j hi->Uh (D:Int)+Uh (M:Int)+(j+k)<=16777216->(hi-lo)*((2^(H6 q q+1):Nat):Rat)<=((2^k:Nat):Rat) ->
 ∃ l,Dv q c (F+k+1) lo hi ((vv (c.map cz) lo:Int)-(vv (c.map cz) hi:Int))=some l/\RI q (c.map cz) lo l hi/\∀ t∈l,∃ k',k'≤j+k/\Gr D M k' t.lo/\Gr D M k' t.hi:=by
 intro k
 induction k with
 |
  zero =>
  intro j lo hi hl g1 g2 hs hK;have hle:=D2 hS hl;have h2:vv (c.map cz) lo<vv (c.map cz) hi+2:=by
   rcases Q9 (vv (c.map cz) lo) (vv (c.map cz) hi+2) with h | h
   ·exact h
   ·exfalso;have lq:2<=q.length:=by
     rcases Q9 q.length 2 with e | e
     ·have hvv:∀ x,vv (c.map cz) x=vv (c.map cz) 0:=λx=>by
       rcases hS with ⟨c0,hc0,hcc,hl'⟩ | ⟨g',l',k',hk,hg,hsc,hl'⟩
       ·rw [hl']; simp only [vv,tc,hcc]
       ·rw [hc1 e] at hl'; cases hl'
      rw [hvv lo,hvv hi] at h; omega
     ·exact e
    have:=Zgk hS tq nq lq hl h;rw [Y3] at hK;have h7:((1:Nat):Rat)=1:=rfl;rw [h7] at hK; grind
  simp only [Dv];by_cases e0:vv (c.map cz) lo=vv (c.map cz) hi
  ·rw [if_pos (by omega)];exact ⟨[],rfl,.nil (Qr hl) e0,λt ht=>by cases ht⟩
  ·rw [if_neg (by omega),if_pos (by omega)];refine ⟨[⟨q,lo,hi⟩],rfl,.cons Qq rfl ⟨hS,hl,by show vv _ lo=vv _ hi+1; omega⟩ rfl (.nil Qq rfl),λt ht=>?_⟩;rw [Qm.1 ht]; exact ⟨j,by omega,g1,g2⟩
 |
  succ k ih =>
  intro j lo hi hl g1 g2 hs hK;have hle:=D2 hS hl;show ∃ l,(if (vv (c.map cz) lo:Int)-(vv (c.map cz) hi:Int)=0 then some [] else if (vv (c.map cz) lo:Int)-(vv (c.map cz) hi:Int)=1 then some [⟨q,lo,hi⟩] else (chq (mid lo hi)).bind λm=>(Dv q c (F+k+1) lo m (Ho c lo m)).bind λl=>(Dv q c (F+k+1) m hi ((vv (c.map cz) lo:Int)-(vv (c.map cz) hi:Int)-Ho c lo m)).bind λr=>some (l++r))=some l/\_;by_cases e0:vv (c.map cz) lo=vv (c.map cz) hi
  ·rw [if_pos (by omega)];exact ⟨[],rfl,.nil (Qr hl) e0,λt ht=>by cases ht⟩
  by_cases e1:vv (c.map cz) lo=vv (c.map cz) hi+1
  ·rw [if_neg (by omega),if_pos (by omega)];refine ⟨[⟨q,lo,hi⟩],rfl,.cons Qq rfl ⟨hS,hl,e1⟩ rfl (.nil Qq rfl),λt ht=>?_⟩;rw [Qm.1 ht]; exact ⟨j,by omega,g1,g2⟩
  ·rw [if_neg (by omega),if_neg (by omega)];obtain ⟨m,hm⟩:=nmE ((lo+hi) / 2);have h2:(lo+hi) / 2*2=lo+hi:=Fq (by decide);rw [<-hm] at h2;have gm:Gr D M (j+1) m:=by rw [hm]; exact Q8m g1 g2
   have l1:lo<m:=by grind
   have l2:m<hi:=by grind
   rw [Qw1,<-hm,Q7d gm hM (by omega)];show ∃ l,((Dv q c (F+k+1) lo m (Ho c lo m)).bind λl=>(Dv q c (F+k+1) m hi ((vv (c.map cz) lo:Int)-(vv (c.map cz) hi:Int)-Ho c lo m)).bind λr=>some (l++r))=some l/\_;rw [Aq (Qr l1),show (vv (c.map cz) lo:Int)-(vv (c.map cz) hi:Int)-((vv (c.map cz) lo:Int)-(vv (c.map cz) m:Int))=(vv (c.map cz) m:Int)-(vv (c.map cz) hi:Int) by omega];rw [Qt0 k] at hK;have hp:∀ x y:Rat,(y-x)*2=hi-lo->(y-x)*((2^(H6 q q+1):Nat):Rat)<=((2^k:Nat):Rat):=λx y h=>by
    have:(y-x)*((2^(H6 q q+1):Nat):Rat)*2=(hi-lo)*((2^(H6 q q+1):Nat):Rat):=by rw [<-h]; grind
    grind
   obtain ⟨la,a1,a2,a3⟩:=ih (j+1) lo m l1 (Qm9 g1) gm (by omega) (hp lo m (by grind));obtain ⟨lb,b1,b2,b3⟩:=ih (j+1) m hi l2 gm (Qm9 g2) (by omega) (hp m hi (by grind));rw [a1];show ∃ l,((Dv q c (F+k+1) m hi ((vv (c.map cz) m:Int)-(vv (c.map cz) hi:Int))).bind λr=>some (la++r))=some l/\_;rw [b1];refine ⟨la++lb,rfl,a2.app b2,λt ht=>?_⟩;rcases Qx.1 ht with ht | ht
   ·obtain ⟨k',h1,h2,h3⟩:=a3 t ht; exact ⟨k',by omega,h2,h3⟩
   ·obtain ⟨k',h1,h2,h3⟩:=b3 t ht; exact ⟨k',by omega,h2,h3⟩
theorem Zjj {D M k:Nat} {q:Rat} (h:Gr D M k q):Gr D M k (-q):=by
 obtain ⟨u,hu⟩:=h.u;exact ⟨⟨-u,by rw [Vd,<-hu]; grind⟩,by rw [Ck]; exact h.b,h.d⟩
theorem Qsz {m s:Nat} (h:m<2^s):Uh ((m+1:Nat):Int)<=s+1:=by
 rw [Rl,Z7,Zn]; omega
theorem Q3r {z:Int} {s:Nat} (h:Uh z<=s):Uh ((z.natAbs+1:Nat):Int)<=s+1:=Qsz (Rl.1 h)
theorem Zga {x:Rat} {m s g N:Nat} (hx:x<=2*((m+1:Nat):Rat)) (hm:m+1<=2^s) (hN:s+1+g<=N):x*((2^g:Nat):Rat)<=((2^N:Nat):Rat):=by
 have h3:=Zh.2 hm;have e:=Qt0 s;have h4:(0:Rat)<=((2^s:Nat):Rat):=Xi;have h1:x<=((2^(s+1):Nat):Rat):=by rw [e]; grind
 have h5:(0:Rat)<=((2^g:Nat):Rat):=Xi;refine Zg (Zb h1 h5) ?_;have h6:2^(s+1)*2^g<=2^N:=by
  rw [<-Xa]; exact Zu (by decide) hN
 have:=Zh.2 h6;rw [Rat.natCast_mul] at this;exact this
theorem Zcn {s:Nat} {l:List Int} (h:Bd s l):most l<2^s:=by
 have key:∀ (l:List Int) (m:Nat),m<2^s->Bd s l->l.foldl (λm z=>if m<z.natAbs then z.natAbs else m) m<2^s:=by
  intro l
  induction l with
  | nil=>exact λm h _=>h
  |
   cons y l ih =>
   intro m hm hb;simp only [Z3];refine ih _ ?_ λz hz=>hb z (Qi _ hz)
   have:=hb y (Qt ..);rw [Rl] at this
   split <;> assumption
 exact key l 0 (Zz (by decide)) h
theorem Zix {p q:List Int} (h:chk p=some q):q=p:=by
 unfold chk at h
 split at h
 ·injection h with h; exact h.symm
 ·cases h
theorem Zao {s:Nat} {p:List Int} (hs9:s≤1180) (h:Okp 9 s p):∃ q c l,Tl p=some q/\C7 p=some c/\Qk5 p=some l/\Stm (cz q) (c.map cz)/\RI q (c.map cz) (-Fg q) l (Fg q)/\(∀ t∈l,Va t)/\(∀ x y,x<y->Fg q≤x\/y≤-Fg q->vv (c.map cz) x=vv (c.map cz) y)/\q.length≤p.length/\∀ t∈l,t.p=q/\t.lo<t.hi/\Bd (s+69) q/\∃ D M k,Gr D M k t.lo/\Gr D M k t.hi/\0<M/\Uh (D:Int)≤s+69/\Uh (M:Int)≤s+70/\k≤63*s+5160:=by
 obtain ⟨pp,hpl,hpb⟩:=h.pr;obtain ⟨g,q',hq',sq⟩:=Qa5 h;obtain ⟨q,l,q1,q2,hS,hl0⟩:=chain_ok h;rw [hq'] at q1;injection q1 with q1;subst q1;have e1:∀ t,Uf (Ui p) t=Uf q' t*Uf g t:=λt=>by rw [sq.e]; grind
 obtain ⟨p1,p2⟩:=Hi pp.t pp.n e1;have hch:chF 66 q' (Ui (U8 q'))=some l:=by
  have h2:=q2;unfold C7 at h2;rw [hq'] at h2;simp only [Je] at h2
  split at h2
  ·cases h2
  ·cases hd:chk (U8 q') with
   | none=>rw [hd] at h2; cases h2
   |
    some d =>
    rw [hd] at h2;simp only [Je] at h2;obtain rfl:d=U8 q':=Zix hd;cases hc:chF 66 q' (Ui (U8 q')) with
    | none=>rw [hc] at h2; cases h2
    | some l'=>rw [hc] at h2; simp at h2; rw [h2]
 have hll:=Sl sq.pq.t sq.pg.t pp.t e1 p1 p2;have hl9:=h.l;have bq:Bd (s+69) q':=I7 hpb (by omega) pp.t sq.pq.t sq.pg.t pp.n e1;have hall:=Q23 (h.pb (by omega)) q2 sq.pq.n;have hld:Um q'≠0:=by have:=sq.pq.l; omega
 have hb1:=Qe0 hld;obtain ⟨D,hD⟩:=nmE ((Um q').natAbs);obtain ⟨m,hm⟩:=nmE (most (q'.take (q'.length-1)));have hm2:m<2^(s+69):=by rw [hm]; exact Zcn (s:=s+69) λz hz=>bq z (Ql hz)
 have hD0:0<D:=by omega
 have hDs:Uh (D:Int)<=s+69:=by
  have:=S0 bq;rw [Rl] at this ⊢;rw [Z7,hD]; exact this
 have hbe:=Qiu hld;rw [<-hD,<-hm] at hbe;have hDq:=nat_pos hD0;have hbm:Fg q'<=((m+1:Nat):Rat):=by
  have hD1:(1:Rat)<=(D:Rat):=by
   have:((1:Nat):Rat)<=(D:Rat):=Zh.2 hD0;exact this
  have hm0:(0:Rat)<=(m:Rat):=Xi;have h3:=Ml (a:=(m:Rat)) (c:=1) hm0 Qq (by decide) hD1;rcases Ut (Fg q') ((m+1:Nat):Rat) with h' | h'
  ·exact h'
  ·exfalso;have:=Vm h' hDq
   push_cast at this; grind
 have gb:Gr D (m+1) 0 (Fg q'):=by
  refine ⟨⟨(D+m:Nat),?_⟩,?_,hD0⟩
  ·rw [Y3,Yn,hbe];rw [show ((((D+m:Nat):Int)):Rat)=((D+m:Nat):Rat) from rfl]; push_cast; rfl
  ·have:Uj (Fg q')=Fg q':=by unfold Uj; rw [if_neg (by grind)]
   rw [this]; exact hbm
 have hMs:Uh ((m+1:Nat):Int)<=s+69+1:=Qsz (s:=s+69) hm2;have hK:(Fg q' - -Fg q')*((2^(H6 q' q'+1):Nat):Rat)<=((2^(63*s+5160):Nat):Rat):=by
  have hps:=Ac bq;have hg:H6 q' q'<=(2*s+164)*31:=by
   unfold H6;exact Zy (by omega) (by omega)
  exact Zga (s:=s+69) (g:=H6 q' q'+1) (N:=63*s+5160) (by grind) hm2 (by omega)
 have hN:Uh (D:Int)+Uh ((m+1:Nat):Int)+(0+(63*s+5160))<=16777216:=by omega
 obtain ⟨ls,r1,r2,r3⟩:=Qh9 (F:=99999-(63*s+5160)) hS sq.pq.t (by omega) (λh=>by rw [hl0 h]) (Wq m) (63*s+5160) 0 (-Fg q') (Fg q') (by grind) (Zjj gb) gb hN hK;rw [show 99999-(63*s+5160)+(63*s+5160)+1=100000 by omega] at r1;have hchq:chq (Fg q')=some (Fg q'):=Q7d gb (Wq m) (by omega);have key:∀ t∈ls,Va t/\t.p=q'/\t.lo<t.hi/\Bd (s+69) q'/\∃ D M k,Gr D M k t.lo/\Gr D M k t.hi/\0<M/\Uh (D:Int)≤s+69/\Uh (M:Int)≤s+70/\k≤63*s+5160:=λt ht=>by
  obtain ⟨k',k1,k2,k3⟩:=r3 t ht;have hmem:∀ {lo hi:Rat} {ls:List Tm},RI q' ((q'::l).map cz) lo ls hi->t∈ls->Vt (cz q') ((q'::l).map cz) t.lo t.hi/\t.p=q':=λh=>by
   induction h with
   | nil=>intro ht; cases ht
   |
    cons h hv ht' hp hl ih =>
    intro ht;rcases Qo.1 ht with rfl | ht
    ·exact ⟨ht',hp⟩
    ·exact ih ht
  obtain ⟨v1,v2⟩:=hmem r2 ht;have lq2:2<=q'.length:=by
   rcases Q9 q'.length 2 with e | e
   ·exfalso;have hvv:∀ x,vv ((q'::l).map cz) x=0:=λx=>by
     rw [hl0 e,sq.pq.one e];have hv1:∀ x:Rat,ev (cz [1]) x=1:=λx=>by rw [Uc,Ph]
     simp only [Zv,X2,vv,tc,hv1];have:Un 1=1:=by decide
     rw [this]; decide
    have:=v1.v;rw [hvv,hvv] at this; omega
   ·exact e
  exact ⟨⟨.inr ⟨_,by rw [v2]; exact v1⟩,by rw [v2]; exact sq.pq.t,by rw [v2]; omega,by rw [v2]; exact lq2,by rw [v2]; exact W7 bq (by omega),λ_=>by rw [v2]; exact W7 bq (by omega),λ_=>by rw [v2]; exact ⟨l,_,g,hch,sq,v1⟩,D,m+1,k',k2,k3,Wq m,by omega⟩,v2,v1.l,bq,D,m+1,k',k2,k3,Wq m,hDs,Qd hMs (Qn (s+70)),by rw [Z0] at k1; exact k1⟩
 refine ⟨q',q'::l,ls,hq',q2,?_,hS,r2,λt ht=>(key t ht).1,λx y hxy hb=>Qyd hS sq.pq.t sq.pq.n hxy hb (by grind),by omega,λt ht=>(key t ht).2⟩
 ·unfold Qk5;rw [q2,hq'];show (chq (Fg q')).bind _=_;rw [hchq];show Dv q' (q'::l) 100000 (-Fg q') (Fg q') (O6 (q'::l))=_;rw [Q4g hS hall];exact r1
theorem Zan {p:List Int} (h:Okp 9 1180 p):∃ q c l,Tl p=some q/\C7 p=some c/\Qk5 p=some l/\Stm (cz q) (c.map cz)/\RI q (c.map cz) (-Fg q) l (Fg q)/\(∀ t∈l,Va t)/\(∀ x y,x<y->Fg q≤x\/y≤-Fg q->vv (c.map cz) x=vv (c.map cz) y):=by
 obtain ⟨q,c,l,h1,h2,h3,h4,h5,h6,h7,_⟩:=Zao (Qn _) h;exact ⟨q,c,l,h1,h2,h3,h4,h5,h6,h7⟩
theorem Cc {q:List Int} {L:List (List Rat)} (hS:Stm (cz q) L) {c:Rat->Int} (hc:Cut c) {lo:Rat} (hH:∀ z,c z=-1->z<=lo->vv L z=vv L lo) {y0:Rat} (hy:c y0=-1) (hv:∀ z,lo<z->z<=y0->vv L z=vv L lo):∃ s,s≠0/\∀ z,c z=-1->z<=y0->Un (ev (cz q) z)=s:=by
 have hall:∀ z,c z=-1->z<=y0->vv L z=vv L lo:=λz h1 h2=>by
  rcases Ut z lo with e | e
  ·exact hH z h1 e
  ·exact hv z e h2
 have hne:∀ z,c z=-1->z<=y0->Un (ev (cz q) z)≠0:=λz h1 h2=>by
  obtain ⟨w,w1,w2⟩:=hc.dn z h1;have:=Qq7 hS w1 (by rw [hall w w2 (by grind),hall z h1 h2]);rw [this.s]; exact this.n
 refine ⟨Un (ev (cz q) y0),hne y0 hy Qq,λz h1 h2=>?_⟩;rcases Classical.em (z=y0) with e | e
 ·rw [e]
 ·have:=Qq7 hS (x:=z) (y:=y0) (by grind) (by rw [hall z h1 h2,hall y0 hy Qq]);rw [this.s,Dn (hne z h1 h2)]
structure Fst (o:List Int) (a t:Tm):Prop where
 lt:Bv a t
 s:∃ s,s≠0/\(∀ z,Uq a z=-1->Uq t z=1->Un (ev (cz o) z)=s)/\RS (cz o) (Uq t) (-s)
def Non (o:List Int) (a:Tm):Prop:=∃ s,s≠0/\∀ z,Uq a z=-1->Un (ev (cz o) z)=s
theorem Q32 {q:List Int} {L:List (List Rat)} (hS:Stm (cz q) L) {a:Tm} (ha:Va a) {lo hi:Rat} {l:List Tm} (hR:RI q L lo l hi):(∀ t∈l,Va t)->(∀ z,hi<z->vv L z=vv L hi)->(∀ z,Uq a z=-1->z≤lo->vv L z=vv L lo)->∃ r,Qbm a l=some r/\match r with
 | none=>Non q a
 | some t=>t∈l/\Fst q a t:=by
 have ca:=ha.cut
 induction hR with
 |
  @nil lo hi h hv =>
  intro _ hhi hH;refine ⟨none,rfl,?_⟩;obtain ⟨y1,hy1⟩:=ca.hi;have hall:∀ z,lo<z->vv L z=vv L lo:=λz hz=>by
   rcases Ut z hi with e | e
   ·have h1:=D2 hS hz;have h2:vv L hi<=vv L z:=by
     rcases Classical.em (z=hi) with e' | e'
     ·rw [e']; exact Qn _
     ·exact D2 hS (by grind)
    omega
   ·rw [hhi z e,hv]
  obtain ⟨s,s0,hs⟩:=Cc hS ca hH hy1 λz h1 _=>hall z h1
  refine ⟨s,s0,λz hz=>?_⟩;rcases Ut z y1 with e | e
  ·exact hs z hz e
  ·obtain ⟨s',s0',hs'⟩:=Cc hS ca hH hz λz h1 _=>hall z h1
   rw [hs' z hz Qq,<-hs' y1 hy1 (Qr e),hs y1 hy1 Qq]
 |
  @cons lo hi t l h hv ht hp hl ih =>
  intro hV hhi hH;have hvt:=hV t (Qt ..);have ct:=hvt.cut;have ht':=ht;rw [<-hp] at ht';have ect:∀ z,Uq t z=cq (cz t.p) t.lo t.hi z:=Mg ht.l;obtain ⟨c,c1,c2⟩:=Qc4 hvt ha;show ∃ r,((Qe7 t a).bind λc=>if 0<c then some (some t) else Qbm a l)=some r/\_;rw [c1];show ∃ r,(if 0<c then some (some t) else Qbm a l)=some r/\_;have hlo1:Uq t t.lo=1:=by rw [ect]; exact Da Qq
  have hlow:∀ z,lo<z->Uq t z=1->vv L z=vv L lo:=λz h1 h2=>by
   rcases Ut z t.lo with e | e
   ·have a1:=D2 hS h1;have a2:vv L t.lo<=vv L z:=by
     rcases Classical.em (z=t.lo) with e' | e'
     ·rw [e']; exact Qn _
     ·exact D2 hS (by grind)
    omega
   ·rw [ect] at h2;have hz:z<=t.hi:=by
     rcases Ut z t.hi with e' | e'
     ·exact e'
     ·rw [Qc6 ht.l e'] at h2; omega
    rw [ht'.eq_lo e hz h2,hv]
  by_cases hc:0<c
  ·rw [if_pos hc];refine ⟨some t,rfl,Qt ..,?_⟩;have hlt:Bv a t:=by
    rcases c2 with ⟨e,_⟩ | ⟨e,_⟩ | ⟨_,h⟩
    ·omega
    ·omega
    ·exact h
   refine ⟨hlt,?_⟩;obtain ⟨m,m1,m2⟩:=hlt;obtain ⟨s,s0,hs⟩:=Cc hS ca hH m1 λz h1 h2=>hlow z h1 (by
    rcases Classical.em (z=m) with e | e
    ·rw [e]; exact m2
    ·exact ct.mono' (q:=z) (r:=m) (by grind) (by omega))
   have hall:∀ z,Uq a z=-1->Uq t z=1->Un (ev (cz q) z)=s:=λz h1 h2=>by
    rcases Ut z m with e | e
    ·exact hs z h1 e
    ·obtain ⟨s',s0',hs'⟩:=Cc hS ca hH h1 λw w1 w2=>hlow w w1 (by
      rcases Classical.em (w=z) with e | e
      ·rw [e]; exact h2
      ·exact ct.mono' (q:=w) (r:=z) (by grind) (by omega))
     rw [hs' z h1 Qq,<-hs' m m1 (Qr e),hs m m1 Qq]
   refine ⟨s,s0,hall,?_⟩;obtain ⟨w,w1,w2,w3⟩:=Qjb ct m2 hlo1;have hwa:Uq a w=-1:=ca.mono m w w2 (by omega);have hsw:=hall w hwa w1;have hwh:w<t.hi:=by
    rw [ect] at w1;rcases Ut t.hi w with e | e
    ·have:=ht'.hi1;rcases Classical.em (t.hi=w) with e' | e'
     ·rw [<-e'] at w1; exact absurd w1 this
     ·rw [Qc6 ht.l (by grind)] at w1; omega
    ·exact e
   have hww:vv L w=vv L t.lo:=ht'.eq_lo w3 (Qr hwh) (by rw [<-ect]; exact w1);have hvv:=ht.v;have hone:=Qq6 hS hwh (by omega);have hlw:Rx (cz q) w=s:=by rw [Dn (by rw [hsw]; exact s0),hsw]
   rw [hlw] at hone;have hd:∀ z,w<z->z<=t.hi->Uq t z=-1->Un (ev (cz q) z)=-s:=λz z1 z2 z3=>by
    rw [ect] at z3;have e1:=ht'.eq_hi (by grind) z2 (by omega);have e2:=Qq6 hS z1 (by omega);rw [hlw] at e2;have hz0:Un (ev (cz q) z)≠0:=by
     rw [Ly (by grind) z2,hp] at z3;intro h0;rw [if_pos h0] at z3; omega
    rw [Dn hz0] at e2; exact e2.2
   rcases ct.val t.hi with e | e | e
   ·rw [ect] at e; exact absurd e ht'.hi1
   ·obtain ⟨d,dp,hd'⟩:=Zma (p:=cz q) (x:=t.hi) (by rw [hone.2]; omega);refine ⟨t.hi+d,ct.mono t.hi _ (by grind) (by omega),λz h1 h2=>?_⟩;have hz:t.hi<z:=by
     rcases Ut z t.hi with e' | e'
     ·rcases Classical.em (z=t.hi) with e'' | e''
      ·rw [e''] at h1; omega
      ·have:=ct.mono z t.hi (by grind) (by omega); omega
     ·exact e'
    rw [hd' z hz (by grind),hone.2]
   ·exact ⟨t.hi,e,λz h1 h2=>hd z (ct.lt w1 h1) h2 h1⟩
  ·rw [if_neg hc];have hle:¬Bv a t:=λh=>by
    rcases c2 with ⟨e,h'⟩ | ⟨e,h'⟩ | ⟨e,_⟩
    ·exact Oj ct ca h' h
    ·obtain ⟨z,z1,z2⟩:=h;have:=h' z; omega
    ·omega
   obtain ⟨r,r1,r2⟩:=ih (λx hx=>hV x (Qi _ hx)) hhi λz z1 z2=>by
    have hz:Uq t z≠1:=λh=>hle ⟨z,z1,h⟩
    have hzl:t.lo<z:=by
     rcases Ut z t.lo with e | e
     ·refine absurd ?_ hz;rw [ect]; exact Da e
     ·exact e
    exact ht'.eq_hi hzl z2 (by rw [<-ect]; exact hz)
   refine ⟨r,r1,?_⟩;cases r with
   | none=>exact r2
   | some x=>exact ⟨Qi _ r2.1,r2.2⟩
theorem Zhv {c:Rat->Int} (hc:Cut c):∀ (n:Nat) (f:List Rat),HD f n->∃ s,s≠0/\RS f c s
 |
  n,f,h=>by
  rcases Qag hc f with hv | ⟨s,hs,hn⟩
  ·cases n with
   |
    zero =>
    exfalso;obtain ⟨q,hq,_⟩:=Qte hc (hv (Uj (f.getD 0 0)) (Mr h.1));cases f with
    | nil=>exact h.1 (by simp)
    |
     cons a l =>
     have:=Bh (p:=l) λk=>by have:=h.2 (k+1) (by omega); rwa [Q3] at this
     simp only [ev,this,Zo] at hq; grind
   |
    succ n =>
    have hd:HD (Pp f) n:=by
     have key:∀ (f:List Rat) (k:Nat),(Pp f).getD k 0=((k+1:Nat):Rat)*f.getD (k+1) 0:=by
      intro f
      induction f with
      | nil=>intro k; simp only [Pp,Kd]; grind
      |
       cons a f ih =>
       intro k;simp only [Pp];rw [G5,Q3];cases k with
       | zero=>rw [Zo]; push_cast; grind
       | succ k=>rw [Q3,ih]; push_cast; grind
     refine ⟨λh0=>?_,λk hk=>by rw [key,h.2 (k+1) (by omega)]; grind⟩;rw [key] at h0;rcases Yt.1 h0 with h1 | h1
     ·have:=nat_pos (show 0<n+1 by omega); grind
     ·exact h.1 h1
    obtain ⟨s,hs,h1⟩:=Zhv hc n (Pp f) hd;exact ⟨s,hs,Qqn hc hv h1 hs⟩
  ·exact ⟨s,hs,Qnz hc hn⟩
theorem Zaq {c:Rat->Int} (hc:Cut c) {f p q:List Rat} {s s':Int} (hf:∀ t,ev f t=ev p t*ev q t) (h:RS p c s) (h':RS q c s'):RS f c (s*s'):=by
 obtain ⟨y,h1,h2⟩:=h;obtain ⟨y',h3,h4⟩:=h';refine ⟨if y<=y' then y else y',by split <;> assumption,λz z1 z2=>?_⟩;rw [hf,Rh,h2 z z1 (by clear h2 h4; grind),h4 z z1 (by clear h2 h4; grind)]
theorem Zar {c:Rat->Int} (hc:Cut c) {f o S:List Rat} {k:Rat} (hk:k≠0) (hf:∀ t,ev f t=k*(ev o t*(ev S t*ev S t))) (hnz:¬∀ t,ev f t=0) {s:Int} (h:RS o c s):RS f c (Un k*s):=by
 obtain ⟨n,_,hn⟩:∃ n,n<S.length/\HD S n:=by
  rcases Qj5 S with h1 | h1
  ·exact absurd (λt=>by rw [hf,h1]; grind) hnz
  ·exact h1
 obtain ⟨s',hs',h'⟩:=Zhv hc n S hn;have h1:=Zaq hc (f:=Fh S S) (λt=>Ug t _ _) h' h';have h2:=Zaq hc (f:=Fh o (Fh S S)) (λt=>Ug t _ _) h h1;have hsq:s'*s'=1:=by
  obtain ⟨y,y1,y2⟩:=h';have:=y2 y y1 Qq;rcases Fp (ev S y) with ⟨e,_⟩ | ⟨e,_⟩ | ⟨e,_⟩
  ·rw [<-this,e]; rfl
  ·omega
  ·rw [<-this,e]; rfl
 rw [hsq,K8] at h2;obtain ⟨y,y1,y2⟩:=h2;exact ⟨y,y1,λz z1 z2=>by
  have:=y2 z z1 z2;rw [Ug,Ug] at this;rw [hf,Rh,this]⟩
structure Cp (p:List Int):Prop where
 t:Ud p
 l:p.length<=9
 b:Bd 1110 p
theorem Cp.dp {p:List Int} (h:Cp p):Dp p:=⟨h.t,h.l,W7 h.b (by omega)⟩
theorem Cp.ok {p:List Int} (h:Cp p) (h0:p.length≠0):Okp 9 1180 p:=h.dp.ok h0
def Leq (a:Tm) (c:Rat->Int):Prop:=∀ q,c q=-1->Uq a q=-1
def B8 (p:List Int) (a:Tm):Option Tm->Prop
 | none=>p=[]\/∃ s,s≠0/\∀ c,Cut c->Leq a c->RS (cz p) c s
 | some t=>p≠[]/\Va t/\Bv a t/\∃ s,s≠0/\(∀ c,Cut c->Leq a c->(∃ m,c m=-1/\Uq t m=1)->RS (cz p) c s)/\RS (cz p) (Uq t) (-s)
theorem RI.len {q:List Int} {L:List (List Rat)} {lo hi:Rat} {l:List Tm} (h:RI q L lo l hi):l.length+vv L hi<=vv L lo:=by
 induction h with
 | nil h hv=>simp; omega
 | cons h hv ht hp hl ih=>have:=ht.v; simp only [Q7]; omega
theorem Zbq (x:Rat):∀ (L:List (List Rat)) (s:Int),tc x s L<=L.length
 | [],_=>Qn _
 |
  f::l,s=>by
  have h1:=Zbq x l;simp only [tc,Q7]
  repeat' split
  all_goals (first | (have:=h1 s; omega) | (have:=h1 (Un (ev f x)); omega))
theorem Zk1 (L:List (List Rat)) (x:Rat):vv L x<=L.length:=Zbq x L 0
theorem Qaf {p:List Int} (h:Cp p):∃ l,Qcr p=some l/\l.length≤67/\(∀ t∈l,Va t)/\∀ a,Va a->∃ r,Qbm a l=some r/\B8 p a r/\∀ t,r=some t->t∈l:=by
 unfold Qcr;by_cases h0:p.length=0
 ·have e:p=[]:=Qk h0;subst e;exact ⟨[],rfl,by decide,(λt ht=>by cases ht),λa _=>⟨none,rfl,.inl rfl,λt ht=>by cases ht⟩⟩
 ·obtain ⟨qp,o,q1,o1,hpt⟩:=Q9k (n:=9) (s:=1110) (p:=p) ⟨⟨by decide,by decide⟩,h.t,h0,h.l,h.b⟩;obtain ⟨g,sq⟩:=hpt.sq;obtain ⟨S,hS⟩:=hpt.os;obtain ⟨p1,p2,p3,p4,p5,p6,p7⟩:=Mp h.t h0;have hpl:=h.l;obtain ⟨hh,th,eh⟩:=hpt.oh;have bo:Bd 1179 o:=I7 (p5 1110 h.b) (by omega) p1 hpt.ot th (by omega) eh;obtain ⟨lo1,lo2⟩:=Hi p1 (by omega) eh;have hlen:=Sl hpt.ot th p1 eh lo1 lo2;have oko:Okp 9 1180 o:=⟨Q02,hpt.ot,by omega,by omega,W7 bo (by omega)⟩;obtain ⟨q,c,l,r1,r2,r3,hSt,hRI,hVa,hout⟩:=Zan oko;obtain ⟨g',q',s1,s2⟩:=Qa5 oko;rw [r1] at s1;injection s1 with s1;subst s1;obtain ⟨_,_,_,_,_,o6,o7⟩:=Mp hpt.ot (by omega);have hg1:g'=[1]:=by
   refine s2.pg.one ?_;obtain ⟨E,hE⟩:=hpt.oq;have hE:∀ t,Uf qp t=Uf o t*ev E t:=λt=>by have:=hE t; rwa [Uc,Uc] at this
   obtain ⟨z,hz⟩:=s2.d;have hd1:∀ t,Uf o t=Uf g' t*(Ga o*Uf q t):=λt=>by rw [o7,s2.e]; grind
   have hdo:∀ t,dv (cz o) t=Uf g' t*(Ga o*ev z t):=λt=>by
    have:=Q7u (p:=cz o) (q:=Nz (Ga o) (cz (Ui o))) (λt=>by rw [Uc,U0,Uc,o7]) t;rw [this,Qfd,hz]; grind
   obtain ⟨k,hk,hkk⟩:=sq.num (d:=cz g') ⟨Fh (Nz (Ga o) (cz q)) E,λt=>by rw [Uc,Uc,hE,hd1,Ug,U0,Uc]; grind⟩ ⟨Rf (Fh (Nz (Ga o) z) E) (Fh (Nz (Ga o) (cz q)) (Pp E)),λt=>by
    have:=A3 (f:=cz qp) (w:=cz o) (u:=E) (λt=>by rw [Uc,Uc,hE]) t;rw [Hp,this,hdo,Uc,Uc,hd1,Fc,Ug,Ug,U0,U0,Hp,Uc]; grind⟩
   rcases Q9 g'.length 2 with e | e
   ·exact e
   ·exfalso;have h1:=(Qgt s2.pg.t (by omega)).1;have h2:=Nu (p:=cz g') (q:=[k]) (λt=>by rw [hkk]; simp only [ev]; grind) (g'.length-1);rw [h2,Qh,Qu (by simp; omega)] at h1;exact h1 rfl
  have hpq:∀ t,ev (cz p) t=((Ga p:Rat)*(Ga o:Rat))*(ev (cz q) t*(ev S t*ev S t)):=λt=>by
   rw [Uc,Uc,p7,hS,o7,s2.e,hg1,Ph]; grind
  have hk0:(Ga p:Rat)*(Ga o:Rat)≠0:=λh=>(Yt.1 h).elim (Ob p6) (Ob o6)
  have hpz:¬∀ t,ev (cz p) t=0:=λh'=>Qgm h.t (by omega) λt=>by rw [<-Uc]; exact h' t
  obtain ⟨k,hk⟩:=nmE (Un ((Ga p:Rat)*(Ga o:Rat)));have hkn:k≠0:=λh=>hk0 (U9.1 (by rw [<-hk]; exact h))
  have ho:o.length≠0:=by omega
  rw [o1];show ∃ l,(if o.length=0 then some [] else Qk5 o)=some l/\l.length<=67/\_;rw [if_neg ho];have hb1:=Qe0 (Ch s2.pq.t s2.pq.n);have hll:=hRI.len;have hlv:=Zk1 (c.map cz) (-Fg q);have hcl:=(Orr.chain_ok (p:=o) ⟨hpt.ot,by omega,W7 bo (by omega)⟩ r2).1;rw [Q6] at hlv;refine ⟨l,r3,by omega,hVa,λa ha=>?_⟩;obtain ⟨r,n1,n2⟩:=Q32 hSt ha hRI hVa (λz hz=>(hout _ _ hz (.inl Qq)).symm) λz _ hz=>by
   rcases Classical.em (z=-Fg q) with e | e
   ·rw [e]
   ·exact hout z _ (by grind) (.inr Qq)
  refine ⟨r,n1,?_,λt ht=>by subst ht; exact n2.1⟩;cases r with
  |
   none =>
   obtain ⟨s,hs,hz⟩:=n2;refine .inr ⟨k*s,X9 hkn hs,λc hc hac=>?_⟩;obtain ⟨y,hy⟩:=hc.hi;have h1:RS (cz q) c s:=⟨y,hy,λz z1 _=>hz z (hac z z1)⟩;rw [hk]; exact Zar hc hk0 hpq hpz h1
  |
   some t =>
   obtain ⟨hm,hlt,s,hs,hz,hrs⟩:=n2;refine ⟨λe=>h0 (by rw [e]; rfl),hVa t hm,hlt,k*s,X9 hkn hs,λc hc hac ⟨m,m1,m2⟩=>?_,?_⟩
   ·have h1:RS (cz q) c s:=⟨m,m1,λz z1 z2=>hz z (hac z z1) (by
     rcases Classical.em (z=m) with e | e
     ·rw [e]; exact m2
     ·exact (hVa t hm).cut.mono' (q:=z) (r:=m) (by grind) (by omega))⟩
    rw [hk]; exact Zar hc hk0 hpq hpz h1
   ·have:=Zar (hVa t hm).cut hk0 hpq hpz hrs;rw [<-hk] at this;rw [show -(k*s)=k*-s by rw [V9]]; exact this
structure Sz (s n:Nat) (t:Tm):Prop where
 n:t.p.length<=n
 b:Bd (s+138) t.p
 g:∃ D M k,Gr D M k t.lo/\Gr D M k t.hi/\0<M/\Uh (D:Int)<=s+138/\Uh (M:Int)<=s+139/\k<=63*s+9507
theorem Q9f {p:List Int} (h:Cp p) {a:Tm} (ha:Va a):∃ r,Qg0 p a=some r/\B8 p a r:=by
 obtain ⟨l,l1,_,_,l3⟩:=Qaf h;obtain ⟨r,r1,r2,_⟩:=l3 a ha;refine ⟨r,?_,r2⟩;unfold Qg0;rw [l1]; exact r1
theorem Qfr:∀ (l:List Tm) (b:Tm),(∀ t∈b::l,Va t)->∃ m,A9 b l=some m/\m∈b::l/\∀ t∈b::l,¬Bv t m
 |
  [],b,h=>⟨b,rfl,Qt ..,λt ht h'=>by
  rw [Qm.1 ht] at h';have hb:=(h b (Qt ..)).cut;exact Oj hb hb h' h'⟩
 |
  a::l,b,h=>by
  have ha:=h a (by simp);have hb:=h b (by simp);obtain ⟨c,c1,c2⟩:=Qc4 ha hb;obtain ⟨m,m1,m2,m3⟩:=Qfr l (if c<0 then a else b) λt ht=>by
   rcases Qo.1 ht with rfl | ht
   ·split <;> assumption
   ·exact h t (by simp [ht])
  refine ⟨m,by simp only [A9]; rw [c1]; exact m1,?_,λt ht=>?_⟩
  ·rcases Qo.1 m2 with e | e
   ·rw [e]; split <;> simp
   ·simp [e]
  ·have hm:Va m:=by
    rcases Qo.1 m2 with e | e
    ·rw [e]; split <;> assumption
    ·exact h m (by simp [e])
   have hfst:=m3 _ (Qt ..);have tr:∀ x y:Tm,Va x->Va y->¬Bv x y->¬Bv y m->¬Bv x m:=λx y hx hy h1 h2 h3=>by
    rcases tri hy.cut hm.cut with h4 | h4 | h4
    ·exact h2 h4
    ·obtain ⟨q,q1,q2⟩:=h3;exact h1 ⟨q,q1,by rw [h4]; exact q2⟩
    ·obtain ⟨q,q1,q2⟩:=h3;obtain ⟨r,r1,r2⟩:=h4;have:=hm.cut.lt q2 r1;exact h1 ⟨q,q1,hy.cut.mono' this (by omega)⟩
   rcases Qo.1 ht with rfl | ht
   ·by_cases hc:c<0
    ·rw [if_pos hc] at hfst;refine tr _ a hb ha ?_ hfst;rcases c2 with ⟨_,h'⟩ | ⟨e,_⟩ | ⟨e,_⟩
     ·exact λh''=>Oj ha.cut hb.cut h' h''
     ·omega
     ·omega
    ·rw [if_neg hc] at hfst; exact hfst
   ·rcases Qo.1 ht with rfl | ht
    ·by_cases hc:c<0
     ·rw [if_pos hc] at hfst; exact hfst
     ·rw [if_neg hc] at hfst;refine tr _ b ha hb ?_ hfst;rcases c2 with ⟨e,_⟩ | ⟨_,h'⟩ | ⟨_,h'⟩
      ·omega
      ·rintro ⟨q,q1,q2⟩
       have:=h' q; omega
      ·exact λh''=>Oj ha.cut hb.cut h'' h'
    ·exact m3 t (by simp [ht])
end Orq
namespace Orr
open Go Go.Proofs Orq
set_option maxRecDepth 10000
theorem Dp.pb {p:List Int} (h:Dp p):Pb p:=⟨h.t,by have:=h.l; omega,W7 h.b (by have:=h.l; omega)⟩
theorem Zls {p:List Int} {a:Tm} (hp:Dp p) (ha:Va a):W8 Tryz.prog 219 [pr p,.agg (ta a)] [.one (.int .i64 (Pv a p))]:=Zct (Dp.pb hp) ha.tb (Za1 hp ha).1
theorem Zlk {p:List Int} {a:Tm} (hp:Dp p) (ha:Va a):W8 Tryz.prog 218 [pr p,.one (.sh (ta a))] [.one (.int .i64 (Pv a p))]:=w tt Tryz.func218 rfl [.c [] (Zls hp ha)] rfl rfl trivial
theorem Zdg {p:List Int} {fid:Nat} {l1:List LV} {sgn:List Int->Int} (hp:Dp p) (h:∀ p,Dp p->W8 Tryz.prog fid [pr p,.one (.sh l1)] [.one (.int .i64 (sgn p))]):W8 Tryz.prog 217 [pr p,.one (.fn fid [] [.sh l1])] [.one (.int .i64 (Hr sgn p.length p))]:=by
 have hpb:=Dp.pb hp;refine Fv Tryz.func217 rfl ?_;refine go tt [.c [] (Gm hpb.t hpb.ln hpb.bd)] rfl trivial ?_;refine lp (S:=List Int) 0 (λL1 s=>(0,.v (pr s))::L1) (λ_=>[]) (λs=>s.length) (λs=>Dp s/\Hr sgn s.length s=Hr sgn p.length p) p ⟨hp,rfl⟩ rfl (λ_ _=>rfl) rfl λr ⟨j1,j4⟩=>?_
 rw [<-j4];have jb:=Dp.pb j1;by_cases h0:r.length=0
 ·have e:=Qgs sgn h0;rw [e];exact en tt [.f (by simp; exact Qk h0)] rfl rfl trivial
 ·have hs:=h r j1;by_cases hz:sgn r=0
  ·have hlp:=Tt r;refine go tt [.t (by simp; omega),.c [] hs,.f (by simpa using hz),.c [] (Em jb.ln jb.bd)] rfl trivial ?_;exact rd (U8 r) (by omega) ⟨j1.der,by rw [<-Qgr sgn (by omega) hz]⟩ rfl
  ·rw [Qgq sgn (by omega) hz];exact en tt [.t (by simp; omega),.c [] hs,.t (by simpa using hz)] rfl rfl trivial
abbrev gmA (a:Tm) (p:List Int):Int:=Bj (Pv a) p
theorem Zg6 {p:List Int} {a:Tm} (hp:Dp p) (ha:Va a):W8 Tryz.prog 174 [pr p,.agg (ta a)] [.one (.int .i64 (gmA a p))] :=
 w tt Tryz.func174 rfl [.c [] (Zdg (sgn:=Pv a) hp λ_ h=>Zlk h ha)] rfl rfl trivial
structure Sc (k:Crv):Prop where
 n:Nml k
 c:Cs 128 3 k
theorem Sc.cb {k:Crv} (h:Sc k):Cb k:=h.c.mono (by omega) (by omega)
theorem Zh2 (q:Rat) {P:Prop} (h:(tq q).point=false):P:=by
 have e:(tq q).point=true:=P8.2 Qq;rw [e] at h; cases h
theorem Zky {q:Rat} (hq:Qs 400000 q):Va (tq q):=by
 have hd:=q.den_nz;refine ⟨.inl ⟨rfl,?_⟩,Q12 q,by show 2<=9; omega,by show 2<=2; omega,Zli (hq.mono (by omega)),Zh2 q,Zh2 q,q.den,q.num.natAbs+1,0,?_,?_,by omega,?_⟩
 ·have e:(q.num:Rat)=q*(q.den:Rat):=by
   have:(q.num:Rat) / (((q.den:Int)):Rat)=q:=by rw [Gv,Z1]
   have h2:(q.num:Rat) / (q.den:Rat)*(q.den:Rat)=q.num:=Zm (by have:=Orq.nat_pos q.den_pos; grind);rw [show (q.num:Rat) / (q.den:Rat)=q from this] at h2; exact h2.symm
  show Uf [-q.num,(q.den:Int)] q=0;simp only [Uf];rw [Vd,e,show (((q.den:Int)):Rat)=(q.den:Rat) from rfl]; grind
 all_goals first | (have h1:Uh (q.den:Int)<=400000:=hq.2; have h2:Uh ((q.num.natAbs+1:Nat):Int)<=400001:=Q3r hq.1; omega) | skip
 all_goals
  refine ⟨⟨q.num,?_⟩,?_,q.den_pos⟩
  ·rw [Y3,Yn];have:(q.num:Rat) / (((q.den:Int)):Rat)=q:=by rw [Gv,Z1]
   have h2:(q.num:Rat) / (q.den:Rat)*(q.den:Rat)=q.num:=Zm (by have:=Orq.nat_pos q.den_pos; grind);rw [show (q.num:Rat) / (q.den:Rat)=q from this] at h2; exact h2
  ·have h1:Uj q<=Uj (q.num:Rat):=by
    have e:(q.num:Rat)=q*(q.den:Rat):=by
     have:(q.num:Rat) / (((q.den:Int)):Rat)=q:=by rw [Gv,Z1]
     have h2:(q.num:Rat) / (q.den:Rat)*(q.den:Rat)=q.num:=Zm (by have:=Orq.nat_pos q.den_pos; grind);rw [show (q.num:Rat) / (q.den:Rat)=q from this] at h2; exact h2.symm
    rw [e,Ls];have hd1:(1:Rat)<=(q.den:Rat):=by
     have:((1:Nat):Rat)<=(q.den:Rat):=Zh.2 q.den_pos;exact this
    have e2:Uj (q.den:Rat)=(q.den:Rat):=by unfold Uj; rw [if_neg (by grind)]
    rw [e2];have:=Ml (a:=Uj q) (c:=1) (Gl q) Qq (by decide) hd1;grind
   rw [Ri] at h1;refine Zg h1 (Zh.2 (by omega))
end Orr
namespace Orr
variable {α:Type}
def Mn (lt:α->α->Bool) (out:List α) (x:α):Nat->Nat
 | 0=>0
 |
  k+1=>match out[k]? with
  | some y=>if lt x y=true then Mn lt out x k else k+1
  | none=>k+1
theorem Qp9 (lt:α->α->Bool) (out:List α) (x:α):∀ k,Mn lt out x k<=k
 | 0=>Qn _
 |
  k+1=>by
  simp only [Mn]
  split
  ·split
   ·exact Nat.le_succ_of_le (Qp9 lt out x k)
   ·exact Qn _
  ·exact Qn _
theorem Qqa {lt:α->α->Bool} {out:List α} {x y:α} {k:Nat} (hx:out[k]? = some y) (h:lt x y=true):Mn lt out x (k+1)=Mn lt out x k:=by
 simp only [Mn,hx,h,if_true]
theorem Qkx {lt:α->α->Bool} {out:List α} {x y:α} {k:Nat} (hx:out[k]? = some y) (h:lt x y=false):Mn lt out x (k+1)=k+1:=by
 simp [Mn,hx,h]
def Cg (lt:α->α->Bool) (out:List α) (x:α):List α:=out.take (Mn lt out x out.length)++x::out.drop (Mn lt out x out.length)
theorem Q8r (lt:α->α->Bool) (out:List α) (x:α):(Cg lt out x).length=out.length+1:=by
 have:=Qp9 lt out x out.length;simp [Cg]; omega
theorem Qj7 {lt:α->α->Bool} {out:List α} {x y:α}:y∈Cg lt out x↔y=x\/y∈out:=by
 have h:y∈out↔y∈out.take (Mn lt out x out.length)\/y∈out.drop (Mn lt out x out.length):=by
  rw [<-Qx,Za]
 simp only [Cg,Qx,Qo,h];constructor
 ·rintro (h | h | h)
  ·exact .inr (.inl h)
  ·exact .inl h
  ·exact .inr (.inr h)
 ·rintro (h | h | h)
  ·exact .inr (.inl h)
  ·exact .inl h
  ·exact .inr (.inr h)
def Hy (lt:α->α->Bool) (l:List α):List α:=l.foldl (Cg lt) []
theorem Qx5 (lt:α->α->Bool) (l:List α) (x:α):Hy lt (l++[x])=Cg lt (Hy lt l) x:=by simp [Hy,Yw]
theorem Qlc {lt:α->α->Bool} {l:List α} {i:Nat} {x:α} (h:l[i]? = some x):Hy lt (l.take (i+1))=Cg lt (Hy lt (l.take i)) x:=by
 rw [Zx,h]; exact Qx5 _ _ _
theorem Qjv (lt:α->α->Bool):∀ (l acc:List α),(l.foldl (Cg lt) acc).length=acc.length+l.length
 | [],acc=>by simp
 | c::l,acc=>by simp only [Z3]; rw [Qjv lt l (Cg lt acc c),Q8r]; simp; omega
theorem Nn (lt:α->α->Bool) (l:List α):(Hy lt l).length=l.length:=by unfold Hy; rw [Qjv]; simp
theorem Qjw (lt:α->α->Bool):∀ (l acc:List α) {y:α},y∈l.foldl (Cg lt) acc↔y∈l\/y∈acc
 | [],acc,y=>by simp
 |
  c::l,acc,y=>by
  simp only [Z3];rw [Qjw lt l,Qj7,Qo];constructor
  ·rintro (h | h | h)
   ·exact .inl (.inr h)
   ·exact .inl (.inl h)
   ·exact .inr h
  ·rintro ((h | h) | h)
   ·exact .inr (.inl h)
   ·exact .inl h
   ·exact .inr (.inr h)
theorem Aj {lt:α->α->Bool} {l:List α} {y:α}:y∈Hy lt l↔y∈l:=by
 unfold Hy; rw [Qjw]; simp
end Orr
namespace Orr
open Go Orq
structure Wt where
 c:Ct
 known:Bool
 fails:Option Tm
def f0:Option Tm->LV | none=>.row [] | some t=>pl t.p
def f1:Option Tm->LV | none=>.bool false | some t=>sg t.lo.num
def f2:Option Tm->LV | none=>.row [] | some t=>mg t.lo.num
def f3:Option Tm->LV | none=>.bool false | some t=>sg (t.lo.den:Int)
def f4:Option Tm->LV | none=>.row [] | some t=>mg (t.lo.den:Int)
def f5:Option Tm->LV | none=>.bool false | some t=>sg t.hi.num
def f6:Option Tm->LV | none=>.row [] | some t=>mg t.hi.num
def f7:Option Tm->LV | none=>.bool false | some t=>sg (t.hi.den:Int)
def f8:Option Tm->LV | none=>.row [] | some t=>mg (t.hi.den:Int)
abbrev fl (o:Option Tm):List LV:=[f0 o,f1 o,f2 o,f3 o,f4 o,f5 o,f6 o,f7 o,f8 o]
abbrev wl (w:Wt):List LV:=[.int .i64 w.c.kind,.int .i64 w.c.i0,.int .i64 w.c.i1,.int .i64 w.c.i2,.int .i64 w.c.i3,pl w.c.p,.int .i64 w.c.want,.bool w.known,.bool w.fails.isSome,f0 w.fails,f1 w.fails,f2 w.fails,f3 w.fails,f4 w.fails,f5 w.fails,f6 w.fails,f7 w.fails,f8 w.fails]
def Iq (l:List Wt):List (List LV):=l.map λw=>wl w
theorem Sa {l:List Wt} {i:Nat} {w:Wt} (h:l[i]? = some w):(Iq l)[i]? = some (wl w):=Ff h
theorem Bt (l:List Wt):(Iq l).length=l.length:=by simp [Iq]
structure Cr where
 now:Tm
 l:List Wt
 ev:Int
abbrev Rp (c:Cr) (r0 r1:List (List LV)):List LV:=.bool true::pl c.now.p::sg c.now.lo.num::mg c.now.lo.num::sg (c.now.lo.den:Int)::mg (c.now.lo.den:Int)::sg c.now.hi.num::mg c.now.hi.num::sg (c.now.hi.den:Int)::mg (c.now.hi.den:Int)::.row (Iq c.l)::.int .i64 c.ev::[.row r0,.row r1]
structure WtOk (w:Wt):Prop where
 p:Cp w.c.p
 f:∀ t,w.fails=some t->Va t
structure CrOk (c:Cr):Prop where
 n:Va c.now
 l:∀ w∈c.l,WtOk w
 k:c.l.length<=1000
def Zax (a b:Ct):Bool:=decide ([a.kind,a.i0,a.i1,a.i2,a.i3]=[b.kind,b.i0,b.i1,b.i2,b.i3])
def fresh (x:Ct):Wt:=⟨x,false,none⟩
def Dk:List Wt->Ct->Tm->Option Wt
 | [],x,_=>some (fresh x)
 |
  w::l,x,at_=>if Zax w.c x=true/\w.known=true/\w.c.p=x.p then
   match w.fails with
   | none=>some ⟨x,true,none⟩
   | some t=>(Qe7 t at_).bind λc=>if 0<c then some ⟨x,true,some t⟩ else Dk l x at_
  else Dk l x at_
def Lm (old:List Wt) (at_:Tm):List Ct->Option (List Wt)
 | []=>some []
 | x::l=>(Dk old x at_).bind λw=>(Lm old at_ l).bind λr=>some (w::r)
end Orr
namespace Orr
open Go Go.Proofs Orq
set_option maxRecDepth 10000
theorem Qoq {T:Nat} {c:Cr} {r0 r1:List (List LV)} (hc:Va c.now):Ge Tryz.prog 27 [.one (.ow 0 0)] [.blk T (Rp c r0 r1)] [.agg (ta c.now)] [.blk T (Rp c r0 r1)]:=by
 have cl:=Ix (b:=c.now) (l:=[]) hc.tb (λt ht=>by cases ht) (by decide) rfl;refine Fv Tryz.func27 rfl ?_;exact ed tt [] [0] [.f rfl,.c [] cl] rfl trivial
theorem Qiz {T:Nat} {c:Cr} {r0 r1:List (List LV)} (hc:CrOk c):Ge Tryz.prog 25 [.one (.ow 0 0)] [.blk T (Rp c r0 r1)] [.one (.row (Ur (Uz (c.l.map (·.c)))))] [.blk T (Rp c r0 r1)]:=by
 have hk:=hc.k;have hw:=Bt c.l;refine Fv Tryz.func25 rfl ?_;refine go tt [.o 3 99 7] rfl trivial ?_;refine lp (S:=Nat) 2 (λL1 i=>(11,.v (.one (.int .i64 (i:Int))))::(3,.v (.one (.orow 1 7 none)))::L1) (λi=>[.blk T (Rp c r0 r1),.row false 99 7 (Ur ((c.l.map (·.c)).take i))]) (λi=>c.l.length-i) (λi=>i<=c.l.length) 0 (Qg _) rfl (λ_ _=>rfl) rfl λi hi=>?_
 by_cases hlt:i<c.l.length
 ·obtain ⟨x,hx⟩:=gxE (l:=c.l) (i:=i) hlt;have hm:∀ y∈[Qdt x.c],y.length=7:=λy hy=>by rw [Qm.1 hy]; rfl
  have hg:(c.l.map (·.c)).take (i+1)=(c.l.map (·.c)).take i++[x.c]:=by
   rw [Zx,Q8,hx]; rfl
  have hl:decide ((i:Int)<((Iq c.l).length:Int))=true:=by simp [hw]; omega
  obtain ⟨xc,xk,xf⟩:=x;cases xf <;> (refine go tt [.t hl,.x (Sa hx),.s (sz:=7) hm] rfl (by simp [W6,Mh]; omega) ?_; exact rd (i+1) (by omega) hlt (by rw [hg]; simp [Ur]; rfl))
 ·obtain rfl:i=c.l.length:=by omega
  have e:(c.l.map (·.c)).take c.l.length=c.l.map (·.c):=Qj (by simp);rw [e];have cs:=Qvt (l:=c.l.map (·.c)) (λx hx=>by
   obtain ⟨w,hw,rfl⟩:=Zc.1 hx;exact Dp.pb (hc.l w hw).p.dp) (by simp; omega)
  exact ed tt [] [0] [.f (by simp [hw]),.c [] cs] rfl trivial
theorem Zik {T:Nat} {c:Cr} {r0 r1:List (List LV)} {x:Ct} {at_:Tm} {w:Wt} (hc:CrOk c) (hx:Cp x.p) (ha:Va at_) (h:Dk c.l x at_=some w):Ge Tryz.prog 161 [.one (.ow 0 0),.agg (Qdt x),.agg (ta at_)] [.blk T (Rp c r0 r1)] [.agg (wl w)] [.blk T (Rp c r0 r1)]:=by
 have hk:=hc.k;have hw:=Bt c.l;refine Fv Tryz.func161 rfl ?_;refine go tt [] rfl trivial ?_;refine lp (S:=Nat) 4 (λL1 i=>(14,.v (.one (.int .i64 (i:Int))))::L1) (λ_=>[.blk T (Rp c r0 r1),.blk 99 (Qdt x),.blk 79 (ta at_),.blk 146 [.int .i64 0,.int .i64 0,.int .i64 0,.int .i64 0,.int .i64 0,.nils,.int .i64 0,.bool false,.bool false,.nils,.bool false,.nils,.bool false,.nils,.bool false,.nils,.bool false,.nils]]) (λi=>c.l.length-i) (λi=>i<=c.l.length/\Dk (c.l.drop i) x at_=some w) 0 ⟨Qg _,h⟩ rfl (λ_ _=>rfl) rfl λi ⟨hi,hf⟩=>?_
 by_cases hlt:i<c.l.length
 ·obtain ⟨v,hv⟩:=gxE (l:=c.l) (i:=i) hlt;have hdr:c.l.drop i=v::c.l.drop (i+1):=by
   rw [Zj hlt]; congr 1;have:=Qe hlt; rw [hv] at this; injection this with this; exact this.symm
  have hvo:=hc.l v (Qa hv);rw [hdr] at hf;simp only [Dk] at hf;have hl:decide ((i:Int)<((Iq c.l).length:Int))=true:=by simp [hw]; omega
  by_cases A:Zax v.c x=true
  ·have A':(!decide ([v.c.kind,v.c.i0,v.c.i1,v.c.i2,v.c.i3]=[x.kind,x.i0,x.i1,x.i2,x.i3]))=false:=by
    unfold Zax at A; rw [A]; rfl
   by_cases B:v.known=true
   ·have B':(!v.known)=false:=by rw [B]; rfl
    have cs:=Qot (p:=v.c.p) (q:=x.p) (Dp.pb hvo.p.dp).ln (Dp.pb hx.dp).ln (Dp.pb hvo.p.dp).bd (Dp.pb hx.dp).bd;rw [hvo.p.t,hx.t] at cs;by_cases C:v.c.p=x.p
    ·have C':(!decide (v.c.p=x.p))=false:=by simp [C]
     rw [if_pos ⟨A,B,C⟩] at hf;obtain ⟨vc,vk,vf⟩:=v;cases vf with
     |
      none =>
      injection hf with hf; subst hf;exact ed tt [] [0] [.t hl,.x (Sa hv),.g 24 false A',.g 29 false B',.c [] cs,.f C',.g 41 true rfl,.t rfl] rfl trivial
     |
      some t =>
      obtain ⟨r,r1',hf⟩:=Qf.1 hf;have cc:=Qiv (hvo.f t rfl).tb ha.tb r1';by_cases D:0<r
      ·rw [if_pos D] at hf;injection hf with hf; subst hf;exact ed tt [] [0] [.t hl,.x (Sa hv),.g 24 false A',.g 29 false B',.c [] cs,.f C',.g 41 false rfl,.c [] cc,.t (by simpa using D)] rfl trivial
      ·rw [if_neg D] at hf;refine go tt [.t hl,.x (Sa hv),.g 24 false A',.g 29 false B',.c [] cs,.f C',.g 41 false rfl,.c [] cc,.f (by simpa using D)] rfl (by simp [W6]; omega) ?_;exact rd (i+1) (by omega) ⟨hlt,hf⟩ rfl
    ·rw [if_neg λh=>C h.2.2] at hf;refine go tt [.t hl,.x (Sa hv),.g 24 false A',.g 29 false B',.c [] cs,.t (by simp [C])] rfl (by simp [W6]; omega) ?_;exact rd (i+1) (by omega) ⟨hlt,hf⟩ rfl
   ·rw [if_neg λh=>B h.2.1] at hf;refine go tt [.t hl,.x (Sa hv),.g 24 false A',.g 29 true (by simpa using B),.t rfl] rfl (by simp [W6]; omega) ?_;exact rd (i+1) (by omega) ⟨hlt,hf⟩ rfl
  ·rw [if_neg λh=>A h.1] at hf;refine go tt [.t hl,.x (Sa hv),.g 24 true (by rw [show decide ([v.c.kind,v.c.i0,v.c.i1,v.c.i2,v.c.i3]=[x.kind,x.i0,x.i1,x.i2,x.i3])=false from Bool.eq_false_iff.2 A]; rfl),.g 29 true rfl,.t rfl] rfl (by simp [W6]; omega) ?_;exact rd (i+1) (by omega) ⟨hlt,hf⟩ rfl
 ·obtain rfl:i=c.l.length:=by omega
  rw [Vn] at hf;simp only [Dk] at hf;injection hf with hf; subst hf;exact ed tt [] [0] [.f (by simp [hw])] rfl trivial
theorem Qdk {old:List Wt} {at_:Tm}:∀ {l:List Ct} {ws:List Wt},Lm old at_ l=some ws->ws.length=l.length/\∀ (i:Nat) (x:Ct),l[i]? = some x->∃ w,Dk old x at_=some w/\ws[i]? = some w
 | [],ws,h=>by injection h with h; subst h; exact ⟨rfl,λi x hx=>by simp at hx⟩
 |
  y::l,ws,h=>by
  simp only [Lm] at h;obtain ⟨w,hw,h⟩:=Qf.1 h;obtain ⟨r,hr,h⟩:=Qf.1 h;injection h with h; subst h;obtain ⟨a,b⟩:=Qdk hr;refine ⟨by simp [a],λi x hx=>?_⟩;cases i with
  | zero=>injection hx with hx; subst hx; exact ⟨w,hw,rfl⟩
  | succ i=>exact b i x (by simpa using hx)
theorem Qgg {l:List Wt} {i:Nat} {w:Wt} (h:l[i]? = some w):Iq (l.take (i+1))=Iq (l.take i)++[wl w]:=by
 rw [Zx,h]; simp [Iq]
theorem Qyu {T:Nat} {c:Cr} {r0 r1:List (List LV)} {at_:Tm} {l:List Ct} {ws:List Wt} (hc:CrOk c) (ha:Va at_) (hl:∀ x∈l,Cp x.p) (hn:l.length≤1000) (h:Lm c.l at_ (Uz l)=some ws):Ge Tryz.prog 116 [.one (.ow 0 0),.agg (ta at_),.one (.bool true),.one (.row (Ur l))] [.blk T (Rp c r0 r1)] [] [.blk T (Rp ⟨at_,ws,c.ev⟩ r0 r1)]:=by
 have cs:=Qvt (l:=l) (λx hx=>Dp.pb (hl x hx).dp) (by omega);have cl:=Ix (b:=at_) (l:=[]) ha.tb (λt ht=>by cases ht) (by decide) rfl;obtain ⟨h1,h2⟩:=Qdk h;have hs:(Uz l).length=l.length:=Cz l;refine Fv Tryz.func116 rfl ?_;refine go tt [.o 8 146 18,.c [] cs] rfl trivial ?_;refine lp (S:=Nat) 3 (λL1 i=>(15,.v (.one (.int .i64 (i:Int))))::(8,.v (.one (.orow 2 18 none)))::L1) (λi=>[.blk T (Rp c r0 r1),.blk 79 (ta at_),.row false 146 18 (Iq (ws.take i))]) (λi=>ws.length-i) (λi=>i<=ws.length) 0 (Qg _) rfl (λ_ _=>rfl) rfl λi hi=>?_
 by_cases hlt:i<ws.length
 ·obtain ⟨x,hx⟩:=gxE (l:=(Uz l)) (i:=i) (by omega);obtain ⟨w,hw,hw'⟩:=h2 i x hx;have hm:∀ y∈[wl w],y.length=18:=λy hy=>by rw [Qm.1 hy]; rfl
  have hlt':decide ((i:Int)<((Ur (Uz l)).length:Int))=true:=by simp [Ur]; omega
  have ck:=Zik (T:=T) (r0:=r0) (r1:=r1) hc (hl x (Ai (Qa hx))) ha hw;have hg:=Qgg hw';obtain ⟨wc,wk,wf⟩:=w;cases wf <;> (refine go tt [.t hlt',.x (Qe9 hx),.t rfl,.c [0] ck,.s (sz:=18) hm] rfl (by simp [W6,Bt]; omega) ?_; exact rd (i+1) (by omega) hlt (by rw [hg]; rfl))
 ·obtain rfl:i=ws.length:=by omega
  rw [Q4];have hge:decide ((ws.length:Int)<((Ur (Uz l)).length:Int))=false:=by simp [Ur]; omega
  exact ed tt [] [0] [.f hge,.p 2,.c [] cl] rfl trivial
abbrev crz (r0 r1:LV):List LV:=[.bool false,.nils,.bool false,.nils,.bool false,.nils,.bool false,.nils,.bool false,.nils,.nils,.int .i64 0,r0,r1]
theorem Zcz {T:Nat} {r0 r1:List (List LV)} {at_:Tm} {l:List Ct} (ha:Va at_) (hl:∀ x∈l,Cp x.p) (hn:l.length≤1000):Ge Tryz.prog 116 [.one (.ow 0 0),.agg (ta at_),.one (.bool false),.one (.row (Ur l))] [.blk T (crz (.row r0) (.row r1))] [] [.blk T (Rp ⟨at_,(Uz l).map fresh,0⟩ r0 r1)]:=by
 have cs:=Qvt (l:=l) (λx hx=>Dp.pb (hl x hx).dp) (by omega);have cl:=Ix (b:=at_) (l:=[]) ha.tb (λt ht=>by cases ht) (by decide) rfl;have hs:(Uz l).length=l.length:=Cz l;refine Fv Tryz.func116 rfl ?_;refine go tt [.o 8 146 18,.c [] cs] rfl trivial ?_;refine lp (S:=Nat) 3 (λL1 i=>(15,.v (.one (.int .i64 (i:Int))))::(8,.v (.one (.orow 2 18 none)))::L1) (λi=>[.blk T (crz (.row r0) (.row r1)),.blk 79 (ta at_),.row false 146 18 (Iq (((Uz l).map fresh).take i))]) (λi=>l.length-i) (λi=>i<=l.length) 0 (Qg _) rfl (λ_ _=>rfl) rfl λi hi=>?_
 by_cases hlt:i<l.length
 ·obtain ⟨x,hx⟩:=gxE (l:=(Uz l)) (i:=i) (by omega);have hm:∀ y∈[wl (fresh x)],y.length=18:=λy hy=>by rw [Qm.1 hy]; rfl
  have hlt':decide ((i:Int)<((Ur (Uz l)).length:Int))=true:=by simp [Ur]; omega
  have hg:=Qgg (l:=(Uz l).map fresh) (i:=i) (w:=fresh x) (by rw [Q8,hx]; rfl);refine go tt [.t hlt',.x (Qe9 hx),.z 20,.f rfl,.s (sz:=18) hm] rfl (by simp [W6,Bt]; omega) ?_;exact rd (i+1) (by omega) hlt (by rw [hg]; rfl)
 ·obtain rfl:i=l.length:=by omega
  rw [Qj (by simp; omega)];have hge:decide ((l.length:Int)<((Ur (Uz l)).length:Int))=false:=by simp [Ur]; omega
  exact ed tt [] [0] [.f hge,.p 2,.c [] cl] rfl trivial
theorem Q2q {T:Nat} {r0 r1:List (List LV)} {at_:Tm} {l:List Ct} (ha:Va at_) (hl:∀ x∈l,Cp x.p) (hn:l.length≤1000):Ge Tryz.prog 97 [.one (.ow 0 0),.agg (ta at_),.one (.row (Ur l))] [.blk T (crz (.row r0) (.row r1))] [] [.blk T (Rp ⟨at_,(Uz l).map fresh,0⟩ r0 r1)]:=by
 have cl:=Zcz (T:=T) (r0:=r0) (r1:=r1) ha hl hn;refine Fv Tryz.func97 rfl ?_;exact ed tt [] [0] [.g 12 false rfl,.c [0] cl] rfl trivial
theorem eB {a b:Bool} (h:a=b):TV.one (LV.bool a)=.one (.bool b):=h ▸ rfl
theorem Q2r {T:Nat} {c:Cr} {r0 r1:List (List LV)} {at_:Tm} {l:List Ct} {ws:List Wt} {k:Int} (hc:CrOk c) (ha:Va at_) (hk:Qe7 at_ c.now=some k) (h0:0≤k) (hl:∀ x∈l,Cp x.p) (hn:l.length≤1000) (h:Lm c.l at_ (Uz l)=some ws):Ge Tryz.prog 97 [.one (.ow 0 0),.agg (ta at_),.one (.row (Ur l))] [.blk T (Rp c r0 r1)] [] [.blk T (Rp ⟨at_,ws,c.ev⟩ r0 r1)]:=by
 have cl:=Qyu (T:=T) (r0:=r0) (r1:=r1) hc ha hl hn h;have cc:=Qiv ha.tb hc.n.tb hk;refine Fv Tryz.func97 rfl ?_;exact ed tt [] [0] [.g 12 true rfl,.c [] cc,.r 20 (eB (show decide (0<=k)=true by simpa using h0)),.c [0] cl] rfl trivial
theorem Qhz:∀ {k:Nat} {g:List Int} {l:List (List Int)},Pb g->Qfq k g=some l->l.length≤k/\∀ p∈l,Pb p
 | 0,_,_,_,h=>by cases h
 |
  k+1,g,l,hg,h=>by
  simp only [Qfq] at h
  split at h
  ·injection h with h; subst h; exact ⟨by simp,λp hp=>by cases hp⟩
  ·obtain ⟨d,hd,h⟩:=Qf.1 h;obtain ⟨rfl,hdp⟩:=Qkq hd;obtain ⟨x,hx,h⟩:=Qf.1 h;obtain ⟨q,hq,h⟩:=Qf.1 h;obtain ⟨r,hr,h⟩:=Qf.1 h;injection h with h; subst h;obtain ⟨i1,i2⟩:=Qhz (Qf1 hg hdp hx) hr;refine ⟨by simp; exact i1,λp hp=>?_⟩;rcases Qo.1 hp with rfl | hp
   ·exact Qw9 hq
   ·exact i2 p hp
theorem Q6p {a:List Int} {l:List (List Int)} (ha:Pb a) (h:Qfq 66 (Ui a)=some l):W8 Tryz.prog 284 [pr a] [.one (.row (Tk l))]:=by
 have hp:=Ha ha;refine Fv Tryz.func284 rfl ?_;refine go tt [.o 3 52 1,.c [] (Lb ha)] rfl trivial ?_;refine lp (S:=Nat×List (List Int)×List Int) 1 (λL1 s=>(4,.v (pr s.2.2))::(3,.v (.one (.orow 0 1 none)))::L1) (λs=>[.row false 52 1 (Tk s.2.1)]) (λs=>s.1) (λs=>Pb s.2.2/\s.2.1.length+s.1<=66/\∃ m,Qfq s.1 s.2.2=some m/\s.2.1++m=l) (66,[],Ui a) ⟨hp,Qn _,l,h,rfl⟩ rfl (λ_ _=>rfl) rfl λ⟨k,out,g⟩ ⟨j1,j2,m,j3,j4⟩=>?_
 dsimp only at j1 j2 j3 j4 ⊢;cases k with
 | zero=>cases j3
 |
  succ k =>
  simp only [Qfq] at j3
  split at j3
  ·rename_i h0;injection j3 with j3; subst j3;rw [Xe] at j4;subst j4;exact en tt [.c [] (Pz _),.f (by simp; omega)] rfl rfl trivial
  ·rename_i h0;obtain ⟨d,hd,j3⟩:=Qf.1 j3;obtain ⟨rfl,hdp⟩:=Qkq hd;obtain ⟨x,hx,j3⟩:=Qf.1 j3;obtain ⟨q,hq,j3⟩:=Qf.1 j3;obtain ⟨r,hr,j3⟩:=Qf.1 j3;injection j3 with j3; subst j3;have hxp:=Qf1 j1 hdp hx;refine go tt [.c [] (Pz _),.t (by simp; omega),.c [] (Em j1.ln j1.bd),.c [] (Qzg j1 hdp hx),.c [] (Q6x j1 hxp hq),.s (sz:=1) (l:=[[pl q]]) (λc hc=>by rw [Qm.1 hc]; rfl)] rfl (by simp [W6,Cw]; omega) ?_;exact rd (k,out++[q],x) (by dsimp only; omega) ⟨hxp,by simp; omega,r,hr,by rw [<-j4]; simp⟩ (by rw [Qkt]; rfl)
theorem Qjp:∀ {l r:List (List Int)},Qlw l=some r->r.length=l.length/\∀ i w,l[i]? = some w->(match l[i+1]? with | some v=>∃ f,O2 w v=some f/\r[i]? = some f | none=>r[i]? = some w)
 | [],r,h=>by injection h with h; subst h; exact ⟨rfl,λi w hw=>by simp at hw⟩
 |
  [w],r,h=>by
  injection h with h; subst h;refine ⟨rfl,λi x hx=>?_⟩;cases i with
  | zero=>simpa using hx
  | succ i=>simp at hx
 |
  w::v::l,r,h=>by
  simp only [Qlw] at h;obtain ⟨f,hf,h⟩:=Qf.1 h;obtain ⟨s,hs,h⟩:=Qf.1 h;injection h with h; subst h;obtain ⟨i1,i2⟩:=Qjp hs;refine ⟨by simp [i1],λi x hx=>?_⟩;cases i with
  |
   zero =>
   injection hx with hx; subst hx;exact ⟨f,hf,rfl⟩
  |
   succ i =>
   have:=i2 i x (by simpa using hx);simpa using this
theorem Qpe:∀ {l r:List (List Int)},(∀ p∈l,Pb p)->Qlw l=some r->∀ p∈r,Pb p
 | [],r,_,h=>by injection h with h; subst h; exact λp hp=>by cases hp
 | [w],r,hl,h=>by injection h with h; subst h; exact hl
 |
  w::v::l,r,hl,h=>by
  simp only [Qlw] at h;obtain ⟨f,hf,h⟩:=Qf.1 h;obtain ⟨s,hs,h⟩:=Qf.1 h;injection h with h; subst h;intro p hp;rcases Qo.1 hp with rfl | hp
  ·exact Qw9 hf
  ·exact Qpe (λp hp=>hl p (Qi _ hp)) hs p hp
theorem Q2p {a:List Int} {l r:List (List Int)} (ha:Pb a) (h:Qfq 66 (Ui a)=some l) (hr:Qlw l=some r):W8 Tryz.prog 256 [pr a] [.one (.row (Tk r))]:=by
 obtain ⟨i1,i2⟩:=Qhz (Ha ha) h;obtain ⟨j1,j2⟩:=Qjp hr;have hw:=Cw l;refine Fv Tryz.func256 rfl ?_;refine go tt [.c [] (Q6p ha h),.i (Tk l).length,.i (Tk l).length] rfl (by simp [W6,hw]; omega) ?_;rw [hw,De λi=>[pl (r.getD i [])]];refine lp (S:=Nat) 1 (λL1 k=>(14,.v (.one (.int .i64 (k:Int))))::L1) (λk=>[.row false 52 1 (fil (λi=>[pl (r.getD i [])]) [.nils] l.length k)]) (λk=>l.length-k) (λk=>k<=l.length) 0 (Qg _) rfl (λ_ _=>rfl) rfl λk hk=>?_
 by_cases hlt:k<l.length
 ·obtain ⟨w,hx⟩:=gxE (l:=l) (i:=k) hlt;have e:=A5 (λi=>[pl (r.getD i [])]) [.nils] hlt;have hg:=j2 k w hx;by_cases h2:k+1<l.length
  ·obtain ⟨v,hv⟩:=gxE (l:=l) (i:=k+1) h2;rw [hv] at hg;obtain ⟨f,f1,f2⟩:=hg;have e2:r.getD k []=f:=by rw [Qh,f2]; rfl
   rw [e2] at e;refine go tt [.t (by simp [hw]; omega),.x (Hw hx),.i k,.t (by simp [hw]; omega),.x (i:=k+1) (Hw hv),.c [] (Q6x (i2 w (Qa hx)) (i2 v (Qa hv)) f1),.i k] rfl (by simp [W6,Ll,hw]; omega) ?_;rw [List.set_set,e];exact rd (k+1) (by omega) hlt rfl
  ·have hv:l[k+1]? = none:=Qu (by omega);rw [hv] at hg;have e2:r.getD k []=w:=by rw [Qh,hg]; rfl
   rw [e2] at e;refine go tt [.t (by simp [hw]; omega),.x (Hw hx),.i k,.f (by simp [hw]; omega)] rfl (by simp [W6,Ll,hw]; omega) ?_;rw [e];exact rd (k+1) (by omega) hlt rfl
 ·obtain rfl:k=l.length:=by omega
  have e:fil (λi=>[pl (r.getD i [])]) [.nils] l.length l.length=Tk r:=by
   rw [A4,<-j1];refine Xf λi=>?_
   simp only [Tk,Q8];by_cases hi:i<r.length
   ·rw [Xt hi]; simp [Qh,Qe hi]
   ·rw [Qu (by simpa using hi),Qu (by simpa using hi)]; rfl
  rw [e];exact en tt [.f (by simp [hw])] rfl rfl trivial
theorem Qxf {p:List Int} (tp:Ud p):Ui (Ui p)=Ui p:=by
 by_cases h:p.length=0
 ·have e:Ui p=[]:=by unfold Ui; rw [if_pos h]
  rw [e]; rfl
 ·obtain ⟨h1,h2,h3,h4,_⟩:=Mp tp h;have hc:Rq (Ui p)=1:=by
   have h5:Rq (Ui p)∣1:=h3 _ λk=>by
    by_cases hk:k<(Ui p).length
    ·rw [Qh,Qe hk]; exact Cv _ (Xv hk)
    ·rw [Qh,Qu (by omega)]; exact Int.dvd_zero _
   have h6:0<=Rq (Ui p):=by unfold Rq; omega
   exact Int.eq_one_of_dvd_one h6 h5
  have hf:∀ q:List Int,0<Um q->Ga q=Rq q:=λq hq=>by unfold Ga; rw [if_neg (by omega)]
  have hf:=(hf _ h4).trans hc;have e0:∀ q:List Int,q.length≠0->Ui q=Nb q (Ga q):=λq hq=>by unfold Ui; rw [if_neg hq]
  have e:=e0 (Ui p) (by omega);rw [hf] at e;rw [e];unfold Nb;have e2:(Ui p).map (· / (1:Int))=Ui p:=by
   conv=>rhs; rw [<-List.map_id (Ui p)]
   exact X7 λz _=>by simp
  rw [e2];exact h1
theorem Q1z (i:Nat):(i:Int).tmod 2=((i % 2:Nat):Int):=rfl
theorem Zip {a:List Int} (ha:Pb a) (h:(Ui a).length=0):W8 Tryz.prog 222 [pr a] [pr []] :=
 w tt Tryz.func222 rfl [.c [] (Lb ha),.t (by simp [Qk h])] rfl rfl trivial
theorem Qay:∀ {l:List (List Int)} {i:Nat} {p o:List Int},Pb p->(∀ f∈l,Pb f)->Qds i p l=some o->Pb o
 | [],i,p,o,hp,_,h=>by simp only [Qds] at h; injection h with h; subst h; exact hp
 |
  f::l,i,p,o,hp,hl,h=>by
  simp only [Qds] at h
  split at h
  ·obtain ⟨q,hq,h⟩:=Qf.1 h;obtain ⟨rfl,hq'⟩:=Ax (Gg _ _) hq;exact Qay hq' (λf hf=>hl f (Qi _ hf)) h
  ·exact Qay hp (λf hf=>hl f (Qi _ hf)) h
theorem Q9q:Pb [1]:=⟨rfl,by decide,λz hz=>by rw [Qm.1 hz]; decide⟩
theorem Zlp {a o:List Int} (ha:Pb a) (h:Qxc a=some o):W8 Tryz.prog 222 [pr a] [pr o]:=by
 unfold Qxc at h
 split at h
 ·rename_i h0;injection h with h; subst h;exact Zip ha h0
 rename_i h0;obtain ⟨l,hl,h⟩:=Qf.1 h;obtain ⟨fs,hf,h⟩:=Qf.1 h;have hpa:=Ha ha;have hl':Qfq 66 (Ui (Ui a))=some l:=by rw [Qxf ha.t]; exact hl
 obtain ⟨i1,i2⟩:=Qhz (Ha ha) hl;have i3:=Qpe i2 hf;obtain ⟨j1,_⟩:=Qjp hf;have hw:=Cw fs;have co:=Qyy (p:=[1]) (by decide) (λz hz=>by rw [Qm.1 hz]; decide);rw [show trim [1]=[1] from rfl] at co;refine Fv Tryz.func222 rfl ?_;refine go tt [.c [] (Lb ha),.f (by simpa using h0),.c [] co,.c [] (Q2p hpa hl' hf)] rfl (by simp [W6]) ?_;refine lp (S:=Nat×List Int) 0 (λL1 s=>(16,.v (.one (.int .i64 (s.1:Int))))::(3,.v (pr s.2))::L1) (λ_=>[]) (λs=>fs.length-s.1) (λs=>s.1<=fs.length/\Pb s.2/\Qds s.1 s.2 (fs.drop s.1)=some o) (0,[1]) ⟨Qg _,Q9q,h⟩ rfl (λ_ _=>rfl) rfl λ⟨i,p⟩ ⟨k1,k2,k3⟩=>?_
 dsimp only at k1 k2 k3 ⊢;by_cases hlt:i<fs.length
 ·obtain ⟨f,hx⟩:=gxE (l:=fs) (i:=i) hlt;have hdr:fs.drop i=f::fs.drop (i+1):=by
   rw [Zj hlt]; congr 1;have:=Qe hlt; rw [hx] at this; injection this with this; exact this.symm
  rw [hdr] at k3;simp only [Qds] at k3;have pf:=i3 f (Qa hx);by_cases h2:i % 2=0
  ·rw [if_pos h2] at k3;obtain ⟨q,hq,k3⟩:=Qf.1 k3;obtain ⟨rfl,hq'⟩:=Ax (Gg _ _) hq;refine go tt [.t (by simp [hw]; omega),.x (Hw hx),.t (by rw [Q1z,h2]; rfl),.c [] (Qor k2.t pf.t (Zt k2.l (by decide)) (Zt pf.l (by decide)) k2.b pf.b (by decide))] rfl (by simp [W6]; omega) ?_;exact rd (i+1,Uo p f) (by dsimp only; omega) ⟨hlt,hq',k3⟩ rfl
  ·rw [if_neg h2] at k3;refine go tt [.t (by simp [hw]; omega),.x (Hw hx),.f (by rw [Q1z,show i % 2=1 by omega]; rfl)] rfl (by simp [W6]; omega) ?_;exact rd (i+1,p) (by dsimp only; omega) ⟨hlt,k2,k3⟩ rfl
 ·obtain rfl:i=fs.length:=by omega
  rw [Vn] at k3;simp only [Qds] at k3;injection k3 with k3; subst k3;exact en tt [.f (by simp [hw])] rfl rfl trivial
theorem A8 (z:Int):Uh (z.natAbs:Int)=Uh z:=by unfold Uh; simp
theorem Q6f {x y:LV} {z:Int} (hi:Gu x y z) (hs:Uh z<=4294967295):W8 Tryz.prog 280 [.agg [x,y]] [.agg (Fi (z.natAbs:Int))]:=by
 obtain ⟨b,l,rfl,rfl,hl,rfl⟩:=hi;have e:(Ue false (val l))=((Ue b (val l)).natAbs:Int):=by rw [G9]; rfl
 rw [<-e];exact w tt Tryz.func280 rfl [.c [] (Qbz hl (Qd (Tc hs) (by decide))),.c [] (Tf _ _)] rfl rfl trivial
theorem Zdp {n d:Int} (h0:d≠0) (hn:Uh n<=4294967295) (hd:Uh d<=4294967295):W8 Tryz.prog 281 [.agg (Fi n),.agg (Fi d)] [.agg (rl (Rat.divInt n d)),.one (.int .i64 0)] :=
 w tt Tryz.func281 rfl [.c [] (Ce (W9 d) hd),.c [] Lx,.f (by simpa using h0),.c [] (Ce (W9 n) hn),.c [] (Iz h0 hn hd)] rfl rfl trivial
theorem Q3w (l:List Int) (z:Int):most (l++[z])=if most l<z.natAbs then z.natAbs else most l:=by unfold most; rw [List.foldl_append]; rfl
theorem Q0w {s:Nat}:∀ {l:List Int},Bd s l->Uh (most l:Int)<=s:=λ{l}=>by
 suffices h:∀ (l:List Int) (m:Nat),Bd s l->Uh (m:Int)<=s->Uh ((l.foldl (λm z=>if m<z.natAbs then z.natAbs else m) m:Nat):Int)<=s from λhb=>h l 0 hb (by simp [Uh,sz])
 intro l
 induction l with
 | nil=>exact λm _ h=>h
 |
  cons z l ih =>
  intro m hb hm;refine ih _ (λy hy=>hb y (Qi _ hy)) ?_;show Uh ((if m<z.natAbs then z.natAbs else m:Nat):Int)<=s
  split
  ·rw [A8]; exact hb z (Qt ..)
  ·exact hm
def ozi:Option Nat->List LV
 | none=>[.bool false,.nils]
 | some m=>Fi (m:Int)
def ozr:Option Nat->List LV
 | none=>[.bool false,.row []]
 | some m=>Fi (m:Int)
theorem Zcu {p:List Int} (hp:Pb p) (h0:p.length≠0):W8 Tryz.prog 252 [pr p] [.agg (rl (Fg p)),.one (.int .i64 0)]:=by
 have hl:=hp.l;have hll:(p.take (p.length-1)).length=p.length-1:=by simp
 have hbt:Bd 16777216 (p.take (p.length-1)):=λz hz=>hp.b z (Ql hz)
 refine Fv Tryz.func252 rfl ?_;refine go tt [.c [] (Gm hp.t hp.ln hp.bd),.f (by simpa using h0),.r 18 (eI (b:=((p.length-1:Nat):Int)) (by simp; omega)),.i (p.length-1)] rfl (by simp [W6]; omega) ?_;rw [<-Ye];refine lp (S:=Nat×Option Nat) 2 (λL1 s=>(21,.v (.one (.int .i64 (s.1:Int))))::L1) (λs=>[.blk 74 [.bool false,.nils,.bool false,.nils],.blk 55 (ozi s.2)]) (λs=>p.length-1-s.1) (λs=>s.1<=p.length-1/\most ((p.take (p.length-1)).take s.1)=s.2.getD 0) (0,none) ⟨Qg _,rfl⟩ rfl (λ_ _=>rfl) rfl λ⟨i,o⟩ ⟨j1,j2⟩=>?_
 dsimp only at j1 j2 ⊢;by_cases hlt:i<p.length-1
 ·obtain ⟨z,hz⟩:=gxE (l:=(p.take (p.length-1))) (i:=i) (by omega);have bz:Uh z<=16777216:=hbt z (Qa hz);have hst:most ((p.take (p.length-1)).take (i+1))=if o.getD 0<z.natAbs then z.natAbs else o.getD 0:=by
   rw [Zx,hz]; show most (_++[z])=_; rw [Q3w,j2]
  have ca:=Q6f (W9 z) (Qd bz (by decide));have hl1:decide ((i:Int)<(((p.take (p.length-1)).map Fi).length:Int))=true:=by simp; omega
  have bm:Uh ((o.getD 0:Nat):Int)<=16777216:=by rw [<-j2]; exact Q0w λy hy=>hbt y (Ql hy)
  have hcm:Me (z.natAbs:Int) ((o.getD 0:Nat):Int)>0↔o.getD 0<z.natAbs:=by unfold Me; split <;> (try split) <;> omega
  have cc:W8 Tryz.prog 165 [.agg (Fi (z.natAbs:Int)),.agg (ozr o)] [.one (.int .i64 (Me (z.natAbs:Int) ((o.getD 0:Nat):Int)))]:=by
   cases o with
   | none=>exact Qe4 (W9 _) Nl (by rw [A8]; omega) (by decide)
   | some m=>exact Qe4 (W9 _) (W9 _) (by rw [A8]; omega) (Qd bm (by decide))
  by_cases hc:o.getD 0<z.natAbs
  ·rw [if_pos hc] at hst;have hd:decide (Me (z.natAbs:Int) ((o.getD 0:Nat):Int)>0)=true:=by simpa using hcm.2 hc
   cases o <;> (refine go tt [.t hl1,.x (Ff (f:=Fi) hz),.c [] ca,.c [] cc,.t hd] rfl (by simp [W6]; omega) ?_; exact rd (i+1,some z.natAbs) (by dsimp only; omega) ⟨hlt,hst⟩ rfl)
  ·rw [if_neg hc] at hst;have hd:decide (Me (z.natAbs:Int) ((o.getD 0:Nat):Int)>0)=false:=by
    have:=mt hcm.1 hc; simpa using this
   cases o with
   | none=>refine go tt [.t hl1,.x (Ff (f:=Fi) hz),.c [] ca,.c [] cc,.f hd] rfl (by simp [W6]; omega) ?_; exact rd (i+1,none) (by dsimp only; omega) ⟨hlt,hst⟩ rfl
   | some m=>refine go tt [.t hl1,.x (Ff (f:=Fi) hz),.c [] ca,.c [] cc,.f hd] rfl (by simp [W6]; omega) ?_; exact rd (i+1,some m) (by dsimp only; omega) ⟨hlt,hst⟩ rfl
 ·obtain rfl:i=p.length-1:=by omega
  rw [Qj (by omega)] at j2;have bl:Uh (Um p)<=16777216:=hp.b _ (Qkf h0);have ln:((Um p).natAbs:Int)≠0:=by have:=Ch hp.t h0; omega
  have cl:=No hp.t hp.ln hp.bd;have ca:=Q6f (W9 (Um p)) (Qd bl (by decide));have bm:Uh ((o.getD 0:Nat):Int)<=16777216:=by rw [<-j2]; exact Q0w hbt
  have cd:W8 Tryz.prog 239 [.agg (Fi ((Um p).natAbs:Int)),.agg (ozr o)] [.agg (Fi (((Um p).natAbs:Int)+(most (p.take (p.length-1)):Int)))]:=by
   rw [j2];cases o with
   | none=>exact Qb0 (W9 _) Nl (by rw [A8]; omega) (by decide)
   | some m=>exact Qb0 (W9 _) (W9 _) (by rw [A8]; omega) (Qd bm (by decide))
  have cm:=Zdp (n:=((Um p).natAbs:Int)+(most (p.take (p.length-1)):Int)) ln (Qd (Qau _ _) (by rw [A8,j2]; omega)) (by rw [A8]; omega);have hf:decide (((p.length-1:Nat):Int)<(((p.take (p.length-1)).map Fi).length:Int))=false:=by simp
  cases o <;> exact en tt [.f hf,.c [] cl,.c [] ca,.c [] cd,.c [] cm] rfl rfl trivial
theorem Zg2 {z:Int}:W8 Tryz.prog 296 [.agg (Fi z)] [.one (.int .i64 (Int.sign z))]:=by
 by_cases h0:z=0
 ·subst h0;exact w tt Tryz.func296 rfl [.t (by simp [Ua,Fl])] rfl rfl trivial
 ·have hl:(Up z.natAbs).length≠0:=λh=>h0 (Q3t.1 h)
  have hl':decide (((lm (Up z.natAbs)).length:Int)=0)=false:=by simpa [Ua] using hl
  by_cases h1:z<0
  ·rw [Xu h1];exact w tt Tryz.func296 rfl [.f hl',.t (by simpa using h1)] rfl rfl trivial
  ·rw [X4 (by omega)];exact w tt Tryz.func296 rfl [.f hl',.f (by simpa using h1)] rfl rfl trivial
theorem Q5q {p:List Int} (hp:Pb p):W8 Tryz.prog 294 [pr p] [.one (.int .i64 (Io p)),.one (.int .i64 (Qdc p))]:=by
 have hb:-1<=(Um p).sign/\(Um p).sign<=1:=by rcases Dy (Um p) with h | h | h <;> omega
 by_cases h:p.length % 2=0
 ·have e:Io p=-(Um p).sign:=by unfold Io; rw [if_pos h]
  rw [e];exact w tt Tryz.func294 rfl [.c [] (Gm hp.t hp.ln hp.bd),.c [] (No hp.t hp.ln hp.bd),.c [] Zg2,.t (by rw [Q1z]; simp [h])] rfl rfl (by simp [W6,Um] at hb ⊢; omega)
 ·have e:Io p=(Um p).sign:=by unfold Io; rw [if_neg h]
  rw [e];exact w tt Tryz.func294 rfl [.c [] (Gm hp.t hp.ln hp.bd),.c [] (No hp.t hp.ln hp.bd),.c [] Zg2,.f (by rw [Q1z]; simp; omega)] rfl rfl (by simp [W6])
theorem Q6r {p:List Int} (hp:Pb p):W8 Tryz.prog 293 [pr p] [.one (.int .i64 (Io p))]:=w tt Tryz.func293 rfl [.c [] (Q5q hp)] rfl rfl trivial
theorem Zdk {p:List Int} (hp:Pb p):W8 Tryz.prog 295 [pr p] [.one (.int .i64 (Qdc p))]:=w tt Tryz.func295 rfl [.c [] (Q5q hp)] rfl rfl trivial
theorem Ziw {q:Rat} (hq:Qs 4294967295 q):W8 Tryz.prog 254 [.agg (rl q)] [.agg (rl (-q))]:=by
 exact w tt Tryz.func254 rfl [.c [] (Qi7 hq),.c [] (Qi0 (W9 _) hq.1)] rfl rfl trivial
theorem Qrv {l:List (List Int)} {fid:Nat} {sg:List Int->Int} (hl:l.length≤1000) (hs:∀ p,-1≤sg p/\sg p≤1) (h:∀ p∈l,W8 Tryz.prog fid [pr p] [.one (.int .i64 (sg p))]):W8 Tryz.prog 290 [.one (.sh [.row (Tk l)]),.one (.fn fid [] [])] [.one (.int .i64 (Mw sg l:Nat))]:=by
 have hpl:=Cw l;refine Fv Tryz.func290 rfl ?_;refine go tt [] rfl trivial ?_;refine lp (S:=Nat) 0 (λL1 i=>(15,.v (.one (.int .i64 (i:Int))))::(5,.v (.one (.int .i64 ((tst sg l i).1:Int))))::(6,.v (.one (.int .i64 (tst sg l i).2)))::L1) (λ_=>[]) (λi=>l.length-i) (λi=>i<=l.length) 0 (Qg _) rfl (λ_ _=>rfl) rfl λi hi=>?_
 by_cases hlt:i<l.length
 ·obtain ⟨p,hp⟩:=gxE (l:=l) (i:=i) hlt;have hst:tst sg l (i+1)=Rz sg (tst sg l i) p:=Hh _ _ _ hp;obtain ⟨b1,b2,b3⟩:=Qqz hs l i;have b4:=hs p;by_cases h0:sg p=0
  ·refine go tt [.t (by simp [hpl]; omega),.x (Hw hp),.c [] (h p (Qa hp)),.t (by simpa using h0)] rfl (by simp [W6]; omega) ?_;exact rd (i+1) (by omega) hlt (by rw [hst,show Rz sg (tst sg l i) p=tst sg l i from by unfold Rz; rw [if_pos h0]]; rfl)
  ·by_cases h1:(tst sg l i).2=-(sg p)
   ·refine go tt [.t (by simp [hpl]; omega),.x (Hw hp),.c [] (h p (Qa hp)),.f (by simpa using h0),.t (by simpa using h1)] rfl (by simp [W6]; omega) ?_;exact rd (i+1) (by omega) hlt (by rw [hst,show Rz sg (tst sg l i) p=((tst sg l i).1+1,sg p) from by unfold Rz; rw [if_neg h0,if_pos h1]]; rfl)
   ·refine go tt [.t (by simp [hpl]; omega),.x (Hw hp),.c [] (h p (Qa hp)),.f (by simpa using h0),.f (by simpa using h1)] rfl (by simp [W6]; omega) ?_;exact rd (i+1) (by omega) hlt (by rw [hst,show Rz sg (tst sg l i) p=((tst sg l i).1,sg p) from by unfold Rz; rw [if_neg h0,if_neg h1]]; rfl)
 ·obtain rfl:i=l.length:=by omega
  refine en tt [.f (by simp [hpl])] rfl ?_ trivial;unfold tst Mw; rw [List.take_length]
theorem Qfe (p:List Int):(-1<=Io p/\Io p<=1)/\-1<=Qdc p/\Qdc p<=1:=by
 have hb:-1<=(Um p).sign/\(Um p).sign<=1:=by rcases Dy (Um p) with h | h | h <;> omega
 unfold Io Qdc
 split <;> omega
theorem Zcv {l:List (List Int)} (hl:l.length≤1000) (hp:∀ p∈l,Pb p):W8 Tryz.prog 255 [.one (.sh [.row (Tk l)])] [.one (.int .i64 (O6 l))]:=by
 have c1:W8 Tryz.prog 282 [.one (.sh [.row (Tk l)])] [.one (.int .i64 (Mw Io l:Nat))] :=
  w tt Tryz.func282 rfl [.c [] (Qrv hl (λp=>(Qfe p).1) λp h=>Q6r (hp p h))] rfl rfl trivial
 have c2:W8 Tryz.prog 283 [.one (.sh [.row (Tk l)])] [.one (.int .i64 (Mw Qdc l:Nat))] :=
  w tt Tryz.func283 rfl [.c [] (Qrv hl (λp=>(Qfe p).2) λp h=>Zdk (hp p h))] rfl rfl trivial
 have b1:Mw Io l<=l.length:=Bs (λp=>(Qfe p).1) l;have b2:Mw Qdc l<=l.length:=Bs (λp=>(Qfe p).2) l;exact w tt Tryz.func255 rfl [.c [] c1,.c [] c2] rfl rfl (by simp [W6]; omega)
theorem Qvd {l:List (List Int)} {lo hi:Rat} (hl:l.length<=1000):-1000<=Ho l lo hi/\Ho l lo hi<=1000:=by
 have b1:Mx l lo<=l.length:=Bs (λp=>Ab p lo) l;have b2:Mx l hi<=l.length:=Bs (λp=>Ab p hi) l;unfold Ho; split <;> omega
abbrev tal (l:List Tm):List (List LV):=l.map λt=>ta t
theorem Qh9 {p:List Int} {c:List (List Int)} (hp:Pb p):∀ {k:Nat} {lo hi:Rat} {n:Int} {r:List Tm},Qb lo->Qb hi->Dv p c k lo hi n=some r->∀ t∈r,Tb t
 | 0,_,_,_,_,_,_,h=>by cases h
 |
  k+1,lo,hi,n,r,hl,hh,h=>by
  simp only [Dv] at h
  split at h
  ·injection h with h; subst h; exact λt ht=>by cases ht
  ·split at h
   ·injection h with h; subst h;intro t ht; rw [Qm.1 ht]; exact ⟨hp,hl,hh⟩
   ·obtain ⟨m,hm,h⟩:=Qf.1 h;obtain ⟨rfl,qm⟩:=Qi8 hm;obtain ⟨x,hx,h⟩:=Qf.1 h;obtain ⟨y,hy,h⟩:=Qf.1 h;injection h with h; subst h;intro t ht;rcases Qx.1 ht with ht | ht
    ·exact Qh9 hp hl qm hx t ht
    ·exact Qh9 hp qm hh hy t ht
theorem Zkr (l:List Tm):∀ c∈tal l,c.length=9:=λc hc=>by obtain ⟨t,_,rfl⟩:=Zc.1 hc; rfl
theorem Qv6 {p:List Int} {c:List (List Int)} (hp:Pb p) (hcl:c.length≤1000) (hc:∀ q∈c,Pb q):∀ {k:Nat} {lo hi:Rat} {n:Int} {r:List Tm},Qb lo->Qb hi->k≤100000->-(1000*(100001-k:Nat))≤n/\n≤1000*(100001-k:Nat)->Dv p c k lo hi n=some r->r.length≤1000000->Ge Tryz.prog 253 [pr p,.one (.sh [.row (Tk c)]),.agg (rl lo),.agg (rl hi),.one (.int .i64 n)] [] [.one (.orow 0 9 none)] [.row false 79 9 (tal r)]
 | 0,_,_,_,_,_,_,_,_,h,_=>by cases h
 |
  k+1,lo,hi,n,r,hl,hh,hk,hn,h,hr=>by
  simp only [Dv] at h
  split at h
  ·rename_i h0;injection h with h; subst h;refine Fv Tryz.func253 rfl ?_;exact ed tt [] [2] [.t (by simpa using h0),.o 10 79 9] rfl trivial
  ·rename_i h0
   split at h
   ·rename_i h1;injection h with h; subst h;refine Fv Tryz.func253 rfl ?_;exact ed tt [] [2] [.f (by simpa using h0),.t (by simpa using h1),.c [] (Gm hp.t hp.ln hp.bd),.c [] (Lc hl.s32),.c [] (Lc hh.s32),.lo] rfl trivial
   ·rename_i h1;obtain ⟨m,hm,h⟩:=Qf.1 h;obtain ⟨rfl,qm⟩:=Qi8 hm;obtain ⟨x,hx,h⟩:=Qf.1 h;obtain ⟨y,hy,h⟩:=Qf.1 h;injection h with h; subst h;have hb:=Qvd (l:=c) (lo:=lo) (hi:=mid lo hi) hcl;rw [Q5] at hr;have c1:=Qv6 hp hcl hc hl qm (by omega) (by omega) hx (by omega);have c2:=Qv6 hp hcl hc qm hh (by omega) (by omega) hy (by omega);rw [show tal (x++y)=tal x++tal y from Xx];refine Fv Tryz.func253 rfl ?_;exact ed tt [] [3] [.f (by simpa using h0),.f (by simpa using h1),.c [] (Zg1 hl hh),.c [] (Ql8 hcl hc hl qm),.c [3] c1,.c [4] c2,.s (Zkr y)] rfl (by simp [W6]; omega)
theorem Zc4 {p:List Int} {r:List Tm} (hp:Pb p) (h:Qk5 p=some r) (hr:r.length<=1000000):W8 Tryz.prog 221 [pr p] [.one (tas r),.one (.int .i64 0)]:=by
 unfold Qk5 at h;obtain ⟨c,h1,h⟩:=Qf.1 h;obtain ⟨q,h2,h⟩:=Qf.1 h;obtain ⟨b,h3,h⟩:=Qf.1 h;obtain ⟨rfl,hb⟩:=Qi8 h3;obtain ⟨k1,k2⟩:=chain_ok hp h1;have hq:=Qf0 hp h2;have q0:q.length≠0:=by
  unfold C7 at h1;obtain ⟨a,a1,h1⟩:=Qf.1 h1;rw [h2] at a1; injection a1 with a1; subst a1
  split at h1
  ·cases h1
  ·assumption
 have qn:Qb (-Fg q):=⟨by rw [Rat.neg_num,Gj]; exact hb.1,by rw [Rat.neg_den]; exact hb.2⟩;have bb1:Mw Io c<=c.length:=Bs (λp=>(Qfe p).1) c;have bb2:Mw Qdc c<=c.length:=Bs (λp=>(Qfe p).2) c;have hn:-(1000*(100001-100000:Nat):Int)<=O6 c/\O6 c<=1000*(100001-100000:Nat):=by unfold O6; omega
 have cr:=Qv6 hq (by omega) k2 qn hb (Qn _) hn h hr;refine Fv Tryz.func221 rfl ?_;exact ed tt [1] [] [.c [] (Q6a hp h1),.f rfl,.c [] (Qi2 hp h2),.c [] (Zcu hq q0),.c [] (Ziw hb.s32),.c [] (Zcv (by omega) k2),.c [1] cr] rfl trivial
def Ub (l:List Pt):List (List LV):=l.map Fw
theorem O7 {l:List Pt} {i:Nat} {c:Pt} (h:l[i]? = some c):(Ub l)[i]? = some (Fw c):=Ff h
theorem Rj (l:List Pt):(Ub l).length=l.length:=by simp [Ub]
theorem Zc5:W8 Tryz.prog 249 [pr []] [.one .nilp,.one (.int .i64 2)]:=by
 have h:Tl []=some []:=rfl;exact w tt Tryz.func249 rfl [.c [] (Qi2 Qfz h),.t rfl] rfl rfl trivial
theorem Q59:W8 Tryz.prog 221 [pr []] [.one (.row []),.one (.int .i64 2)] :=
 w tt Tryz.func221 rfl [.c [] Zc5,.t rfl] rfl rfl trivial
theorem Zjz {a o:List Int} (ha:Pb a) (h:Qxc a=some o):Pb o:=by
 unfold Qxc at h
 split at h
 ·injection h with h; subst h; exact Qfz
 ·obtain ⟨l,hl,h⟩:=Qf.1 h;obtain ⟨fs,hf,h⟩:=Qf.1 h;exact Qay Q9q (Qpe (Qhz (Ha ha) hl).2 hf) h
theorem Q5s {p:List Int} {l:List Tm} (hp:Pb p) (h:Qcr p=some l) (hl:l.length<=1000000):W8 Tryz.prog 179 [pr p] [.one (tas l)]:=by
 unfold Qcr at h;obtain ⟨q,hq,h⟩:=Qf.1 h;have qp:=Zjz hp hq;have co:=Zlp hp hq
 split at h
 ·rename_i h0;injection h with h; subst h;obtain rfl:=Qk h0;exact w tt Tryz.func179 rfl [.c [] co,.c [] Q59,.t rfl] rfl rfl trivial
 ·exact w tt Tryz.func179 rfl [.c [] co,.c [] (Zc4 qp h hl),.f rfl] rfl rfl trivial
def ota:Option Tm->List LV
 | none=>zTr
 | some t=>ta t
theorem Zcy {p:List Int} {a:Tm} {l:List Tm} {r:Option Tm} (hp:Pb p) (ha:Tb a) (h:Qcr p=some l) (hl:l.length≤1000000) (ht:∀ t∈l,Tb t) (hr:Qbm a l=some r):W8 Tryz.prog 132 [pr p,.agg (ta a)] [.agg (ota r),.one (.bool r.isSome)]:=by
 have hll:(l.map λt=>ta t).length=l.length:=by simp
 refine Fv Tryz.func132 rfl ?_;refine go tt [.c [] (Q5s hp h hl)] rfl trivial ?_;refine lp (S:=Nat) 2 (λL1 i=>(11,.v (.one (.int .i64 (i:Int))))::L1) (λ_=>[.blk 79 (ta a),.blk 79 zTm]) (λi=>l.length-i) (λi=>i<=l.length/\Qbm a (l.drop i)=some r) 0 ⟨Qg _,hr⟩ rfl (λ_ _=>rfl) rfl λi ⟨hi,hf⟩=>?_
 by_cases hlt:i<l.length
 ·obtain ⟨t,hx⟩:=gxE (l:=l) (i:=i) hlt;have hdr:l.drop i=t::l.drop (i+1):=by
   rw [Zj hlt]; congr 1;have:=Qe hlt; rw [hx] at this; injection this with this; exact this.symm
  rw [hdr] at hf;simp only [Qbm] at hf;obtain ⟨c,c1,hf⟩:=Qf.1 hf;have cc:=Qiv (ht t (Qa hx)) ha c1;by_cases hc:0<c
  ·rw [if_pos hc] at hf;injection hf with hf; subst hf;exact en tt [.t (by simp; omega),.x (Qij hx),.c [] cc,.t (by simpa using hc)] rfl rfl trivial
  ·rw [if_neg hc] at hf;refine go tt [.t (by simp; omega),.x (Qij hx),.c [] cc,.f (by simpa using hc)] rfl (by simp [W6]; omega) ?_;exact rd (i+1) (by omega) ⟨hlt,hf⟩ rfl
 ·obtain rfl:i=l.length:=by omega
  rw [Vn] at hf;simp only [Qbm] at hf;injection hf with hf; subst hf;exact en tt [.f (by simp)] rfl rfl trivial
def Oi (now:Tm):List Wt->Option (List Wt)
 | []=>some []
 | w::l=>(if w.known=true then some w else (Qg0 w.c.p now).bind λr=>some ⟨w.c,true,r⟩).bind λw'=>(Oi now l).bind λr=>some (w'::r)
theorem Qfv {now:Tm}:∀ {l ws:List Wt},Oi now l=some ws->ws.length=l.length/\∀ (i:Nat) (w:Wt),l[i]? = some w->∃ v,ws[i]? = some v/\(w.known=true/\v=w\/w.known=false/\∃ r,Qg0 w.c.p now=some r/\v=⟨w.c,true,r⟩)
 | [],ws,h=>by injection h with h; subst h; exact ⟨rfl,λi x hx=>by simp at hx⟩
 |
  y::l,ws,h=>by
  simp only [Oi] at h;obtain ⟨v,hv,h⟩:=Qf.1 h;obtain ⟨r,hr,h⟩:=Qf.1 h;injection h with h; subst h;obtain ⟨a,b⟩:=Qfv hr;refine ⟨by simp [a],λi x hx=>?_⟩;cases i with
  |
   zero =>
   injection hx with hx; subst hx;refine ⟨v,rfl,?_⟩
   split at hv
   ·rename_i hk; injection hv with hv; exact .inl ⟨hk,hv.symm⟩
   ·rename_i hk;obtain ⟨q,hq,hv⟩:=Qf.1 hv;injection hv with hv;exact .inr ⟨by simpa using hk,q,hq,hv.symm⟩
  | succ i=>exact b i x (by simpa using hx)
theorem Q5r {p:List Int} {a:Tm} {r:Option Tm} (hp:Cp p) (ha:Va a) (h:Qg0 p a=some r):W8 Tryz.prog 132 [pr p,.agg (ta a)] [.agg (ota r),.one (.bool r.isSome)]:=by
 obtain ⟨l,l1,l2,l3,_⟩:=Qaf hp;unfold Qg0 at h;rw [l1] at h;exact Zcy (Dp.pb hp.dp) ha.tb l1 (by omega) (λt ht=>(l3 t ht).tb) h
theorem Zc0 {T:Nat} {c:Cr} {r0 r1:List (List LV)} {ws:List Wt} (hc:CrOk c) (h:Oi c.now c.l=some ws):Ge Tryz.prog 74 [.one (.ow 0 0)] [.blk T (Rp c r0 r1)] [] [.blk T (Rp { c with l:=ws } r0 r1)]:=by
 have hk:=hc.k;have hw:=Bt c.l;obtain ⟨h1,h2⟩:=Qfv h;refine Fv Tryz.func74 rfl ?_;refine go tt [.o 2 146 18,.c [0] (Qoq hc.n)] rfl trivial ?_;refine lp (S:=Nat) 3 (λL1 i=>(13,.v (.one (.int .i64 (i:Int))))::(2,.v (.one (.orow 1 18 none)))::L1) (λi=>[.blk T (Rp c r0 r1),.row false 146 18 (Iq (ws.take i)),.blk 79 (ta c.now)]) (λi=>c.l.length-i) (λi=>i<=c.l.length) 0 (Qg _) rfl (λ_ _=>rfl) rfl λi hi=>?_
 by_cases hlt:i<c.l.length
 ·obtain ⟨w,hx⟩:=gxE (l:=c.l) (i:=i) hlt;obtain ⟨v,hv,h3⟩:=h2 i w hx;have hm:∀ y∈[wl v],y.length=18:=λy hy=>by rw [Qm.1 hy]; rfl
  have hg:=Qgg hv;have hl:decide ((i:Int)<((Iq c.l).length:Int))=true:=by simp [hw]; omega
  rcases h3 with ⟨k1,rfl⟩ | ⟨k1,r,k2,rfl⟩
  ·obtain ⟨vc,vk,vf⟩:=v;cases vf <;> (refine go tt [.t hl,.x (Sa hx),.f (by rw [show vk=true from k1]; rfl),.s (sz:=18) hm] rfl (by simp [W6,Bt]; omega) ?_; exact rd (i+1) (by omega) hlt (by rw [hg]; rfl))
  ·have cg:=Q5r (hc.l w (Qa hx)).p hc.n k2;obtain ⟨wc,wk,wf⟩:=w;cases r <;> cases wf <;> (refine go tt [.t hl,.x (Sa hx),.t (by rw [show wk=false from k1]; rfl),.c [] cg,.s (sz:=18) hm] rfl (by simp [W6,Bt]; omega) ?_; exact rd (i+1) (by omega) hlt (by rw [hg]; rfl))
 ·obtain rfl:i=c.l.length:=by omega
  rw [<-h1,Q4];exact ed tt [1] [0] [.f (by simp [hw,h1])] rfl trivial
def Qtg (ws:List Wt):Option (Option Tm):=match ws.filterMap (·.fails) with
 | []=>some none
 | b::l=>(A9 b l).map some
theorem Qh1 {c:Cr} {ws:List Wt} (hc:CrOk c) (h:Oi c.now c.l=some ws):CrOk { c with l:=ws }:=by
 obtain ⟨h1,h2⟩:=Qfv h;refine ⟨hc.n,λv hv=>?_,by show ws.length<=1000; rw [h1]; exact hc.k⟩;obtain ⟨i,hi⟩:=Jn hv;have hil:i<c.l.length:=by rw [<-h1]; exact (Qc.1 hi).1
 obtain ⟨v',h3,h4⟩:=h2 i _ (Qe hil);rw [hi] at h3; injection h3 with h3; subst h3;have hw:=hc.l _ (Xv hil);rcases h4 with ⟨_,rfl⟩ | ⟨_,r,k2,rfl⟩
 ·exact hw
 ·obtain ⟨r',r1,r2⟩:=Q9f hw.p hc.n;rw [k2] at r1; injection r1 with r1; subst r1;refine ⟨hw.p,λt ht=>?_⟩;have ht:r=some t:=ht;subst ht;exact r2.2.1
theorem Zc1 {T:Nat} {c:Cr} {r0 r1:List (List LV)} {ws:List Wt} {r:Option Tm} (hc:CrOk c) (h:Oi c.now c.l=some ws) (hr:Qtg ws=some r):Ge Tryz.prog 29 [.one (.ow 0 0)] [.blk T (Rp c r0 r1)] [.agg (ota r),.one (.bool r.isSome)] [.blk T (Rp { c with l:=ws } r0 r1)]:=by
 have hcl:=Zc0 (T:=T) (r0:=r0) (r1:=r1) hc h;have hc':=Qh1 hc h;have hk:=hc'.k;have hw:=Bt ws;have hvb:∀ t∈ws.filterMap (·.fails),Tb t:=λt ht=>by
  obtain ⟨w,w1,w2⟩:=Jk.1 ht;exact ((hc'.l w w1).f t w2).tb
 refine Fv Tryz.func29 rfl ?_;refine go tt [.c [0] hcl,.o 4 79 9] rfl trivial ?_;refine lp (S:=Nat) 3 (λL1 i=>(14,.v (.one (.int .i64 (i:Int))))::(4,.v (.one (.orow 2 9 none)))::L1) (λi=>[.blk T (Rp { c with l:=ws } r0 r1),.blk 79 zTm,.row false 79 9 (tal ((ws.take i).filterMap (·.fails)))]) (λi=>ws.length-i) (λi=>i<=ws.length) 0 (Qg _) rfl (λ_ _=>rfl) rfl λi hi=>?_
 by_cases hlt:i<ws.length
 ·obtain ⟨w,hx⟩:=gxE (l:=ws) (i:=i) hlt;have hl:decide ((i:Int)<((Iq ws).length:Int))=true:=by simp [hw]; omega
  have hfl:((ws.take i).filterMap (·.fails)).length<=i:=Qd (List.length_filterMap_le _ _) (by rw [Qp]; omega);have hg:(ws.take (i+1)).filterMap (·.fails)=(ws.take i).filterMap (·.fails)++(match w.fails with | none=>[] | some t=>[t]):=by
   rw [Zx,hx,List.filterMap_append];show _++List.filterMap (·.fails) [w]=_;cases hwf:w.fails <;> simp [hwf]
  obtain ⟨wc,wk,wf⟩:=w;have hk:ws.length<=1000:=hk;cases wf with
  |
   none =>
   refine go tt [.t hl,.x (Sa hx),.f rfl] rfl (by simp [W6]; omega) ?_;exact rd (i+1) (by omega) hlt (by rw [hg]; simp; rfl)
  |
   some t =>
   refine go tt [.t hl,.x (Sa hx),.t rfl,.s (l:=[ta t]) (sz:=9) (λc hc=>by rw [Qm.1 hc]; rfl)] rfl (by simp [W6]; omega) ?_;exact rd (i+1) (by omega) hlt (by rw [hg]; simp [tal]; rfl)
 ·obtain rfl:i=ws.length:=by omega
  rw [Q4];have hf:decide ((ws.length:Int)<((Iq ws).length:Int))=false:=by simp [hw]
  have hln:(ws.filterMap (·.fails)).length<=1000:=Qd (List.length_filterMap_le _ _) hk;unfold Qtg at hr;cases hfm:ws.filterMap (·.fails) with
  |
   nil =>
   rw [hfm] at hr;injection hr with hr; subst hr;exact ed tt [] [0] [.f hf,.p 2,.c [] Q5v] rfl trivial
  |
   cons b l =>
   rw [hfm] at hr hvb hln;obtain ⟨m,m1,rfl⟩:=Vf.1 hr;have cl:=Ix (hvb b (Qt ..)) (λt ht=>hvb t (Qi _ ht)) (by simp at hln; omega) m1;exact ed tt [] [0] [.f hf,.p 2,.c [] cl] rfl trivial
end Orr
