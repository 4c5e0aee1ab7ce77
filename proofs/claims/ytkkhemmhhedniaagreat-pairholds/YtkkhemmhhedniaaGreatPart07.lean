/- T19 T20 T21 T22 T23 T24 T25 G1 G2 SortL KinL K1 K2 F6 F7 F8 F9 G3 G4 -/
import Derived.Test.YtkkhemmhhedniaaGreatPart06
import Derived.Test.YtkkhemmhhedniaaGreatPart00
import Derived.Test.YtkkhemmhhedniaaGreatPart05
set_option linter.all false
namespace Orq
open Orr Go
structure Pr1 (p:List Int):Prop where
 t:Ue p
 m:Prm p
 l:0<Un p
theorem Pr1.n {p:List Int} (h:Pr1 p):p.length≠0:=λe=>by
 have:=h.l;rw [Qh e] at this;exact absurd this (by decide)
theorem Q17 {p:List Int} (tp:Ue p) (h:p.length≠0):Pr1 (Ug p):=by
 obtain ⟨h1,h2,h3,h4,_⟩:=Ta tp h;exact ⟨h1,h3,h4⟩
theorem Pr1.one {p:List Int} (h:Pr1 p) (hl:p.length<2):p=[1]:=by
 have hn:=h.n;obtain ⟨c,rfl⟩:∃ c,p=[c]:=Ke.1 (by omega);have h1:=h.m c λk=>by cases k <;> simp
 have h2:0<c:=h.l;have:=Int.le_of_dvd (by decide) h1;rw [show c=1 by omega]
theorem Zdf {p g h:List Int} (hp:Prm p) (e:∀ t,Uf p t=Uf g t*Uf h t):Prm h:=λd hd=>by
 refine hp d λk=>?_
 have:=M7 (p:=p) (q:=Ff g h) (λt=>by rw [e,U9]) k;rw [this];have e2:∀ t,Uf (Ff g h) t=(d:Rat)*Uf (Ff g (h.map (· / d))) t:=λt=>by
  have h1:Uf h t=(d:Rat)*Uf (h.map (· / d)) t:=by
   have:=M8 d 0 t (max h.length (h.map (· / d)).length) (h.map (· / d)) [] h (by omega) (by simp) (by omega) λk=>by
    rw [Qce,Kt (hd k)]; simp
   rw [this]; simp only [Uf]; push_cast; grind
  rw [U9,U9,h1]; grind
 have:=M7 (p:=Ff g h) (q:=Ut (Ff g (h.map (· / d))) d) (λt=>by rw [e2,Rm]; grind) k;rw [this,Rf]; exact Kh _ _
theorem Zde {p g h:List Int} (hp:Pr1 p) (hg:0<Un g) (tg:Ue g) (th:Ue h) (e:∀ t,Uf p t=Uf g t*Uf h t):Pr1 h:=by
 obtain ⟨p1,p2⟩:=Hi hp.t hp.n e;have:=Qrn tg th hp.t e p1 p2;refine ⟨th,Zdf hp.m e,?_⟩;have hl:=hp.l;rw [this] at hl;rcases Jy (Un h) 0 with h1 | h1 | h1
 ·have:=V0 hg h1; omega
 ·rw [h1] at hl; omega
 ·exact h1
structure Sqp (p g q:List Int):Prop where
 pp:Pr1 p
 pg:Pr1 g
 pq:Pr1 q
 e:∀ t,Uf p t=Uf g t*Uf q t
 c:∃ U V,∀ t,Uf g t=ev U t*Uf p t+ev V t*dv (cz p) t
 d:∃ z,∀ t,dv (cz p) t=Uf g t*ev z t
theorem Sqp.num {p g q:List Int} (h:Sqp p g q) {d:List Rat} (h1:A9 d (cz q)) (h2:A9 d (Mg (cz q))):∃ c:Rat,c≠0/\∀ t,ev d t=c:=by
 obtain ⟨U,V,hc⟩:=h.c;have hpow:=sqf (k:=1) (a:=cz p) (g:=cz g) (q:=cz q) (d:=d) (U:=U) (V:=V) (by decide) (λt=>by rw [Ud,Ud,Ud,h.e]) (λt=>by rw [Ud,Ud,hc]; grind) h1 h2;rcases Qfm d with h3 | ⟨m,_,h3⟩
 ·obtain ⟨u,hu⟩:=h1;exact absurd (λt=>by rw [<-Ud,hu,h3]; grind) (Qfg h.pq.t (by have:=h.pq.n; omega))
 ·obtain rfl:=Ql8 h3 (Qax h.pg.t (by have:=h.pg.n; omega)) hpow;refine ⟨d.getD 0 0,h3.1,λt=>?_⟩;cases d with
  | nil=>exact absurd (by simp) h3.1
  |
   cons c l =>
   have:=By (p:=l) λk=>by have:=h3.2 (k+1) (by omega); rwa [Q0] at this
   simp only [ev,this,Zp]; grind
theorem Sqp.bez {p g q:List Int} (h:Sqp p g q):∃ X Y,∀ t,ev X t*ev (cz q) t+ev Y t*dv (cz q) t=1:=by
 obtain ⟨d,U,V,h1,h2,h3⟩:=Q6d (cz q) (Mg (cz q));obtain ⟨c,hc,hd⟩:=h.num h1 h2;refine ⟨Pv (1 / c) U,Pv (1 / c) V,λt=>?_⟩;have h5:=h3 t;rw [hd,Ht] at h5;have h4:1 / c*c=1:=Zf hc;rw [U0,U0];have:1 / c*ev U t*ev (cz q) t+1 / c*ev V t*dv (cz q) t=1 / c*(ev U t*ev (cz q) t+ev V t*dv (cz q) t):=by grind
 rw [this,<-h5,h4]
theorem Zip {n s s':Nat} (h:Szz n s) (hs:s'<=s):Szz n s':=⟨h.1,Qa (Qw _ (by omega)) h.2⟩
theorem Q9i {n s:Nat} (h:Szz n s):s<=8388600:=by
 have:2*(s+8)*1<=2*(s+8)*3^(n-1):=Zg _ (Zv (by decide));have:=h.2; omega
theorem Qmy {s:Nat} {p:List Int} (h:Bd s p) (hl:p.length<=10):Bd (s+4) (U7 p):=Qgg h (t:=4) (by omega)
theorem Q0d {n s:Nat} (hz:Szz n (s+73)) {p:List Int} (pp:Pr1 p) (l2:2<=p.length) (lp:p.length<=n) (bp:Bd (s+69) p) {p0 h0:List Int} (b0:Bd s p0) (l0:p0.length<=10) (t0:Ue p0) (th0:Ue h0) (z0:p0.length≠0) (e0:∀ t,Uf p0 t=Uf h0 t*Uf p t) :
 ∃ g q,chk (U7 p)=some (U7 p)/\Om p (U7 p)=some g/\Oi p g=some q/\Sqp p g q/\g.length<p.length:=by
 have hn:=hz.1;have hs:=Q9i hz;have bd:=Qmy bp (by omega);have ld:=Tl p;have td:Ue (U7 p):=Us _ _;obtain ⟨g,e1,hg,m,l⟩:=Qbu hz pp.t td lp (by omega) (W8 bp (by omega)) bd (.inl pp.n);obtain ⟨q,tq,eq⟩:=Q58 m hg.da;have hdnz:(U7 p).length≠0:=λh=>by
  have h1:=Sa p (p.length-2);rw [Qh h,show p.length-2+1=p.length-1 by omega] at h1;have h2:p.getD (p.length-1) 0≠0:=Gq pp.t (by omega);rcases Ya.1 (h1.symm.trans (by simp)) with h3 | h3
  ·exact h2 h3
  ·omega
 have pg:Pr1 g:=⟨hg.t,m,l⟩;have hql:=Q8a (s:=s+69) pp.t hg.t tq pp.n (by omega) bp (by omega) eq;refine ⟨g,q,Df (by omega) (W8 bd (by omega)),e1,hql,⟨pp,pg,Zde pp l hg.t tq eq,eq,?_,?_⟩,?_⟩
 ·obtain ⟨U,V,hc⟩:=hg.c;exact ⟨U,V,λt=>by rw [hc,Dw]⟩
 ·obtain ⟨z,hz⟩:=hg.db;exact ⟨z,λt=>by rw [<-Dw,<-Ud,hz,Ud]⟩
 ·obtain ⟨z,tz,ez⟩:=Q58 m hg.db;obtain ⟨q1,q2⟩:=Hi td hdnz ez;have:=Sp hg.t tz td ez q1 q2;omega
theorem Zc7:Sqp [1] [1] [1]:=by
 have p1:Pr1 [1]:=⟨rfl,λd hd=>by have:=hd 0; rwa [Zp] at this,by decide⟩;have e1:∀ t,Uf [1] t=1:=λt=>by simp only [Uf]; push_cast; grind
 exact ⟨p1,p1,p1,λt=>by rw [e1]; grind,⟨[1],[],λt=>by rw [e1,Hy]; simp only [ev]; grind⟩,⟨[],λt=>by simp only [cz,Zw,Jb,dv,ev]; grind⟩⟩
structure Okp (n s:Nat) (p:List Int):Prop where
 z:Szz n (s+73)
 t:Ue p
 nz:p.length≠0
 l:p.length<=n
 b:Bd s p
theorem Okp.pr {n s:Nat} {p:List Int} (h:Okp n s p):Pr1 (Ug p)/\(Ug p).length=p.length/\Bd s (Ug p):=by
 obtain ⟨h1,h2,h3,h4,h5,_⟩:=Ta h.t h.nz;exact ⟨⟨h1,h3,h4⟩,h2,h5 s h.b⟩
theorem Qan {n s:Nat} {p:List Int} (h:Okp n s p):∃ g q,Ss p=some q/\Sqp (Ug p) g q:=by
 obtain ⟨pp,hl,hb⟩:=h.pr;have hn:=h.z.1;have:=h.l;unfold Ss;by_cases h2:(Ug p).length<2
 ·rw [if_pos h2,pp.one h2]; exact ⟨[1],[1],rfl,Zc7⟩
 ·rw [if_neg h2];obtain ⟨g,q,h3,h4,h5,h6,_⟩:=Q0d h.z pp (by omega) (by omega) (W8 hb (by omega)) (p0:=Ug p) (h0:=[1]) hb (by omega) pp.t rfl pp.n λt=>by simp only [Uf]; push_cast; grind
  exact ⟨g,q,by rw [h3]; show (Om (Ug p) (U7 (Ug p))).bind _=_; rw [h4]; exact h5,h6⟩
inductive LW:List Int->List (List Int)->Prop
 | nil:LW [1] []
 | cons {g h w:List Int} {ws:List (List Int)} (hs:Sqp g h w) (hl:LW h ws):LW g (w::ws)
theorem Zhs {g:List Int} {ws:List (List Int)} (h:LW g ws):∀ t,Uf g t=ev (Er (ws.map cz)) t:=by
 induction h with
 | nil=>intro t; simp only [Jb,Er,Uf]; rw [Hy]; push_cast; grind
 | cons hs hl ih=>intro t; simp only [Zw,Er]; rw [Uh,Ud,hs.e,ih]; grind
theorem Qy8 {g:List Int} {w v:List Int} {ws:List (List Int)} (h:LW g (w::v::ws)):∃ f,Ue f/\∀ t,Uf w t=Uf f t*Uf v t:=by
 cases h with
 |
  @cons _ h _ _ hs hl =>
  cases hl with
  |
   @cons _ h2 _ _ hs2 hl2 =>
   obtain ⟨X,Y,hb⟩:=hs2.bez;obtain ⟨z,hz⟩:=hs.d;have hd:=Zd9 (a:=cz g) (g:=cz h) (q:=cz w) (z:=z) (r:=cz v) (X:=X) (Y:=Y) (n:=h.length-1) (λt=>by rw [Ud,Ud,Ud,hs.e]) (λt=>by rw [hz,Ud]) (Qax hs.pg.t (by have:=hs.pg.n; omega)) hb
    ⟨Ft (cz h2) (cz w),λt=>by rw [Uh,Ud,Ud,Ud,Ud,hs.e,hs2.e]; grind⟩
   obtain ⟨f,tf,ef⟩:=Q58 hs2.pq.m hd;exact ⟨f,tf,λt=>by rw [ef]; grind⟩
theorem Qrs {g w:List Int} {ws:List (List Int)} (h:LW g (w::ws)):∀ v∈w::ws,Pr1 v/\A9 (cz v) (cz w):=by
 have key:∀ (ws:List (List Int)) (g w:List Int),LW g (w::ws)->∀ v∈w::ws,Pr1 v/\A9 (cz v) (cz w):=by
  intro ws
  induction ws with
  |
   nil =>
   intro g w h v hv;rw [Qt.1 hv];cases h with
   | cons hs hl=>exact ⟨hs.pq,dvd_refl _⟩
  |
   cons u ws ih =>
   intro g w h v hv;have hn:=Qy8 h;cases h with
   |
    @cons _ h _ _ hs hl =>
    rcases Qo.1 hv with rfl | hv
    ·exact ⟨hs.pq,dvd_refl _⟩
    ·obtain ⟨i1,i2⟩:=ih h u hl v hv;obtain ⟨f,_,hf⟩:=hn;exact ⟨i1,dvd_trans i2 ⟨cz f,λt=>by rw [Ud,Ud,Ud,hf]; grind⟩⟩
 exact key ws g w h
theorem lay_ok {n s:Nat} (hz:Szz n (s+73)) {p0:List Int} (b0:Bd s p0) (l0:p0.length<=10) (t0:Ue p0) (z0:p0.length≠0):∀ (k:Nat) (g h0:List Int),Pr1 g->g.length<=k->g.length<=n->Ue h0->(∀ t,Uf p0 t=Uf h0 t*Uf g t)->∃ ws,Qel k g=some ws/\LW g ws
 | 0,g,_,pg,hk,_,_,_=>absurd pg.n (by omega)
 |
  k+1,g,h0,pg,hk,hn,th0,e0=>by
  simp only [Qel];by_cases h2:g.length<2
  ·rw [if_pos h2,pg.one h2]; exact ⟨[],rfl,.nil⟩
  ·rw [if_neg h2];have bg:Bd (s+69) g:=Am b0 l0 t0 pg.t th0 z0 λt=>by rw [e0]; grind
   obtain ⟨h,w,h3,h4,h5,h6,h7⟩:=Q0d hz pg (by omega) hn bg b0 l0 t0 th0 z0 e0;obtain ⟨ws,i1,i2⟩:=lay_ok hz b0 l0 t0 z0 k h (Ff h0 w) h6.pg (by omega) (by omega) (Gi _ _) λt=>by rw [e0,U9,h6.e]; grind
   refine ⟨w::ws,?_,.cons h6 i2⟩;rw [h3];show (Om g (U7 g)).bind _=_;rw [h4];show (Oi g h).bind _=_;rw [h5];show (Qel k h).bind _=_;rw [i1]; rfl
theorem Q50 {s:Nat} {p0:List Int} (b0:Bd s p0) (l0:p0.length≤10) (t0:Ue p0) (z0:p0.length≠0) (hs:s+69+69≤16777216):∀ (ws:List (List Int)) (g h0:List Int),LW g ws->Ue h0->(∀ t,Uf p0 t=Uf h0 t*Uf g t)->∃ fs,Qj8 ws=some fs/\Lay (ws.map cz) (fs.map cz)/\∀ f∈fs,Ue f
 | [],g,_,_,_,_=>⟨[],rfl,trivial,λf hf=>by cases hf⟩
 |
  [w],g,_,hl,_,_=>by
  cases hl with
  | cons hs hl=>exact ⟨[w],rfl,λt=>rfl,λf hf=>by rw [Qt.1 hf]; exact hs.pq.t⟩
 |
  w::v::ws,g,h0,hl,th0,e0=>by
  obtain ⟨f,tf,ef⟩:=Qy8 hl;cases hl with
  |
   @cons _ h _ _ hs1 hl =>
   have hpv:=(Qrs hl v (Qr ..)).1;obtain ⟨fs,i1,i2,i3⟩:=Q50 b0 l0 t0 z0 hs (v::ws) h (Ff h0 w) hl (Gi _ _) λt=>by rw [e0,U9,hs1.e]; grind
   have ew:∀ t,Uf p0 t=Uf w t*Uf (Ff h0 h) t:=λt=>by rw [e0,U9,hs1.e]; grind
   have bw:Bd (s+69) w:=Am b0 l0 t0 hs1.pq.t (Gi _ _) z0 ew;obtain ⟨p1,p2⟩:=Hi t0 z0 ew;have lw:=Sp hs1.pq.t (Gi _ _) t0 ew p1 p2;have hq:=Q8a (s:=s+69) hs1.pq.t hpv.t tf hs1.pq.n (by omega) bw hs λt=>by rw [ef]; grind
   refine ⟨f::fs,?_,⟨λt=>by rw [Ud,Ud,Ud,ef],i2⟩,λx hx=>?_⟩
   ·show (Oi w v).bind _=_;rw [hq];show (Qj8 (v::ws)).bind _=_;rw [i1]; rfl
   ·rcases Qo.1 hx with rfl | hx
    ·exact tf
    ·exact i3 x hx
def P3:List (List Int)->List Int
 | []=>[1]
 | [f]=>f
 | f::_::l=>Ff f (P3 l)
theorem Qr7:∀ (fs:List (List Int)) (t:Rat),ev (Qf9 (fs.map cz)) t=Uf (P3 fs) t
 | [],t=>by simp only [Jb,Qf9,P3,Uf]; rw [Hy]; push_cast; grind
 | [f],t=>by simp only [Zw,Jb,Qf9,P3]; rw [Ud]
 | f::g::l,t=>by simp only [Zw,Qf9,P3]; rw [Uh,Ud,U9,Qr7 l]
theorem Mb (t:Rat):Uf [1] t=1:=by simp only [Uf]; push_cast; grind
theorem Qk7:∀ {w:List Int} {ws fs:List (List Int)},Lay ((w::ws).map cz) (fs.map cz)->(∀ f∈fs,Ue f)->(∀ v∈w::ws,Ue v)->∃ E,Ue E/\∀ t,Uf w t=Uf (P3 fs) t*Uf E t
 |
  w,[],[f],h,_,_=>⟨[1],rfl,λt=>by
  have:=h t;rw [Ud,Ud] at this;rw [this,Mb]; simp only [P3]; grind⟩
 |
  w,[v],[f,f2],h,_,hw=>⟨v,hw v (by simp),λt=>by
  have:=h.1 t;rw [Ud,Ud,Ud] at this;rw [this]; simp only [P3]; rw [U9,Mb]; grind⟩
 |
  w,v::x::l,f::f2::fs,h,hf,hw=>by
  obtain ⟨E,hE,e⟩:=Qk7 (w:=x) (ws:=l) (fs:=fs) h.2.2 (λg hg=>hf g (by simp [hg])) (λg hg=>hw g (by simp at hg ⊢; exact .inr (.inr hg)));refine ⟨Ff f2 E,Gi _ _,λt=>?_⟩;have a1:=h.1 t;have a2:=h.2.1 t;rw [Ud,Ud,Ud] at a1 a2;have e2:Uf (P3 (f::f2::fs)) t=Uf f t*Uf (P3 fs) t:=by simp only [P3]; rw [U9]
  rw [a1,a2,e,e2,U9]; grind
 | w,[],[],h,_,_=>h.elim
 | w,[],_::_::_,h,_,_=>h.elim
 | w,[v],[],h,_,_=>h.elim
 | w,[v],[f],h,_,_=>h.2.elim
 | w,[v],_::_::_::_,h,_,_=>h.2.elim
 | w,v::x::l,[f],h,_,_=>h.2.elim
 | w,v::x::l,[],h,_,_=>h.elim
theorem Qaf {s:Nat} {p0:List Int} (b0:Bd s p0) (l0:p0.length≤10) (t0:Ue p0) (z0:p0.length≠0) (hs:s+69≤16777216):∀ (fs:List (List Int)) (i:Nat) (a E:List Int),i % 2=0->Ue a->Ue E->(∀ f∈fs,Ue f)->(∀ t,Uf p0 t=Uf a t*Uf (P3 fs) t*Uf E t)->∃ o,Qcu i a fs=some o/\Ue o/\∀ t,Uf o t=Uf a t*Uf (P3 fs) t
 | [],i,a,E,hi,ta,_,_,_=>⟨a,rfl,ta,λt=>by simp only [P3]; rw [Mb]; grind⟩
 |
  [f],i,a,E,hi,ta,tE,tf,hE=>by
  have e1:∀ t,Uf p0 t=Uf (Ff a f) t*Uf E t:=λt=>by rw [hE,U9]; rfl
  have b1:=Am b0 l0 t0 (Gi a f) tE z0 e1;obtain ⟨p1,p2⟩:=Hi t0 z0 e1;have hl:=Sp (Gi a f) tE t0 e1 p1 p2;refine ⟨Ff a f,?_,Gi _ _,λt=>by rw [U9]; rfl⟩;simp only [Qcu];rw [if_pos hi,Df (by omega) (W8 b1 (by omega))]; rfl
 |
  f::g::fs,i,a,E,hi,ta,tE,tf,hE=>by
  have e0:∀ t,Uf (P3 (f::g::fs)) t=Uf f t*Uf (P3 fs) t:=λt=>by simp only [P3]; rw [U9]
  have e1:∀ t,Uf p0 t=Uf (Ff a f) t*Uf (Ff (P3 fs) E) t:=λt=>by rw [hE,e0,U9,U9]; grind
  have b1:=Am b0 l0 t0 (Gi a f) (Gi _ _) z0 e1;obtain ⟨p1,p2⟩:=Hi t0 z0 e1;have hl:=Sp (Gi a f) (Gi _ _) t0 e1 p1 p2;obtain ⟨o,o1,o2,o3⟩:=Qaf b0 l0 t0 z0 hs fs (i+2) (Ff a f) E (by omega) (Gi _ _) tE (λx hx=>tf x (by simp [hx])) λt=>by rw [hE,e0,U9]; grind
  refine ⟨o,?_,o2,λt=>by rw [o3,e0,U9]; grind⟩;have h1:Qcu (i+1) (Ff a f) (g::fs)=Qcu (i+2) (Ff a f) fs:=by
   show (if (i+1) % 2=0 then _ else _)=_;rw [if_neg (by omega)]
  show (if i % 2=0 then (chk (Ff a f)).bind λq=>Qcu (i+1) q (g::fs) else _)=_;rw [if_pos hi,Df (by omega) (W8 b1 (by omega))];exact h1.trans o1
structure Parts (p q o:List Int):Prop where
 sq:∃ g,Sqp (Ug p) g q
 ws:∃ ws:List (List Int),(∀ w∈ws,Pr1 w/\A9 (cz w) (cz q))/\∀ t,Uf (Ug p) t=ev (Er (ws.map cz)) t
 oq:A9 (cz o) (cz q)
 ot:Ue o
 oh:∃ h,Ue h/\∀ t,Uf (Ug p) t=Uf o t*Uf h t
 os:∃ S,∀ t,Uf (Ug p) t=Uf o t*(ev S t*ev S t)
theorem Qvl {n s:Nat} {p:List Int} (h:Okp n s p):∃ q o,Ss p=some q/\Qvu p=some o/\Parts p q o:=by
 obtain ⟨pp,hl,hb⟩:=h.pr;have hn:=h.z.1;have hpl:=h.l;have hs:=Q9i h.z;obtain ⟨g,q,hq,sq⟩:=Qan h;obtain ⟨ws,w1,w2⟩:=lay_ok h.z hb (by omega) pp.t pp.n 66 (Ug p) [1] pp (by omega) (by omega) rfl λt=>by rw [Mb]; grind
 obtain ⟨fs,f1,f2,f3⟩:=Q50 hb (by omega) pp.t pp.n (by omega) ws (Ug p) [1] w2 rfl λt=>by rw [Mb]; grind
 have hw:=Zhs w2;have hfirst:(∀ w∈ws,Pr1 w/\A9 (cz w) (cz q))/\∃ E,Ue E/\∀ t,Uf q t=Uf (P3 fs) t*Uf E t:=by
  cases ws with
  |
   nil =>
   have e:fs=[]:=by
    cases fs with
    | nil=>rfl
    | cons f l=>exact f2.elim
   subst e;exact ⟨(λw hw=>by cases hw),q,sq.pq.t,λt=>by simp only [P3]; rw [Mb]; grind⟩
  |
   cons w ws =>
   have hwq:w=q:=by
    have w3:(if (Ug p).length<2 then some [] else (chk (U7 (Ug p))).bind λd=>(Om (Ug p) d).bind λh=>(Oi (Ug p) h).bind λw=>(Qel 65 h).bind λl=>some (w::l))=some (w::ws):=w1;have hlen:¬(Ug p).length<2:=λh2=>by
     rw [if_pos h2] at w3;injection w3 with w3;cases w3
    rw [if_neg hlen] at w3;unfold Ss at hq;rw [if_neg hlen] at hq;obtain ⟨d,d1,w3⟩:=Qe.1 w3;obtain ⟨h,d2,w3⟩:=Qe.1 w3;obtain ⟨w',d3,w3⟩:=Qe.1 w3;obtain ⟨l,d4,w3⟩:=Qe.1 w3;rw [d1] at hq;have hq:(Om (Ug p) d).bind (λg=>Oi (Ug p) g)=some q:=hq;rw [d2] at hq;have hq:Oi (Ug p) h=some q:=hq;rw [d3] at hq;injection hq with hq;injection w3 with w3;injection w3 with w3 _;rw [<-w3,hq]
   subst hwq;have hall:=Qrs w2;exact ⟨hall,Qk7 f2 f3 λv hv=>(hall v hv).1.t⟩
 obtain ⟨ha,E,tE,hE⟩:=hfirst;obtain ⟨o,o1,o2,o3⟩:=Qaf hb (by omega) pp.t pp.n (by omega) fs 0 [1] (Ff E g) rfl rfl (Gi _ _) f3 λt=>by rw [Mb,U9,sq.e,hE]; grind
 have o3:∀ t,Uf o t=Uf (P3 fs) t:=λt=>by rw [o3,Mb]; grind
 refine ⟨q,o,hq,?_,⟨g,sq⟩,⟨ws,ha,hw⟩,⟨cz E,λt=>by rw [Ud,Ud,Ud,hE,o3]⟩,o2,⟨Ff E g,Gi _ _,λt=>by rw [sq.e,hE,o3,U9]; grind⟩,?_⟩
 ·unfold Qvu;rw [if_neg pp.n,w1];show (Qj8 ws).bind _=_;rw [f1]; exact o1
 ·obtain ⟨S,hS⟩:=Qy1 f2;exact ⟨S,λt=>by rw [hw,hS,Qr7,o3]⟩
theorem Qx0 {s:Nat}:∀ (k:Nat) (a b:List Int),Ue a->Ue b->b.length≠0->b.length<k->b.length<a.length->a.length<=60->Bd s a->Bd s b->(s+8)*3^(a.length-1)<=16777216->(∀ d,A9 d (cz a)->A9 d (cz b)->∃ c:Rat,c≠0/\∀ t,ev d t=c)->∃ l,chF k a b=some (b::l)/\SCl (cz a) (cz b) (l.map cz)
 | 0,_,_,_,_,_,h,_,_,_,_,_,_=>by omega
 |
  k+1,a,b,ta,tb,hb,hk,hab,hl,ba,bb,hs,hd=>by
  obtain ⟨h1,h2,h3,u,v,up,vp,X,hX⟩:=Qc6 ta tb hb hl;have h3:=h3 s ba bb;obtain ⟨m,hm⟩:=nmE (a.length-b.length);have e1:a.length+1-b.length=m+1:=by omega
  rw [e1] at h3;have e2:s+(m+1)*(s+8)+8=(m+2)*(s+8):=by
   rw [show m+2=(m+1)+1 by omega,Xb (m+1)]; omega
  have e3:(m+2)*(s+8)*3^(b.length-1)<=(s+8)*3^(a.length-1):=by
   rw [show a.length-1=m+(b.length-1) by omega,Xe,<-Xn,Ze (s+8)];exact Qw _ (Qw _ (Zdd m (by omega)))
  have e4:s+(m+1)*(s+8)<=16777216:=by
   have:(m+2)*(s+8)<=(m+2)*(s+8)*3^(b.length-1):=Jo _ (Zv (by decide));omega
  simp only [chF];rw [if_neg hb,Df (by omega) (W8 h3 e4)];show ∃ l,((chF k b (S7 (Gb a b))).bind λl=>some (b::l))=some (b::l)/\_;have lneg:(S7 (Gb a b)).length<=(Gb a b).length:=Dq _;by_cases hr:(Gb a b).length=0
  ·have e:S7 (Gb a b)=[]:=Qh (by omega);rw [e];refine ⟨[],?_,?_⟩
   ·obtain ⟨j,rfl⟩:∃ j,k=j+1:=⟨k-1,by omega⟩;rfl
   ·obtain ⟨c,hc,hcc⟩:=hd (cz b) ⟨Pv (1 / u) X,λt=>by
     have:=hX t;rw [Bq hr] at this;have hu:1 / u*u=1:=Fe up;rw [Ud,Ud,U0];have:Uf a t=1 / u*(u*Uf a t):=by grind
     rw [this,hX,Bq hr]; grind⟩ (dvd_refl _)
    exact .base hc hcc
  ·have tn:Ue (S7 (Gb a b)):=Us _ _;have hn0:(S7 (Gb a b)).length≠0:=λh0=>by
    have:=Cu (c:=-1) h1 tn (by decide) λt=>by rw [Qcx]; grind
    omega
   obtain ⟨l,i1,i2⟩:=Qx0 (s:=s+(m+1)*(s+8)) k b (S7 (Gb a b)) tb tn hn0 (by omega) (by omega) (by omega) (W8 bb (by omega)) (Qb1 h3) (by rw [e2]; omega) λd d1 d2=>by
    refine hd d ?_ d1;obtain ⟨y,hy⟩:=d1;obtain ⟨z,hz⟩:=d2;have hu:1 / u*u=1:=Fe up;refine ⟨Pv (1 / u) (H5 (Ft X y) (Pv (-v) z)),λt=>?_⟩;have a1:=hX t; have a2:=hy t; have a3:=hz t;rw [Ud] at a2 a3;rw [Qcx] at a3;rw [Ud,U0,Fa,Uh,U0];have:Uf a t=1 / u*(u*Uf a t):=by grind
    rw [this,a1,a2,show Uf (Gb a b) t=-(ev d t*ev z t) by grind]; grind
   refine ⟨S7 (Gb a b)::l,by rw [i1]; rfl,?_⟩;rw [Zw];exact .step (q:=X) up vp (λt=>by rw [Ud,Ud,Ud,hX,Qcx]; clear i2 i1 hd h3 hs; grind) i2
theorem Qbt (x:Rat):∀ (l:List (List Int)) (n:Nat) (s:Int),(l.foldl (Hx λp=>U8 p x) (n,s)).1=n+tc x s (l.map cz)
 | [],n,s=>rfl
 |
  p::l,n,s=>by
  simp only [Xi,Zw,tc,Hx];rw [Tx,Ud]
  split
  ·exact Qbt x l n s
  ·rw [Qbt x l]
   split <;> omega
theorem A4 (l:List (List Int)) (x:Rat):Su l x=vv (l.map cz) x:=by
 have:=Qbt x l 0 0;unfold Su P6 vv;rw [this]; omega
theorem Q46 {n s:Nat} (hz:Szz n (s+73)) {P g q:List Int} (sq:Sqp P g q) (lq:q.length<=n) (bq:Bd (s+69) q):∃ d,chk (U7 q)=some d/\∃ l,chF 66 q (Ug d)=some l/\Stm (cz q) ((q::l).map cz)/\(q.length<2->l=[]):=by
 have hn:=hz.1;have hs:=Q9i hz;have bd:=Qmy bq (by omega);have ld:=Tl q;refine ⟨U7 q,Df (by omega) (W8 bd (by omega)),?_⟩;have hq0:=sq.pq.n;by_cases h2:q.length<2
 ·have e:Ug (U7 q)=[]:=by rw [Qh (l:=U7 q) (by omega)]; rfl
  rw [e];refine ⟨[],rfl,.inl ⟨1,by decide,λt=>?_,rfl⟩,λ_=>rfl⟩;rw [Ud,sq.pq.one h2,Mb]
 ·have hdnz:(U7 q).length≠0:=λh=>by
   have h1:=Sa q (q.length-2);rw [Qh h,show q.length-2+1=q.length-1 by omega] at h1;have h3:q.getD (q.length-1) 0≠0:=Gq sq.pq.t (by omega);rcases Ya.1 (h1.symm.trans (by simp)) with h4 | h4
   ·exact h3 h4
   ·omega
  obtain ⟨p1,p2,p3,p4,p5,p6,p7⟩:=Ta (p:=U7 q) (Us _ _) hdnz;have hdl:Un (U7 q)=Un q*((q.length-1:Nat):Int):=by
   have hld:(U7 q).length=q.length-1:=by
    rcases Q5 (U7 q).length (q.length-1) with h | h
    ·have h1:=Sa q (q.length-2);rw [Qg,Qp (by omega),show q.length-2+1=q.length-1 by omega] at h1;have h3:q.getD (q.length-1) 0≠0:=Gq sq.pq.t (by omega);rcases Ya.1 (h1.symm.trans (by simp)) with h4 | h4
     ·exact absurd h4 h3
     ·omega
    ·omega
   unfold Un;rw [hld,Sa,show q.length-1-1+1=q.length-1 by omega]
  have hfac:0<Fu (U7 q):=by
   have hlp:0<Un (U7 q):=by rw [hdl]; exact W3 sq.pq.l (by omega)
   have hc:=Es (p:=U7 q) (Us _ _) hdnz;unfold Fu;rw [if_neg (by omega)];unfold Re at hc ⊢; omega
  have hfq:((0:Int):Rat)<(Fu (U7 q):Rat):=X6.2 hfac;have hfq:(0:Rat)<(Fu (U7 q):Rat):=by simpa using hfq
  have hff:1 / (Fu (U7 q):Rat)*(Fu (U7 q):Rat)=1:=Fe hfq;have hz2:=hz.2;have hp3:(s+73+8)*3^(q.length-1)<=16777216:=by
   have:(s+73+8)*3^(q.length-1)<=(s+73+8)*3^(n-1):=Zg _ (Zo (by decide) (by omega));rw [Xn] at hz2; omega
  obtain ⟨l,h3,h4⟩:=Qx0 (s:=s+73) 66 q (Ug (U7 q)) sq.pq.t p1 (by omega) (by omega) (by omega) (by omega) (W8 bq (by omega)) (p5 _ bd) hp3 λd d1 d2=>sq.num d1 (by
   obtain ⟨z,hz⟩:=d2;exact ⟨Pv (Fu (U7 q)) z,λt=>by
    have:=hz t;rw [Ud] at this;rw [Ht,<-Dw,p7,this,U0]; grind⟩)
  refine ⟨Ug (U7 q)::l,h3,.inr ⟨cz (Ug (U7 q)),l.map cz,1 / (Fu (U7 q):Rat),Nx (by decide) hfq,λt=>?_,h4,rfl⟩,λh=>absurd h h2⟩;rw [Ud,<-Dw,p7 t]; grind
theorem chain_ok {n s:Nat} {p:List Int} (h:Okp n s p):∃ q l,Ss p=some q/\chain p=some (q::l)/\Stm (cz q) ((q::l).map cz)/\(q.length<2->l=[]):=by
 obtain ⟨pp,hl,hb⟩:=h.pr;have hn:=h.z.1;have hpl:=h.l;obtain ⟨g,q,hq,sq⟩:=Qan h;have e1:∀ t,Uf (Ug p) t=Uf q t*Uf g t:=λt=>by rw [sq.e]; grind
 obtain ⟨p1,p2⟩:=Hi pp.t pp.n e1;have hll:=Sp sq.pq.t sq.pg.t pp.t e1 p1 p2;obtain ⟨d,d1,l,d2,d3⟩:=Q46 h.z sq (by omega) (Am hb (by omega) pp.t sq.pq.t sq.pg.t pp.n e1);refine ⟨q,l,hq,?_,d3⟩;unfold chain;rw [hq];show (if q.length=0 then none else _)=_;rw [if_neg sq.pq.n,d1];show (chF 66 q (Ug d)).bind _=_;rw [d2]; rfl
structure Gr (D M k:Nat) (q:Rat):Prop where
 u:∃ u:Int,q*((D*2^k:Nat):Rat)=(u:Rat)
 b:Uk q<=(M:Rat)
 d:0<D
theorem nat_pos {n:Nat} (h:0<n):(0:Rat)<(n:Rat):=by
 have:((0:Nat):Rat)<(n:Rat):=Ve.2 h;simpa using this
theorem Qfl {D M k:Nat} {q:Rat} (h:Gr D M k q):Gr D M (k+1) q:=by
 obtain ⟨u,hu⟩:=h.u;refine ⟨⟨u*2,?_⟩,h.b,h.d⟩;rw [Zl,<-Xn]
 push_cast at hu ⊢
 rw [<-hu]; grind
theorem Qu6 {D M k:Nat} {a b:Rat} (ha:Gr D M k a) (hb:Gr D M k b):Gr D M (k+1) ((a+b) / 2):=by
 obtain ⟨u,hu⟩:=ha.u;obtain ⟨v,hv⟩:=hb.u;have h2:(a+b) / 2*2=a+b:=Fe (by decide);refine ⟨⟨u+v,?_⟩,?_,ha.d⟩
 ·rw [Zl,<-Xn]
  push_cast at hu hv ⊢
  rw [<-hu,<-hv];generalize (a+b) / 2=c at *;generalize (D:Rat)*2^k=z at *;have:c*(z*2)=(c*2)*z:=by grind
  rw [this,h2]; grind
 ·have h3:=ha.b;have h4:=hb.b;rw [Ru] at *;constructor <;> grind
theorem Zhj {D M k:Nat} {q:Rat} (h:Gr D M k q):q.den<=D*2^k:=by
 obtain ⟨u,hu⟩:=h.u;have hp:0<D*2^k:=J4 h.d (Zv (by decide));have e:q=Rat.divInt u ((D*2^k:Nat):Int):=by
  rw [<-Gm,<-hu];have hz:=nat_pos hp;rw [show ((((D*2^k:Nat):Int)):Rat)=((D*2^k:Nat):Rat) from rfl];rw [J8];have:=Rat.mul_inv_cancel ((D*2^k:Nat):Rat) (by grind);generalize ((D*2^k:Nat):Rat)=z at *;have:q*z*z⁻¹=q*(z*z⁻¹):=by grind
  rw [this,‹z*z⁻¹=1›]; grind
 rw [e,K8,if_neg (by omega),Zx];exact J0 _ _
theorem Qiz {a b k:Nat} {z:Int} (h:z.natAbs<=a*(b*2^k)):Uj z<=Uj (a:Int)+Uj (b:Int)+k:=by
 have h1:Uj (a:Int)<=Uj (a:Int):=Qk _;have h2:Uj (b:Int)<=Uj (b:Int):=Qk _;rw [Rl] at h1 h2 ⊢;rw [Zx] at h1 h2;rw [Xe,Xe];have h3:a*b<2^Uj (a:Int)*2^Uj (b:Int):=Nat.mul_lt_mul_of_lt_of_le h1 (Ju h2) (Zv (by decide));have h4:=Xz h3 (show 0<2^k from Zv (by decide));rw [<-Xn] at h; omega
theorem Qli {D M k B:Nat} {q:Rat} (h:Gr D M k q) (hM:0<M) (hs:Uj (D:Int)+Uj (M:Int)+k<=B):Qs B q:=by
 have hd:=Zhj h;have hden:=nat_pos q.den_pos;have h1:(q.num.natAbs:Rat)<=((M*(D*2^k):Nat):Rat):=by
  have e:(q.num:Rat)=q*(q.den:Rat):=by
   have:(q.num:Rat) / (((q.den:Int)):Rat)=q:=by rw [Gm,Zq]
   have h2:(q.num:Rat) / (q.den:Rat)*(q.den:Rat)=q.num:=Zf (by grind);rw [show (q.num:Rat) / (q.den:Rat)=q from this] at h2; exact h2.symm
  rw [<-Tf,e];have h3:=Fz (x:=q) (y:=(q.den:Rat)) (b:=((D*2^k:Nat):Rat)) h.b (by
   have:Uk (q.den:Rat)=(q.den:Rat):=by unfold Uk; rw [if_neg (by grind)]
   rw [this]; exact Za.2 hd)
  push_cast at h3 ⊢; exact h3
 have h1:=Za.1 h1;refine ⟨?_,?_⟩
 ·have:=Qiz (z:=q.num) h1; omega
 ·have:=Qiz (z:=(q.den:Int)) (a:=M) (b:=D) (k:=k) (by
   rw [Zx];exact Qa hd (Nat.le_mul_of_pos_left _ hM))
  omega
theorem Qbh (a b:Rat):Ib a b=(a+b) / 2:=by
 unfold Ib;rw [<-Gm];have ha:(a.num:Rat)=a*(a.den:Rat):=by
  have:(a.num:Rat) / (((a.den:Int)):Rat)=a:=by rw [Gm,Zq]
  have h2:(a.num:Rat) / (a.den:Rat)*(a.den:Rat)=a.num:=Zf (by have:=nat_pos a.den_pos; grind);rw [show (a.num:Rat) / (a.den:Rat)=a from this] at h2; exact h2.symm
 have hb:(b.num:Rat)=b*(b.den:Rat):=by
  have:(b.num:Rat) / (((b.den:Int)):Rat)=b:=by rw [Gm,Zq]
  have h2:(b.num:Rat) / (b.den:Rat)*(b.den:Rat)=b.num:=Zf (by have:=nat_pos b.den_pos; grind);rw [show (b.num:Rat) / (b.den:Rat)=b from this] at h2; exact h2.symm
 have pa:=nat_pos a.den_pos;have pb:=nat_pos b.den_pos;rw [V4,Xv,Xv,Xv,Xv,ha,hb];rw [show (((a.den:Int)):Rat)=(a.den:Rat) from rfl,show (((b.den:Int)):Rat)=(b.den:Rat) from rfl,show (((2:Int)):Rat)=2 from rfl];generalize (a.den:Rat)=x at *;generalize (b.den:Rat)=y at *;have hxy:=Lz (Lz pa pb) (show (0:Rat)<2 by decide);have h1:(a*x*y+b*y*x) / (x*y*2)*(x*y*2)=a*x*y+b*y*x:=Fe hxy;have h2:(a+b) / 2*2=a+b:=Fe (by decide);generalize (a*x*y+b*y*x) / (x*y*2)=c at *;generalize (a+b) / 2=d at *;have h3:(x*y*2)*(c-d)=0:=by grind
 rcases Jr.1 h3 with h4 | h4 <;> grind
theorem Qg7 (a b:Rat):Qjm a b=a-b:=by
 unfold Qjm;rw [Rat.sub_def',<-Rat.divInt_ofNat]
 push_cast; rfl
theorem Cn {a b:Rat}:Fb a b=0↔a=b:=by
 constructor
 ·intro h;have h1:¬a<b:=λh'=>by have:=Bl.2 h'; omega
  have h2:¬b<a:=λh'=>by have:=Ph.2 h'; omega
  grind
 ·intro h; subst h; exact Nw a
theorem Ag {a b:Rat}:Fb a b<=0↔a<=b:=by
 constructor
 ·intro h;have h2:¬b<a:=λh'=>by have:=Ph.2 h'; omega
  grind
 ·intro h;have h2:¬0<Fb a b:=λh'=>by have:=Ph.1 h'; grind
  omega
theorem Qgn {a b:Rat}:0<=Fb a b↔b<=a:=by
 constructor
 ·intro h;have h2:¬a<b:=λh'=>by have:=Bl.2 h'; omega
  grind
 ·intro h;have h2:¬Fb a b<0:=λh'=>by have:=Bl.1 h'; grind
  omega
theorem Rw (a b:Rat):Fb a b=1/\b<a\/Fb a b=0/\a=b\/Fb a b=-1/\a<b:=by
 have hb:=Af a b;rcases (show Fb a b=1\/Fb a b=0\/Fb a b=-1 by omega) with h | h | h
 ·exact .inl ⟨h,Ph.1 (by omega)⟩
 ·exact .inr (.inl ⟨h,Cn.1 h⟩)
 ·exact .inr (.inr ⟨h,Bl.1 (by omega)⟩)
theorem Qrr (p:List Int) (x:Rat):low p x=Tr (cz p) x:=by
 unfold low Tr;rw [Tx,Tx,Ud,Dw]
theorem Tj {t:Tm} (h:t.lo<t.hi) (q:Rat):Uq t q=cq (cz t.p) t.lo t.hi q:=by
 have hp:t.point=false:=by
  unfold Tm.point;have:¬0<=Fb t.lo t.hi:=λh'=>by have:=Qgn.1 h'; grind
  simp [this]
 unfold Uq cq;rw [hp,if_neg (by decide)];have e1:(Fb q t.lo<=0)=(q<=t.lo):=propext Ag;have e2:(0<Fb q t.hi)=(t.hi<q):=propext Ph;rw [Tx,Qrr,<-Ud];simp only [e1,e2]
theorem Sb {t:Tm}:t.point=true↔t.hi<=t.lo:=by
 unfold Tm.point;rw [decide_eq_true_iff]; exact Qgn
theorem Ld {t:Tm} (h:t.lo=t.hi) (q:Rat):Uq t q=Fb t.lo q:=by
 have hp:t.point=true:=Sb.2 (by rw [h]; exact Ql);unfold Uq; rw [if_pos hp]
theorem Zg3 {c:Rat->Int} {x:Rat} (h:∀ q,c q=Fb x q):Cut c where
 val q:=by rw [h]; have:=Af x q; omega
 mono q r hqr h1:=by
  rw [h] at h1 ⊢;rcases Rw x q with ⟨e,e'⟩ | ⟨e,e'⟩ | ⟨e,e'⟩
  ·exact absurd e h1
  ·rcases Rw x r with ⟨f,f'⟩ | ⟨f,f'⟩ | ⟨f,f'⟩ <;> grind
  ·rcases Rw x r with ⟨f,f'⟩ | ⟨f,f'⟩ | ⟨f,f'⟩ <;> grind
 up q h1:=by
  rw [h] at h1;have h2:=Ph.1 (show 0<Fb x q by omega);have h3:(x+q) / 2*2=x+q:=Fe (by decide);have h4:=Ph.2 (show (x+q) / 2<x by grind);have:=Af x ((x+q) / 2);exact ⟨(x+q) / 2,by grind,by rw [h]; omega⟩
 dn q h1:=by
  rw [h] at h1;have h2:=Bl.1 (show Fb x q<0 by omega);have h3:(x+q) / 2*2=x+q:=Fe (by decide);have h4:=Bl.2 (show x<(x+q) / 2 by grind);have:=Af x ((x+q) / 2);exact ⟨(x+q) / 2,by grind,by rw [h]; omega⟩
 lo:=⟨x-1,by
  rw [h];have h4:=Ph.2 (show x-1<x by grind);have:=Af x (x-1); omega⟩
 hi:=⟨x+1,by
  rw [h];have h4:=Bl.2 (show x<x+1 by grind);have:=Af x (x+1); omega⟩
structure Va (t:Tm):Prop where
 i:t.lo=t.hi/\Uf t.p t.lo=0\/∃ L,Vt (cz t.p) L t.lo t.hi
 tr:Ue t.p
 n:t.p.length<=9
 n2:2<=t.p.length
 b:Bd 1000000 t.p
 bi:t.point=false->Bd 1000 t.p
 sc:t.point=false->∃ (l:List (List Int)) (P g:List Int),chF 66 t.p (Ug (U7 t.p))=some l/\Sqp P g t.p/\Vt (cz t.p) ((t.p::l).map cz) t.lo t.hi
 g:∃ D M k,Gr D M k t.lo/\Gr D M k t.hi/\0<M/\Uj (D:Int)+Uj (M:Int)+k<=1000000
theorem Va.le {t:Tm} (h:Va t):t.lo<=t.hi:=by
 rcases h.i with ⟨e,_⟩ | ⟨L,V⟩
 ·rw [e]; exact Ql
 ·exact Qm V.l
theorem Va.pt {t:Tm} (h:Va t) (hp:t.point=true):t.lo=t.hi/\Uf t.p t.lo=0:=by
 rcases h.i with e | ⟨L,V⟩
 ·exact e
 ·have:=Sb.1 hp;have:=V.l;grind
theorem Va.iv {t:Tm} (h:Va t) (hp:t.point=false):∃ L,Vt (cz t.p) L t.lo t.hi:=by
 rcases h.i with ⟨e,_⟩ | h
 ·have:=Sb.2 (show t.hi<=t.lo by rw [e]; exact Ql);rw [hp] at this; cases this
 ·exact h
theorem Va.cut {t:Tm} (h:Va t):Cut (Uq t):=by
 rcases h.i with ⟨e,_⟩ | ⟨L,V⟩
 ·exact Zg3 (x:=t.lo) λq=>Ld e q
 ·have:Uq t=cq (cz t.p) t.lo t.hi:=funext λq=>Tj V.l q
  rw [this]; exact V.cut
theorem Ziz {c:Rat->Int} (hc:Cut c) {p:List Rat} {x:Rat} (h:c x=0) (h0:ev p x=0):Ec p c:=by
 rcases Oy hc p with h1 | ⟨s,hs,h1⟩
 ·exact h1
 ·have:=Qr6 hc h h1;rw [Fc.2 h0] at this; exact absurd this.symm hs
theorem Va.van {t:Tm} (h:Va t):Ec (cz t.p) (Uq t):=by
 have hc:=h.cut;rcases h.i with ⟨e,h0⟩ | ⟨L,V⟩
 ·exact Ziz hc (x:=t.lo) (by rw [Ld e,Nw]) (by rw [Ud]; exact h0)
 ·have:Uq t=cq (cz t.p) t.lo t.hi:=funext λq=>Tj V.l q
  rw [this]; exact V.van
theorem Va.qs {t:Tm} (h:Va t):Qs 1000000 t.lo/\Qs 1000000 t.hi:=by
 obtain ⟨D,M,k,h1,h2,h3,h4⟩:=h.g;exact ⟨Qli h1 h3 h4,Qli h2 h3 h4⟩
theorem Va.tb {t:Tm} (h:Va t):Tb t:=⟨⟨h.tr,by have:=h.n; omega,W8 h.b (by omega)⟩,h.qs.1.mono (t:=16777216) (by omega),h.qs.2.mono (t:=16777216) (by omega)⟩
structure Hv (t:Tm) (D M k:Nat) (u:Tm):Prop where
 p:u.p=t.p
 i:u.lo=u.hi/\Uf u.p u.lo=0\/∃ L,Vt (cz u.p) L u.lo u.hi
 c:∀ q,Uq u q=Uq t q
 l:Gr D M k u.lo
 h:Gr D M k u.hi
theorem Qqv {c:Rat->Int} (hc:Cut c) {x:Rat} (h:c x=0) (q:Rat):c q=Fb x q:=by
 rcases Rw x q with ⟨e,e'⟩ | ⟨e,e'⟩ | ⟨e,e'⟩
 ·rw [e]; exact hc.mono' e' (by omega)
 ·rw [e,<-e',h]
 ·rw [e]; exact hc.mono x q e' (by omega)
theorem Qnx {t u:Tm} {D M k:Nat} (hu:Hv t D M k u) (hM:0<M) (hs:Uj (D:Int)+Uj (M:Int)+(k+1)<=16777216):∃ v,Qnw u=some v/\Hv t D M (k+1) v/\v.hi-v.lo<=(u.hi-u.lo) / 2/\u.lo<=v.lo/\v.hi<=u.hi:=by
 have h2:∀ x:Rat,x / 2*2=x:=λx=>Fe (by decide)
 unfold Qnw;rcases hu.i with ⟨e,h0⟩ | ⟨L,V⟩
 ·have hp:u.point=true:=Sb.2 (by rw [e]; exact Ql);rw [if_pos hp];refine ⟨u,rfl,⟨hu.p,hu.i,hu.c,Qfl hu.l,Qfl hu.h⟩,?_,Ql,Ql⟩;rw [e]; have:=h2 (u.hi-u.hi); grind
 ·have hp:u.point=false:=by
   have:¬u.point=true:=λh=>by have:=Sb.1 h; have:=V.l; grind
   simpa using this
  rw [hp,if_neg (by decide)];obtain ⟨m,hm⟩:=nmE ((u.lo+u.hi) / 2);have hmg:Gr D M (k+1) m:=by rw [hm]; exact Qu6 hu.l hu.h
  have hmm:=h2 (u.lo+u.hi);rw [<-hm] at hmm;have hl:=V.l;have hl1:u.lo<m:=by grind
  have hl2:m<u.hi:=by grind
  have hch:chq (Ib u.lo u.hi)=some m:=by
   rw [Qbh,<-hm];have:=Qli hmg hM hs;unfold chq;rw [if_pos ⟨this.1,this.2⟩]
  have hcm:Ib u.lo u.hi=m:=by rw [Qbh,<-hm]
  rw [hch];show ∃ v,some (if Uq u m=0 then (⟨u.p,m,m⟩:Tm) else if Uq u m=-1 then ⟨u.p,u.lo,m⟩ else ⟨u.p,m,u.hi⟩)=some v/\_;have hw:=h2 (u.hi-u.lo);have hcu:=Tj hl;have hcut:=V.cut;have hcut':Cut (Uq u):=by rw [show Uq u=cq (cz u.p) u.lo u.hi from funext hcu]; exact hcut
  by_cases c0:Uq u m=0
  ·rw [if_pos c0];have hz:Uf u.p m=0:=by
    have:=Qe9 hcut (q:=m) (by rw [<-hcu]; exact c0) V.van;rwa [Ud] at this
   refine ⟨_,rfl,⟨hu.p,.inl ⟨rfl,hz⟩,λq=>?_,hmg,hmg⟩,by show m-m<=_; grind,by show u.lo<=m; grind,by show m<=u.hi; grind⟩;rw [Ld rfl,<-hu.c];exact (Qqv hcut' c0 q).symm
  ·rw [if_neg c0];by_cases c1:Uq u m=-1
   ·rw [if_pos c1];have hv:vv L m=vv L u.hi:=V.eq_hi hl1 (Qm hl2) (by rw [<-hcu,c1]; decide);have V':Vt (cz u.p) L u.lo m:=⟨V.s,hl1,by rw [hv]; exact V.v⟩;refine ⟨_,rfl,⟨hu.p,.inr ⟨L,V'⟩,λq=>?_,Qfl hu.l,hmg⟩,by show m-u.lo<=_; grind,Ql,by show m<=u.hi; grind⟩;rw [Tj hl1,<-hu.c,hcu];exact V.uniq V'.cut (No Ql) (by rw [Ia hl1 hl2]; decide) V'.van q
   ·rw [if_neg c1];have c2:Uq u m=1:=by rcases hcut'.val m with h | h | h <;> omega
    have hv:vv L m=vv L u.lo:=V.eq_lo hl1 (Qm hl2) (by rw [<-hcu]; exact c2);have V':Vt (cz u.p) L m u.hi:=⟨V.s,hl2,by rw [hv]; exact V.v⟩;refine ⟨_,rfl,⟨hu.p,.inr ⟨L,V'⟩,λq=>?_,hmg,Qfl hu.h⟩,by show u.hi-m<=_; grind,by show u.lo<=m; grind,Ql⟩;rw [Tj hl2,<-hu.c,hcu];exact V.uniq V'.cut (No (by grind)) V'.hi1 V'.van q
def Pn (a b:Tm):Prop:=∃ q,Uq a q=-1/\Uq b q=1
def TEq (a b:Tm):Prop:=∀ q,Uq a q=Uq b q
theorem tri {a b:Tm} (ha:Cut (Uq a)) (hb:Cut (Uq b)):Pn a b\/TEq a b\/Pn b a:=by
 rcases Classical.em (TEq a b) with h | h
 ·exact .inr (.inl h)
 ·obtain ⟨q,hq⟩:=Classical.not_forall.1 h;obtain ⟨r,⟨h1,h2⟩ | ⟨h1,h2⟩⟩:=Qqu ha hb hq
  ·exact .inl ⟨r,h1,h2⟩
  ·exact .inr (.inr ⟨r,h2,h1⟩)
theorem Oc {a b:Tm} (ha:Cut (Uq a)) (hb:Cut (Uq b)) (h:Pn a b) (h':Pn b a):False:=by
 obtain ⟨q,q1,q2⟩:=h;obtain ⟨r,r1,r2⟩:=h';have:=ha.lt r2 q1;have:=hb.lt q2 r1;grind
theorem Qst {p:List Int} (k:Nat):(p.getD k 0).natAbs<=2^Fw p:=by
 have h:Uj (p.getD k 0)<=Fw p:=by
  have key:∀ (l:List Int) (n:Nat),n≤l.foldl (λn z=>max n (Uj z)) n/\∀ z∈l,Uj z≤l.foldl (λn z=>max n (Uj z)) n:=by
   intro l
   induction l with
   | nil=>exact λn=>⟨Qk _,λz hz=>by cases hz⟩
   |
    cons y l ih =>
    intro n;obtain ⟨i1,i2⟩:=ih (max n (Uj y));refine ⟨by simp only [Xi]; omega,λz hz=>?_⟩;simp only [Xi];rcases Qo.1 hz with rfl | hz
    ·omega
    ·exact i2 z hz
  exact Um (s:=Fw p) (λz hz=>(key p 0).2 z hz) k
 rw [Rl] at h; omega
theorem Zfh {s:Nat}:∀ (B:List Int),(∀ z∈B,z.natAbs≤2^s)->gB B≤2^(s+(B.length-1))
 | [],_=>Qi _
 |
  c::B,h=>by
  have h1:=h c (Qr ..);have h2:=Zfh B λz hz=>h z (Qj _ hz)
  simp only [gB,Q9,J6];have h3:2^s<=2^(s+B.length):=Zo (by decide) (by omega);cases B with
  | nil=>simp only [gB,Ku] at *; omega
  |
   cons d B =>
   have h4:2^(s+(d::B).length)=2*2^(s+((d::B).length-1)):=by
    rw [Ze,<-Zl]; congr 1
   rw [h4]; omega
def Rq (A B:List Int):Nat:=(Fw A+Fw B+(A.length+B.length)+8)*(2*(A.length+B.length-2)-1)
theorem Q56 {A B:List Int} (tA:Ue A) (tB:Ue B) (nA:A.length<=9) (nB:B.length<=9) (lA:2<=A.length) (lB:2<=B.length) {R d:Rat} (hR:1<=R) (dp:0<d)
 (hs:∀ e:Rat,0<e->∃ q r,Uk q<=R/\Uk r<=R/\d<=Uk (q-r)/\Uk (q-r)*((2^(Rq A B+1):Nat):Rat)<=1/\Uk (Uf A q)<e/\Uk (Uf B r)<e):False:=by
 obtain ⟨a,ha⟩:∃ a,A.length=a+1:=⟨A.length-1,by omega⟩;obtain ⟨b,hb⟩:∃ b,B.length=b+1:=⟨B.length-1,by omega⟩;obtain ⟨s,hsd⟩:=nmE (Fw A+Fw B+b);obtain ⟨N,hN⟩:∃ N,b*(2*(a*b))+a*(2*(a*b)-b)=N:=⟨_,rfl⟩;have hNt:N<=2^(a+9):=by
  rw [<-hN];have hab:∀ a b:Fin 9,b.1*(2*(a.1*b.1))+a.1*(2*(a.1*b.1)-b.1)<=2^(a.1+9):=by decide
  exact hab ⟨a,by omega⟩ ⟨b,by omega⟩
 have hK:Rq A B=(s+a+10)*(2*(a+b-1)+1):=by
  unfold Rq;rw [ha,hb,hsd,show a+1+(b+1)-2=a+b by omega,show 2*(a+b)-1=2*(a+b-1)+1 by omega];congr 1; omega
 have h0A:A.getD a 0≠0:=by have:=Gq tA (by omega); rwa [ha] at this
 have h0B:B.getD b 0≠0:=by have:=Gq tB (by omega); rwa [hb] at this
 have hp:∀ m,1<=2^m:=λm=>Zv (by decide)
 refine Zhf (N:=N) (D:=2^(Rq A B-1)) ha hb h0A h0B (by omega) (by omega) (h:=2^s) (hp s) (λk=>Qa (Qst k) (Zo (by decide) (by omega))) ?_ hN ?_ hR dp λe ep=>?_
 ·refine Qa (Zfh (s:=Fw B) B λz hz=>?_) (Zo (by decide) (by omega));obtain ⟨i,hi⟩:=Zd.1 hz;have:=Qst (p:=B) i;rwa [Qg,hi] at this
 ·have h1:2*(N*2^s)<=2^(s+a+10):=by
   have:N*2^s<=2^(a+9)*2^s:=Qw _ hNt;rw [<-Xe] at this;rw [show s+a+10=(a+9+s)+1 by omega,Zl]; omega
  have h2:N*2^s<=2^(s+a+9):=by
   rw [show s+a+9=(a+9)+s by omega,Xe]; exact Qw _ hNt
  have h3:=Nat.pow_le_pow_left h1 (2*(a+b-1));have h4:=Zi h2 h3;rw [<-W7,<-Xe] at h4;rw [<-Xn];refine Qa h4 (Zo (by decide) ?_);rw [hK,Xo,Yn]; omega
 ·obtain ⟨q,r,h1,h2,h3,h4,h5,h6⟩:=hs e ep;refine ⟨q,r,h1,h2,h3,?_,h5,h6⟩;have hK1:1<=Rq A B:=by
   rw [hK]; exact J4 (by omega) (by omega)
  have e1:2^(Rq A B+1)=4*2^(Rq A B-1):=by
   obtain ⟨m,hm⟩:∃ m,Rq A B=m+1:=⟨Rq A B-1,by omega⟩;rw [hm,J6,Zl,Zl]; omega
  rw [e1] at h4
  push_cast at h4 ⊢
  exact h4
theorem Hv.lo' {t:Tm} {D M k:Nat} {u:Tm} (h:Hv t D M k u):Uq t u.lo=1\/Uq t u.lo=0/\u.lo=u.hi:=by
 rw [<-h.c];rcases h.i with ⟨e,_⟩ | ⟨L,V⟩
 ·exact .inr ⟨by rw [Ld e,Nw],e⟩
 ·exact .inl (by rw [Tj V.l]; exact No Ql)
theorem Hv.hi' {t:Tm} {D M k:Nat} {u:Tm} (h:Hv t D M k u):Uq t u.hi=0\/Uq t u.hi=-1:=by
 rw [<-h.c];rcases h.i with ⟨e,_⟩ | ⟨L,V⟩
 ·exact .inl (by rw [Ld e,e,Nw])
 ·rw [Tj V.l];have:=V.hi1;rcases V.cut.val u.hi with h | h | h <;> omega
theorem Hv.le {t:Tm} {D M k:Nat} {u:Tm} (h:Hv t D M k u):u.lo<=u.hi:=by
 rcases h.i with ⟨e,_⟩ | ⟨L,V⟩
 ·rw [e]; exact Ql
 ·exact Qm V.l
theorem Q57 {a b:Tm} (ha:Va a) (hb:Va b) {D M k D' M' k':Nat} {u v:Tm} (hu:Hv a D M k u) (hv:Hv b D' M' k' v) (h:Pn a b):1<(v.hi-u.lo)*((2^(Rq a.p b.p+1):Nat):Rat):=by
 rcases U4 ((v.hi-u.lo)*((2^(Rq a.p b.p+1):Nat):Rat)) 1 with hw | hw
 ·exfalso;have ca:=ha.cut;have cb:=hb.cut;obtain ⟨m,m1,m2⟩:=h;obtain ⟨m',hm',m3⟩:=ca.dn m m1;have hpow:(0:Rat)<=((2^(Rq a.p b.p+1):Nat):Rat):=Xm;obtain ⟨R,hR⟩:=nmE (Uk u.lo+Uk m'+Uk m+Uk v.hi+1);have n1:=Gs u.lo; have n2:=Gs m'; have n3:=Gs m; have n4:=Gs v.hi;refine Q56 (R:=R) (d:=m-m') ha.tr hb.tr ha.n hb.n ha.n2 hb.n2 (by grind) (by grind) λe ep=>?_
  obtain ⟨q,q1,q2,q3⟩:∃ q,u.lo<=q/\q<=m'/\Uk (Uf a.p q)<e:=by
   rcases hu.lo' with h1 | ⟨h1,_⟩
   ·obtain ⟨x,y,hx,hy,hq⟩:=ha.van e ep;rcases U4 x u.lo with e1 | e1
    ·exact ⟨u.lo,Ql,Qm (ca.lt h1 m3),by rw [<-Ud]; exact hq u.lo e1 (Qm (ca.lt h1 hy))⟩
    ·exact ⟨x,Qm e1,Qm (ca.lt hx m3),by rw [<-Ud]; exact hq x Ql (Qm (ca.lt hx hy))⟩
   ·refine ⟨u.lo,Ql,?_,by rw [<-Ud,Qe9 ca h1 ha.van,Hg]; exact ep⟩;rcases U4 u.lo m' with e1 | e1
    ·exact e1
    ·have:=ca.mono m' u.lo e1 (by omega); omega
  obtain ⟨r,r1,r2,r3⟩:∃ r,r<=v.hi/\m<=r/\Uk (Uf b.p r)<e:=by
   rcases hv.hi' with h1 | h1
   ·refine ⟨v.hi,Ql,?_,by rw [<-Ud,Qe9 cb h1 hb.van,Hg]; exact ep⟩;rcases U4 m v.hi with e1 | e1
    ·exact e1
    ·have:=cb.mono v.hi m e1 (by omega); omega
   ·obtain ⟨x,y,hx,hy,hq⟩:=hb.van e ep;rcases U4 v.hi y with e1 | e1
    ·exact ⟨v.hi,Ql,Qm (cb.lt m2 h1),by rw [<-Ud]; exact hq v.hi (Qm (cb.lt hx h1)) e1⟩
    ·exact ⟨y,Qm e1,Qm (cb.lt m2 hy),by rw [<-Ud]; exact hq y (Qm (cb.lt hx hy)) Ql⟩
  have e1:Uk (q-r)=r-q:=by unfold Uk; split <;> grind
  have b1:Uk q<=R:=by
   have:=Qch (R:=R) (x:=u.lo) (y:=m') (t:=q) (by grind) (by grind) q1 q2; exact this
  have b2:Uk r<=R:=by
   have:=Qch (R:=R) (x:=m) (y:=v.hi) (t:=r) (by grind) (by grind) r2 r1; exact this
  refine ⟨q,r,b1,b2,by rw [e1]; grind,?_,q3,r3⟩;rw [e1];have:=Q3 (show r-q<=v.hi-u.lo by grind) hpow;exact Q6 this hw
 ·exact hw
theorem Qp5 {a b:Tm} (ha:Va a) (hb:Va b) {D M k D' M' k':Nat} {u v:Tm} (hu:Hv a D M k u) (hv:Hv b D' M' k' v) (hne:¬TEq a b) (h:Bu u v=true):Pn a b:=by
 have h1:=(of_decide_eq_true h).1;have h1:=Ag.1 h1;rcases tri ha.cut hb.cut with h2 | h2 | ⟨m,m1,m2⟩
 ·exact h2
 ·exact absurd h2 hne
 ·exfalso;have e1:m<u.hi:=by
   rcases U4 u.hi m with e | e
   ·rcases Classical.em (u.hi=m) with e' | e'
    ·have:=hu.hi'; rw [e'] at this; omega
    ·have:=ha.cut.mono u.hi m (by grind) (by have:=hu.hi'; omega); omega
   ·exact e
  have e2:v.lo<m:=by
   rcases U4 m v.lo with e | e
   ·rcases Classical.em (m=v.lo) with e' | e'
    ·have:=hv.lo'; rw [<-e'] at this; omega
    ·have:=hb.cut.mono m v.lo (by grind) (by omega);have:=hv.lo'; omega
   ·exact e
  grind
theorem Qzl {a b:Tm} (ha:Va a) (hb:Va b) {D M k D' M' k':Nat} {u v:Tm} (hu:Hv a D M k u) (hv:Hv b D' M' k' v) (hlt:Pn a b) (h:Bu u v≠true):v.lo<=u.hi:=by
 rcases U4 v.lo u.hi with e | e
 ·exact e
 ·refine absurd (decide_eq_true ⟨Ag.2 (Qm e),λh'=>?_⟩) h;have:=Cn.1 h'.2; grind
theorem Ql7 (m:Nat):((2^(m+1):Nat):Rat)=2*((2^m:Nat):Rat):=by rw [Zl]; push_cast; grind
def Zf0 (a b:Tm) (r:Tm×Tm×Int):Prop:=r.2.2=-1/\Pn a b\/r.2.2=1/\Pn b a
theorem Q1q (A B:List Int):Rq A B=Rq B A:=by unfold Rq; rw [Nat.add_comm A.length,Nat.add_comm (Fw A)]
theorem Zje {a b:Tm} (ha:Va a) (hb:Va b) (hne:¬TEq a b) {D M D' M':Nat} (hM:0<M) (hM':0<M'):∀ (i j:Nat) (u v:Tm) (k k':Nat) (W:Rat),2*i+1<=j->Hv a D M k u->Hv b D' M' k' v->Uj (D:Int)+Uj (M:Int)+(k+j)<=16777216->Uj (D':Int)+Uj (M':Int)+(k'+j)<=16777216->u.hi-u.lo<=W->v.hi-v.lo<=W->2*W*((2^(Rq a.p b.p+1):Nat):Rat)<=((2^i:Nat):Rat)->∃ r,apF j u v=some r/\Zf0 a b r:=by
 intro i;have step:∀ (j:Nat) (u v:Tm) (k k':Nat),Hv a D M k u->Hv b D' M' k' v->Uj (D:Int)+Uj (M:Int)+(k+(j+1))<=16777216->Uj (D':Int)+Uj (M':Int)+(k'+(j+1))<=16777216->(∃ r,apF (j+1) u v=some r/\Zf0 a b r)\/(Bu u v≠true/\Bu v u≠true/\∃ u' v' k1 k1',apF (j+1) u v=apF j u' v'/\Hv a D M k1 u'/\Hv b D' M' k1' v'/\k1<=k+1/\k1'<=k'+1/\(v.hi-v.lo<=u.hi-u.lo/\u'.hi-u'.lo<=(u.hi-u.lo) / 2/\v'=v\/u.hi-u.lo<=v.hi-v.lo/\v'.hi-v'.lo<=(v.hi-v.lo) / 2/\u'=u)):=by
  intro j u v k k' hu hv hs hs';by_cases h1:Bu u v=true
  ·exact .inl ⟨(u,v,-1),by simp only [apF]; rw [if_pos h1],.inl ⟨rfl,Qp5 ha hb hu hv hne h1⟩⟩
  by_cases h2:Bu v u=true
  ·exact .inl ⟨(u,v,1),by simp only [apF]; rw [if_neg h1,if_pos h2],.inr ⟨rfl,Qp5 hb ha hv hu (λh=>hne λq=>(h q).symm) h2⟩⟩
  refine .inr ⟨h1,h2,?_⟩;by_cases h3:0<=Fb (Qjm u.hi u.lo) (Qjm v.hi v.lo)
  ·obtain ⟨x,x1,x2,x3,_⟩:=Qnx hu hM (by omega);refine ⟨x,v,k+1,k',?_,x2,hv,by omega,by omega,.inl ⟨?_,x3,rfl⟩⟩
   ·simp only [apF]; rw [if_neg h1,if_neg h2,if_pos h3,x1]; rfl
   ·have:=Qgn.1 h3; rwa [Qg7,Qg7] at this
  ·obtain ⟨x,x1,x2,x3,_⟩:=Qnx hv hM' (by omega);refine ⟨u,x,k,k'+1,?_,hu,x2,by omega,by omega,.inr ⟨?_,x3,rfl⟩⟩
   ·simp only [apF]; rw [if_neg h1,if_neg h2,if_neg h3,x1]; rfl
   ·rcases U4 (u.hi-u.lo) (v.hi-v.lo) with e | e
    ·exact e
    ·refine absurd (Qgn.2 ?_) h3;rw [Qg7,Qg7]; exact Qm e
 induction i with
 |
  zero =>
  intro j u v k k' W hj hu hv hs hs' hW hW' hK;obtain ⟨j,rfl⟩:∃ m,j=m+1:=⟨j-1,by omega⟩;rcases step j u v k k' hu hv hs hs' with h | ⟨h1,h2,_⟩
  ·exact h
  ·exfalso;have hpow:(0:Rat)<=((2^(Rq a.p b.p+1):Nat):Rat):=Xm;rw [Yw] at hK;rcases tri ha.cut hb.cut with h3 | h3 | h3
   ·have h4:=Qzl ha hb hu hv h3 h1;have h5:=Q57 ha hb hu hv h3;have h6:=Q3 (show v.hi-u.lo<=2*W by clear step; grind) hpow;have h7:((1:Nat):Rat)=1:=rfl;rw [h7] at hK;clear step; grind
   ·exact hne h3
   ·have h4:=Qzl hb ha hv hu h3 h2;have h5:=Q57 hb ha hv hu h3;rw [Q1q] at h5;have h6:=Q3 (show u.hi-v.lo<=2*W by clear step; grind) hpow;have h7:((1:Nat):Rat)=1:=rfl;rw [h7] at hK;clear step; grind
 |
  succ i ih =>
  intro j u v k k' W hj hu hv hs hs' hW hW' hK;obtain ⟨j,rfl⟩:∃ m,j=m+2:=⟨j-2,by omega⟩;have hd:∀ x:Rat,x / 2*2=x:=λx=>Fe (by decide)
  rcases step (j+1) u v k k' hu hv hs hs' with h | ⟨_,_,u1,v1,k1,k1',e1,hu1,hv1,hk1,hk1',hw1⟩
  ·exact h
  ·rw [e1];rcases step j u1 v1 k1 k1' hu1 hv1 (by omega) (by omega) with h | ⟨_,_,u2,v2,k2,k2',e2,hu2,hv2,hk2,hk2',hw2⟩
   ·exact h
   ·rw [e2];have a1:=hd (u.hi-u.lo); have a2:=hd (v.hi-v.lo); have a3:=hd (u1.hi-u1.lo); have a4:=hd (v1.hi-v1.lo); have a5:=hd W;have b1:=hu.le; have b2:=hv.le; have b3:=hu1.le; have b4:=hv1.le; have b5:=hu2.le; have b6:=hv2.le;have hww:u2.hi-u2.lo<=W / 2/\v2.hi-v2.lo<=W / 2:=by
     clear step ih;rcases hw1 with ⟨c1,c2,rfl⟩ | ⟨c1,c2,rfl⟩ <;> rcases hw2 with ⟨d1,d2,rfl⟩ | ⟨d1,d2,rfl⟩ <;> constructor <;> grind
    refine ih j u2 v2 k2 k2' (W / 2) (by omega) hu2 hv2 (by omega) (by omega) hww.1 hww.2 ?_;rw [Ql7 i] at hK;have:2*(W / 2)*((2^(Rq a.p b.p+1):Nat):Rat)*2=2*W*((2^(Rq a.p b.p+1):Nat):Rat):=by clear step ih hw1 hw2; grind
    clear step ih hw1 hw2; grind
def CmpOk (a b:Tm) (c:Int):Prop:=c=-1/\Pn a b\/c=0/\TEq a b\/c=1/\Pn b a
theorem Va.hv0 {t:Tm} (h:Va t):∃ D M k,Hv t D M k t/\0<M/\Uj (D:Int)+Uj (M:Int)+k<=1000000:=by
 obtain ⟨D,M,k,h1,h2,h3,h4⟩:=h.g;exact ⟨D,M,k,⟨rfl,h.i,λ_=>rfl,h1,h2⟩,h3,h4⟩
theorem Qv2 {a:Tm} (ha:Va a) (hp:a.point=true) (q:Rat):Uq a q=Fb a.lo q:=Ld (ha.pt hp).1 q
theorem Q5b {a b:Tm} (hb:Va b) {x:Rat} (hx:∀ q,Uq a q=Fb x q):CmpOk a b (-Uq b x):=by
 have cb:=hb.cut;rcases cb.val x with h | h | h
 ·obtain ⟨q,q1,q2⟩:=cb.up x h;refine .inl ⟨by omega,q,?_,q2⟩;rw [hx]; rcases Rw x q with ⟨e,e'⟩ | ⟨e,e'⟩ | ⟨e,e'⟩ <;> grind
 ·exact .inr (.inl ⟨by omega,λq=>by rw [hx,Qqv cb h]⟩)
 ·obtain ⟨q,q1,q2⟩:=cb.dn x h;refine .inr (.inr ⟨by omega,q,q2,?_⟩);rw [hx]; rcases Rw x q with ⟨e,e'⟩ | ⟨e,e'⟩ | ⟨e,e'⟩ <;> grind
theorem CmpOk.symm {a b:Tm} {c:Int} (h:CmpOk a b c):CmpOk b a (-c):=by
 rcases h with ⟨h1,h2⟩ | ⟨h1,h2⟩ | ⟨h1,h2⟩
 ·exact .inr (.inr ⟨by omega,h2⟩)
 ·exact .inr (.inl ⟨by omega,λq=>(h2 q).symm⟩)
 ·exact .inl ⟨by omega,h2⟩
theorem Zk1:Szz 9 1000:=⟨by decide,by decide⟩
theorem Qcg (g:List Int) (lo hi:Rat):Qcf g lo hi=true↔Qu7 (cz g) lo hi:=by
 unfold Qcf Qu7;rw [decide_eq_true_iff,Tx,Qrr,Ud]
theorem Qrb {g:List Int} (tg:Ue g) (hn:g.length≠0) {lo hi:Rat} (h:Qu7 (cz g) lo hi):1<g.length:=by
 rcases Q5 1 g.length with e | e
 ·exact e
 ·exfalso;obtain ⟨c,rfl⟩:∃ c,g=[c]:=Ke.1 (by omega);have hc:c≠0:=by have:=Gq tg (by simp); simpa using this
  have hv:∀ t,ev (cz [c]) t=(c:Rat):=λt=>by rw [Ud]; simp only [Uf]; grind
  have hs:Uo (c:Rat)≠0:=λh=>Aq hc (Fc.1 h)
  unfold Qu7 at h;rw [hv,Ds (by rw [hv]; exact hs),hv] at h;rcases h with h | h
  ·exact hs h
  ·exact h rfl
theorem Qbd {q:Rat}:Uk q<=((2^Uj q.num:Nat):Rat):=by
 have h1:Uj q.num<=Uj q.num:=Qk _;rw [Rl] at h1;have e:(q.num:Rat)=q*(q.den:Rat):=by
  have:(q.num:Rat) / (((q.den:Int)):Rat)=q:=by rw [Gm,Zq]
  have h2:(q.num:Rat) / (q.den:Rat)*(q.den:Rat)=q.num:=Zf (by have:=nat_pos q.den_pos; grind);rw [show (q.num:Rat) / (q.den:Rat)=q from this] at h2; exact h2.symm
 have hd:(1:Rat)<=(q.den:Rat):=by
  have:((1:Nat):Rat)<=(q.den:Rat):=Za.2 q.den_pos;exact this
 have h2:Uk q<=Uk (q.num:Rat):=by
  rw [e,Cx];have:Uk (q.den:Rat)=(q.den:Rat):=by unfold Uk; rw [if_neg (by grind)]
  rw [this];have:=S6 (a:=Uk q) (c:=1) (Gs q) Ql (by decide) hd;grind
 rw [Tf] at h2;exact Q6 h2 (Za.2 (Ju h1))
theorem Qfa {a:Tm} {w:Nat} (h:Uj a.lo.num+Uj a.hi.num<=w):a.hi-a.lo<=((2^(w+1):Nat):Rat):=by
 have h1:=Qbd (q:=a.lo);have h2:=Qbd (q:=a.hi);have h3:((2^Uj a.lo.num:Nat):Rat)<=((2^w:Nat):Rat):=Za.2 (Zo (by decide) (by omega));have h4:((2^Uj a.hi.num:Nat):Rat)<=((2^w:Nat):Rat):=Za.2 (Zo (by decide) (by omega));rw [Ql7];rw [Ru] at h1 h2;grind
theorem Ey {p:List Int} {s:Nat} (h:Bd s p):Fw p<=s:=by
 have:=S8 h p.length; rwa [Q8] at this
theorem Q9b {a b:Tm} (ha:Va a) (hb:Va b) (pa:a.point=false) (pb:b.point=false):Sl a b<=9000000:=by
 have q1:=ha.qs; have q2:=hb.qs;have l1:=ha.n; have l2:=hb.n;have s1:=Ey (ha.bi pa); have s2:=Ey (hb.bi pb);have b1:=q1.1.1; have b2:=q1.2.1; have b3:=q2.1.1; have b4:=q2.2.1;have:4*(a.p.length+b.p.length)*(Fw a.p+Fw b.p+(a.p.length+b.p.length)+8)<=4*18*2100:=Zi (by omega) (by omega);unfold Sl; omega
theorem Q3b {a b:Tm} (ha:Va a) (hb:Va b) (pa:a.point=false) (pb:b.point=false) (hne:¬TEq a b):∃ r,apF (Sl a b) a b=some r/\Zf0 a b r:=by
 obtain ⟨D,M,k,h1,h2,h3⟩:=ha.hv0;obtain ⟨D',M',k',h1',h2',h3'⟩:=hb.hv0;have hst:=Q9b ha hb pa pb;obtain ⟨w,hw⟩:=nmE (Uj a.lo.num+Uj a.hi.num+Uj b.lo.num+Uj b.hi.num);obtain ⟨K,hK⟩:=nmE (Fw a.p+Fw b.p+(a.p.length+b.p.length)+8);obtain ⟨n,hn⟩:=nmE (a.p.length+b.p.length);have l1:=ha.n2; have l2:=hb.n2;have hsteps:Sl a b=64+2*w+4*n*K:=by unfold Sl; rw [hw,hK,hn]
 have hg:Rq a.p b.p=K*(2*(n-2)-1):=by unfold Rq; rw [hK,hn]
 have hgle:Rq a.p b.p+5*K<=2*n*K:=by
  rw [hg,Ze K,<-Jj];exact Qw _ (by omega)
 have hKp:8<=K:=by omega
 refine Zje ha hb hne h2 h2' (31+w+2*n*K) (Sl a b) a b k k' ((2^(w+1):Nat):Rat) ?_ h1 h1' (by omega) (by omega) (Qfa (by omega)) (Qfa (by omega)) ?_
 ·rw [hsteps,Xo,Xn 4,Xn 2 n]; omega
 ·have e:2*(2^(w+1))*(2^(Rq a.p b.p+1))<=2^(31+w+2*n*K):=by
   rw [Ze 2,<-Zl,<-Xe];exact Zo (by decide) (by omega)
  have:=Za.2 e
  push_cast at this ⊢
  exact this
theorem O5 {a b:Tm} (ha:Va a) (hb:Va b):∃ c,Qf7 a b=some c/\CmpOk a b c:=by
 unfold Qf7;by_cases pa:a.point=true
 ·rw [if_pos pa];exact ⟨_,rfl,Q5b hb (Qv2 ha pa)⟩
 rw [if_neg pa];by_cases pb:b.point=true
 ·rw [if_pos pb];have:=(Q5b ha (Qv2 hb pb)).symm;rw [Int.neg_neg] at this;exact ⟨_,rfl,this⟩
 rw [if_neg pb];have pa:a.point=false:=by simpa using pa
 have pb:b.point=false:=by simpa using pb
 obtain ⟨L,V⟩:=ha.iv pa;obtain ⟨L',V'⟩:=hb.iv pb;have eqa:∀ q,Uq a q=cq (cz a.p) a.lo a.hi q:=Tj V.l;have eqb:∀ q,Uq b q=cq (cz b.p) b.lo b.hi q:=Tj V'.l;obtain ⟨lo,hlo⟩:=nmE (if 0<Fb b.lo a.lo then b.lo else a.lo);obtain ⟨hi,hhi⟩:=nmE (if Fb b.hi a.hi<0 then b.hi else a.hi);show ∃ c,(if Fb (if 0<Fb b.lo a.lo then b.lo else a.lo) (if Fb b.hi a.hi<0 then b.hi else a.hi)<0 then _ else _)=some c/\_;rw [<-hlo,<-hhi];have e1:(0<Fb b.lo a.lo)=(a.lo<b.lo):=propext Ph;have e2:(Fb b.hi a.hi<0)=(b.hi<a.hi):=propext Bl;have e3:(Fb lo hi<0)=(lo<hi):=propext Bl;simp only [e1] at hlo;simp only [e2] at hhi;simp only [e3];obtain ⟨g,g1,g2,g3,g4⟩:=Q6e Zk1 ha.tr hb.tr ha.n hb.n (ha.bi pa) (hb.bi pb) (by have:=ha.n2; omega);obtain ⟨U,W,hc⟩:=g2.c;obtain ⟨u,hu⟩:=g2.da;obtain ⟨u',hu'⟩:=g2.db;have key:=V.same V' (g:=cz g) (u:=u) (u':=u') (U:=U) (W:=W) (k:=1) (by decide) hu hu' (λt=>by rw [Ud,Ud,Ud,hc]; grind) (a:=lo) (b:=hi) (by rw [hlo]; split <;> grind) (by rw [hlo]; split <;> grind) (by rw [hlo]; split <;> simp) (by rw [hhi]; split <;> grind) (by rw [hhi]; split <;> grind) (by rw [hhi]; split <;> simp);have hTE:(∀ q,cq (cz a.p) a.lo a.hi q=cq (cz b.p) b.lo b.hi q)↔TEq a b:=by
  unfold TEq; constructor
  ·intro h q; rw [eqa,eqb]; exact h q
  ·intro h q; rw [<-eqa,<-eqb]; exact h q
 rw [hTE] at key;have fin:¬TEq a b->∃ c,((apF (Sl a b) a b).bind λr=>some r.2.2)=some c/\CmpOk a b c:=λhne=>by
  obtain ⟨r,r1,r2⟩:=Q3b ha hb pa pb hne;refine ⟨r.2.2,by rw [r1]; rfl,?_⟩;rcases r2 with h | h
  ·exact .inl h
  ·exact .inr (.inr h)
 by_cases hl:lo<hi
 ·rw [if_pos hl,g1];show ∃ c,(if 1<g.length/\Qcf g lo hi=true then some 0 else (apF (Sl a b) a b).bind λr=>some r.2.2)=some c/\_;by_cases hh:Qcf g lo hi=true
  ·have hq:=(Qcg g lo hi).1 hh;rw [if_pos ⟨Qrb g2.t g2.n hq,hh⟩];exact ⟨0,rfl,.inr (.inl ⟨rfl,key.1 ⟨hl,hq⟩⟩)⟩
  ·rw [if_neg λh=>hh h.2];exact fin λh=>hh ((Qcg g lo hi).2 (key.2 h).2)
 ·rw [if_neg hl];exact fin λh=>hl (key.2 h).1
def SgT (p:List Int) (a:Tm) (s:Int):Prop:=s=0/\Ec (cz p) (Uq a)\/s≠0/\NZ (cz p) (Uq a) s
theorem Zic {p:List Int} {c:Rat->Int} (hc:Cut c) {x:Rat} (h:c x=0):U8 p x=0/\Ec (cz p) c\/U8 p x≠0/\NZ (cz p) c (U8 p x):=by
 rw [Tx,<-Ud];rcases Oy hc (cz p) with h1 | ⟨s,hs,h1⟩
 ·exact .inl ⟨Fc.2 (Qe9 hc h h1),h1⟩
 ·have:=Qr6 hc h h1;rw [this]; exact .inr ⟨hs,h1⟩
theorem Dd {l:List (List Int)} {lo hi:Rat} (h:lo<=hi):G7 l lo hi=(vv (l.map cz) lo:Int)-(vv (l.map cz) hi:Int):=by
 unfold G7;rw [if_neg λh'=>by have:=Bl.1 h'; grind,A4,A4]
theorem Zid {p q:List Int} {L:List (List Rat)} (hp:Ue p) (np:p.length<=9) (lp:2<=p.length) (hS:Stm (cz q) L) (hpq:A9 (cz q) (cz p)) {a:Tm} (ha:Va a) {s:Int} (hnz:NZ (cz p) (Uq a) s) {D M k:Nat} {x:Tm} (hx:Hv a D M k x) (hl:x.lo<x.hi) (hv:vv L x.lo≠vv L x.hi):1<(x.hi-x.lo)*((2^(Rq a.p p+1):Nat):Rat):=by
 rcases U4 ((x.hi-x.lo)*((2^(Rq a.p p+1):Nat):Rat)) 1 with hw | hw
 ·exfalso;have ca:=ha.cut;obtain ⟨d,dp,x1,y1,c1,c2,hn⟩:=hnz;obtain ⟨x2,x12,c3⟩:=ca.up x1 c1;obtain ⟨y2,y12,c4⟩:=ca.dn y1 c2;have hpow:(0:Rat)<=((2^(Rq a.p p+1):Nat):Rat):=Xm;obtain ⟨z,zp,z1,z2⟩:=min2 (a:=x2-x1) (b:=y1-y2) (by clear hn; grind) (by clear hn; grind);obtain ⟨R0,hR0,r1,r2⟩:=Qmw x.lo x.hi;obtain ⟨u,hu⟩:=hpq;refine Q56 (R:=R0+1) (d:=z) ha.tr hp ha.n np ha.n2 lp (by clear hn; grind) zp λe ep=>?_
  obtain ⟨q0,q1,q2,q3,q4,q5⟩:∃ q0,x.lo<=q0/\q0<=x.hi/\x2<=q0/\q0<=y2/\Uk (Uf a.p q0)<e:=by
   rcases hx.lo' with h1 | ⟨h1,h2⟩
   ·obtain ⟨x',y',hx',hy',hq⟩:=ha.van e ep;obtain ⟨m,m1,m2,m3,m4⟩:∃ m,Uq a m=1/\x.lo<=m/\x2<=m/\x'<=m:=by
     rcases U4 x.lo x2 with e1 | e1
     ·rcases U4 x2 x' with e2 | e2
      ·exact ⟨x',hx',by clear hn hq; grind,e2,Ql⟩
      ·exact ⟨x2,c3,e1,Ql,Qm e2⟩
     ·rcases U4 x.lo x' with e2 | e2
      ·exact ⟨x',hx',e2,by clear hn hq; grind,Ql⟩
      ·exact ⟨x.lo,h1,Ql,Qm e1,Qm e2⟩
    refine ⟨m,m2,?_,m3,Qm (ca.lt m1 c4),by rw [<-Ud]; exact hq m m4 (Qm (ca.lt m1 hy'))⟩;rcases hx.hi' with h3 | h3
    ·rcases U4 m x.hi with e1 | e1
     ·exact e1
     ·have:=ca.mono x.hi m e1 (by omega); omega
    ·exact Qm (ca.lt m1 h3)
   ·exact absurd h2 (by clear hn; grind)
  obtain ⟨b,hb⟩:=nmE (evB R0 u);have hb0:0<=b:=by rw [hb]; exact Al hR0 u
  obtain ⟨f,fp,_,hf⟩:=Gd (b:=b) (d:=if e<=d then e else d) hb0 (by split <;> assumption);obtain ⟨r,r3,r4,r5⟩:=Qph hS hl hv fp;have hrR:Uk r<=R0:=Qch r1 r2 r3 r4;have hpr:Uk (Uf p r)<(if e<=d then e else d):=by
   rw [<-Ud,hu];have:=Fz (Qm r5) (Qfh hrR u);rw [<-hb] at this;exact Js.1 λh=>absurd (Q6 h this) (Js.2 hf)
  have hpe:Uk (Uf p r)<e:=by split at hpr <;> (clear hn; grind)
  have hpd:Uk (Uf p r)<d:=by split at hpr <;> (clear hn; grind)
  have hrout:r<x1\/y1<r:=by
   rcases U4 x1 r with e1 | e1
   ·rcases U4 r y1 with e2 | e2
    ·have:=(hn r e1 e2).2;rw [Ud] at this;exact absurd this (Js.2 hpd)
    ·exact .inr e2
   ·exact .inl e1
  have hqr:z<=Uk (q0-r):=by
   clear hn;rcases hrout with h | h
   ·have:Uk (q0-r)=q0-r:=by unfold Uk; split <;> grind
    rw [this]; grind
   ·have:Uk (q0-r)=r-q0:=by unfold Uk; split <;> grind
    rw [this]; grind
  have hq0R:Uk q0<=R0:=Qch r1 r2 q1 q2;refine ⟨q0,r,by clear hn; grind,by clear hn; grind,hqr,?_,q5,hpe⟩;have h1:Uk (q0-r)<=x.hi-x.lo:=by rw [Ru]; clear hn; constructor <;> grind
  exact Q6 (Q3 h1 hpow) hw
 ·exact hw
theorem Q8z {p q:List Int} {l:List (List Int)} (hp:Ue p) (np:p.length<=9) (lp:2<=p.length) (hS:Stm (cz q) (l.map cz)) (hpq:A9 (cz q) (cz p)) {a:Tm} (ha:Va a) {s:Int} (hnz:NZ (cz p) (Uq a) s) {D M:Nat} (hM:0<M):∀ (j i:Nat) (x:Tm) (k:Nat) (W:Rat),i+1<=j->Hv a D M k x->Uj (D:Int)+Uj (M:Int)+(k+j)<=16777216->x.hi-x.lo<=W->W*((2^(Rq a.p p+1):Nat):Rat)<=((2^i:Nat):Rat)->∃ u k',sgF l j x=some u/\Hv a D M k' u/\(u.point=true\/G7 l u.lo u.hi=0)
 | 0,i,x,k,W,h,_,_,_,_=>by omega
 |
  j+1,i,x,k,W,hj,hx,hs,hW,hK=>by
  simp only [sgF];by_cases h:x.point=true\/G7 l x.lo x.hi=0
  ·rw [if_pos h]; exact ⟨x,k,rfl,hx,h⟩
  ·rw [if_neg h];obtain ⟨v,v1,v2,v3,_⟩:=Qnx hx hM (by omega);rw [v1];show ∃ u k',sgF l j v=some u/\_;have hpt:¬x.hi<=x.lo:=λh'=>h (.inl (Sb.2 h'))
   have hl:x.lo<x.hi:=by grind
   have hvv:vv (l.map cz) x.lo≠vv (l.map cz) x.hi:=λh'=>h (.inr (by rw [Dd (Qm hl)]; omega))
   have hg:=Zid hp np lp hS hpq ha hnz hx hl hvv;have hpow:(0:Rat)<=((2^(Rq a.p p+1):Nat):Rat):=Xm;have hd:∀ x:Rat,x / 2*2=x:=λx=>Fe (by decide)
   cases i with
   |
    zero =>
    exfalso;rw [Yw] at hK;have:=Q3 hW hpow;have h7:((1:Nat):Rat)=1:=rfl;rw [h7] at hK;grind
   |
    succ i =>
    refine Q8z hp np lp hS hpq ha hnz hM j i v (k+1) (W / 2) (by omega) v2 (by omega) ?_ ?_
    ·have:=hd (x.hi-x.lo); have:=hd W; grind
    ·rw [Ql7 i] at hK;have:=hd W;have:W / 2*((2^(Rq a.p p+1):Nat):Rat)*2=W*((2^(Rq a.p p+1):Nat):Rat):=by grind
     grind
theorem Qsc {x y:Rat}:∀ {ws:List (List Rat)},(∀ w∈ws,Uo (ev w x)=Uo (ev w y))->Uo (ev (Er ws) x)=Uo (ev (Er ws) y)
 | [],_=>by simp only [Er]; rw [Hy,Hy]
 |
  w::l,h=>by
  simp only [Er];rw [Uh,Uh,Td,Td,h w (Qr ..),Qsc λv hv=>h v (Qj _ hv)]
theorem Q16 {p q o:List Int} (hpt:Parts p q o) (tp:Ue p) (hp:p.length≠0) {L:List (List Rat)} (hS:Stm (cz q) L) {x y:Rat} (hxy:x<y) (hv:vv L x=vv L y):∃ s,s≠0/\∀ z,x<z->z<=y->Uo (Uf p z)=s:=by
 obtain ⟨ws,w1,w2⟩:=hpt.ws;obtain ⟨_,_,_,_,_,p6,p7⟩:=Ta tp hp;have key:∀ z,x<z->z≤y->∀ w∈ws.map cz,Sm w x z:=λz h1 h2 w hw=>by
  obtain ⟨v,hv',rfl⟩:=Zk.1 hw;obtain ⟨u,hu⟩:=(w1 v hv').2;have a1:=D5 hS h1;have a2:vv L y<=vv L z:=by
   rcases Classical.em (z=y) with e | e
   ·rw [e]; exact Qk _
   ·exact D5 hS (by grind)
  exact Qa3 hS hu h1 (by omega)
 have hval:∀ z,Uf p z=(Fu p:Rat)*ev (Er (ws.map cz)) z:=λz=>by rw [p7,w2]
 refine ⟨Uo (Uf p y),λh0=>?_,λz h1 h2=>?_⟩
 ·rw [hval,Td] at h0;rcases Ya.1 h0 with h | h
  ·exact Aq p6 (Fc.1 h)
  ·have:∀ l:List (List Rat),(∀ w∈l,Uo (ev w y)≠0)->Uo (ev (Er l) y)≠0:=by
    intro l
    induction l with
    | nil=>intro _; simp only [Er]; rw [Hy]; decide
    |
     cons w l ih =>
     intro h;simp only [Er];rw [Uh,Td];exact Xp (h w (Qr ..)) (ih λv hv=>h v (Qj _ hv))
   refine this _ (λw hw=>?_) h;have hs:=key y hxy Ql w hw;rw [hs.s]; exact hs.n
 ·rw [hval,hval,Td,Td,Qsc (y:=y) λw hw=>(key z h1 h2 w hw).s.trans (key y hxy Ql w hw).s.symm]
theorem Zhg {g p P:List Int} {c:Rat->Int} (hc:Cut c) (hg:Gc g p P):Ec (cz g) c↔Ec (cz p) c/\Ec (cz P) c:=by
 constructor
 ·intro h;obtain ⟨u,hu⟩:=hg.da;obtain ⟨v,hv⟩:=hg.db;exact ⟨Sv hc hu h,Sv hc hv h⟩
 ·rintro ⟨h1,h2⟩
  obtain ⟨U,V,hcc⟩:=hg.c;have a1:Ec (Ft U (cz p)) c:=Sv hc (p:=cz p) (q:=U) (λt=>by rw [Uh]; grind) h1;have a2:Ec (Ft V (cz P)) c:=Sv hc (p:=cz P) (q:=V) (λt=>by rw [Uh]; grind) h2;exact Qhd (λt=>by rw [Ud,hcc,Uh,Uh,Ud,Ud]) a1 a2
theorem Q85 {p:List Int} (hp:Okp 9 900 p) {a:Tm} (ha:Va a):∃ s,Qjp p a=some s/\SgT p a s:=by
 unfold Qjp;rw [if_neg hp.nz];have ca:=ha.cut;by_cases pa:a.point=true
 ·rw [if_pos pa];exact ⟨_,rfl,Zic ca (x:=a.lo) (by rw [Qv2 ha pa,Nw])⟩
 rw [if_neg pa];have pa:a.point=false:=by simpa using pa
 obtain ⟨L,V⟩:=ha.iv pa;have eqa:∀ q,Uq a q=cq (cz a.p) a.lo a.hi q:=Tj V.l;obtain ⟨g,g1,g2,g3,g4⟩:=Q6e Zk1 hp.t ha.tr hp.l ha.n (W8 hp.b (by omega)) (ha.bi pa) hp.nz;obtain ⟨u',hu'⟩:=g2.db;have hhas:=V.has hu' (a:=a.lo) (b:=a.hi) Ql V.l Ql;have hvan:=Zhg ca g2;rw [show cq (cz a.p) a.lo a.hi=Uq a from (funext eqa).symm] at hhas;rw [g1];show ∃ s,(if 1<g.length/\Qcf g a.lo a.hi=true then some 0 else _)=some s/\_;by_cases hh:Qcf g a.lo a.hi=true
 ·have hq:=(Qcg g _ _).1 hh;rw [if_pos ⟨Qrb g2.t g2.n hq,hh⟩];exact ⟨0,rfl,.inl ⟨rfl,(hvan.1 (hhas.1 hq).1).1⟩⟩
 ·rw [if_neg λh=>hh h.2];have hnv:¬Ec (cz p) (Uq a):=λh=>hh ((Qcg g _ _).2 (hhas.2 ⟨hvan.2 ⟨h,ha.van⟩,by rw [eqa]; exact No Ql,by rw [eqa]; exact V.hi1⟩))
  rcases Oy ca (cz p) with h | ⟨s,hs0,hnz⟩
  ·exact absurd h hnv
  obtain ⟨q,o,q1,q2,hpt⟩:=Qvl hp;obtain ⟨q',l,r1,r2,hS,hl0⟩:=chain_ok hp;rw [q1] at r1;injection r1 with r1;subst r1;rw [r2];show ∃ s,((sgF (q::l) (64+2*(Uj a.lo.num+Uj a.hi.num)+4*(a.p.length+p.length)*(Fw a.p+Fw p+(a.p.length+p.length)+8)) a).bind λx=>some (U8 p x.hi))=some s/\_;obtain ⟨w,hw⟩:=nmE (Uj a.lo.num+Uj a.hi.num);obtain ⟨K,hK⟩:=nmE (Fw a.p+Fw p+(a.p.length+p.length)+8);obtain ⟨n,hn⟩:=nmE (a.p.length+p.length);rw [<-hw,<-hK,<-hn];obtain ⟨gg,sq⟩:=hpt.sq;obtain ⟨_,_,_,_,_,pf0,pfe⟩:=Ta hp.t hp.nz;have hpq:A9 (cz q) (cz p):=⟨Pv (Fu p) (cz gg),λt=>by rw [Ud,Ud,U0,Ud,pfe,sq.e]; grind⟩;obtain ⟨D,M,k,h1,h2,h3⟩:=ha.hv0;have b1:=ha.qs.1.1; have b2:=ha.qs.2.1;have l1:=ha.n; have l2:=hp.l; have l3:=ha.n2;have s1:=Ey (ha.bi pa); have s2:=Ey hp.b;have hst:4*n*K<=4*18*1926:=Zi (by omega) (by omega);have hend:∃ u k',sgF (q::l) (64+2*w+4*n*K) a=some u/\Hv a D M k' u/\(u.point=true\/G7 (q::l) u.lo u.hi=0):=by
   by_cases hpl:p.length<2
   ·have hq1:(Ug p)=[1]:=hp.pr.1.one (by have:=hp.pr.2.1; omega);have hql:q.length<2:=by
     have e:=sq.e;rw [hq1] at e;obtain ⟨p1,p2⟩:=Hi (c:=[1]) rfl (by simp) e;have:=Sp sq.pg.t sq.pq.t (c:=[1]) rfl e p1 p2;simp at this; omega
    have hbt:G7 (q::l) a.lo a.hi=0:=by
     rw [Dd (Qm V.l),hl0 hql,sq.pq.one hql];have hv1:∀ x:Rat,ev (cz [1]) x=1:=λx=>by rw [Ud,Mb]
     simp only [Zw,Jb,vv,tc,hv1]; omega
    refine ⟨a,k,?_,h1,.inr hbt⟩;obtain ⟨m,hm⟩:∃ m,64+2*w+4*n*K=m+1:=⟨63+2*w+4*n*K,by omega⟩;rw [hm];simp only [sgF];rw [if_pos (.inr hbt)]
   ·have hg:Rq a.p p=K*(2*(n-2)-1):=by unfold Rq; rw [hK,hn]
    have hgle:Rq a.p p+5*K<=2*n*K:=by
     rw [hg,Ze K,<-Jj];exact Qw _ (by omega)
    have hKp:8<=K:=by omega
    have hnK:2*n*K<=4*n*K:=Qw _ (by omega);obtain ⟨u,k',u1,u2,u3⟩:=Q8z hp.t hp.l (by omega) hS hpq ha hnz h2 (64+2*w+4*n*K) (2+w+2*n*K) a k ((2^(w+1):Nat):Rat) (by omega) h1 (by omega) (Qfa (by omega)) (by
     have e:(2^(w+1))*(2^(Rq a.p p+1))<=2^(2+w+2*n*K):=by
      rw [<-Xe];exact Zo (by decide) (by omega)
     have:=Za.2 e
     push_cast at this ⊢
     exact this)
    exact ⟨u,k',u1,u2,u3⟩
  obtain ⟨u,k',u1,u2,u3⟩:=hend;rw [u1];refine ⟨_,rfl,.inr ?_⟩;have hfin:U8 p u.hi=s:=by
   rcases u2.hi' with hz | hz
   ·have:=Qr6 ca hz hnz;rw [Tx,<-Ud]; exact this
   ·rcases u2.i with ⟨e,_⟩ | ⟨L',V'⟩
    ·have:=u2.c u.hi;rw [Ld e,e,Nw] at this; omega
    ·have hup:u.point=false:=by
      have:¬u.point=true:=λh=>by have:=Sb.1 h; have:=V'.l; grind
      simpa using this
     rcases u3 with h | h
     ·rw [hup] at h; cases h
     ·rw [Dd (Qm V'.l)] at h;obtain ⟨s',hs',hps⟩:=Q16 hpt hp.t hp.nz hS V'.l (by omega);obtain ⟨d,dp,x,y,hx,hy,hq⟩:=hnz;have hlo1:Uq a u.lo=1:=by
       rcases u2.lo' with h | ⟨_,h⟩
       ·exact h
       ·have:=V'.l; clear hps hq; grind
      obtain ⟨m,m1,m2,m3⟩:=Qh3 ca hlo1 hx;have e1:=(hq m (Qm m3) (Qm (ca.lt m1 hy))).1;have e2:=hps m m2 (Qm (ca.lt m1 hz));have e3:=hps u.hi V'.l Ql;rw [Tx,e3,<-e2,<-Ud,e1]
  rw [hfin]; exact ⟨hs0,hnz⟩
structure Dp (p:List Int):Prop where
 t:Ue p
 l:p.length<=9
 b:Bd (860+4*(9-p.length)) p
theorem Qoj:Szz 9 973:=⟨by decide,by decide⟩
theorem Dp.ok {p:List Int} (h:Dp p) (h0:p.length≠0):Okp 9 900 p:=⟨Qoj,h.t,h0,h.l,W8 h.b (by omega)⟩
theorem Dp.der {p:List Int} (h:Dp p):Dp (U7 p):=by
 have hl:=Tl p;have hl2:=h.l;refine ⟨Us _ _,by omega,?_⟩;by_cases h0:p.length=0
 ·rw [Qh (l:=U7 p) (by omega)]; exact Ir
 ·exact W8 (Qmy h.b (by omega)) (by omega)
def Hq (a:Tm) (p:List Int):Int:=(Qjp p a).getD 0
theorem Q8x {p:List Int} (h:Dp p) {a:Tm} (ha:Va a):Qjp p a=some (Hq a p)/\SgT p a (Hq a p):=by
 by_cases h0:p.length=0
 ·have e:p=[]:=Qh h0;subst e;refine ⟨rfl,.inl ⟨rfl,λd dp=>?_⟩⟩;obtain ⟨x,y,h1,h2,_⟩:=ha.cut.near (e:=1) (by decide);exact ⟨x,y,h1,h2,λq _ _=>by simp only [cz,Jb,ev,Hg]; exact dp⟩
 ·obtain ⟨s,h1,h2⟩:=Q85 (h.ok h0) ha;have e:Hq a p=s:=by unfold Hq; rw [h1]; rfl
  rw [e]; exact ⟨h1,h2⟩
theorem Zh9 {c:Rat->Int} {p q:List Rat} {s:Int} (h:∀ t,ev p t=ev q t) (hp:RS p c s):RS q c s:=by
 obtain ⟨y,h1,h2⟩:=hp;exact ⟨y,h1,λz h3 h4=>by rw [<-h]; exact h2 z h3 h4⟩
theorem Qlh {a:Tm} (ha:Va a):∀ (k:Nat) (p:List Int),Dp p->p.length<=k->p.length≠0->RS (cz p) (Uq a) (Tv (Hq a) k p)/\Tv (Hq a) k p≠0
 | 0,p,_,h1,h2=>by omega
 |
  k+1,p,h,h1,h2=>by
  simp only [Tv];rw [if_neg h2];obtain ⟨_,hs⟩:=Q8x h ha;rcases hs with ⟨e,hv⟩ | ⟨e,hn⟩
  ·rw [if_pos e];have hdn:(U7 p).length≠0:=λh0=>by
    by_cases h3:p.length=1
    ·obtain ⟨c,rfl⟩:∃ c,p=[c]:=Ke.1 h3;have hc:c≠0:=by have:=Gq h.t (by simp); simpa using this
     obtain ⟨q,hq,_⟩:=Qr2 ha.cut (hv (Uk (c:Rat)) (Nc (Aq hc)));rw [Ud] at hq;have:Uf [c] q=(c:Rat):=by simp only [Uf]; grind
     rw [this] at hq; grind
    ·have h4:=Sa p (p.length-2);rw [Qh h0,show p.length-2+1=p.length-1 by omega] at h4;have h5:p.getD (p.length-1) 0≠0:=Gq h.t (by omega);rcases Ya.1 (h4.symm.trans (by simp)) with h6 | h6
     ·exact h5 h6
     ·omega
   have hl:=Tl p;obtain ⟨i1,i2⟩:=Qlh ha k (U7 p) h.der (by omega) hdn;exact ⟨Qo4 ha.cut hv (Zh9 (λt=>by rw [Ud,Dw,Ht]) i1) i2,i2⟩
  ·rw [if_neg e]; exact ⟨Qmf ha.cut hn,e⟩
theorem Qnt {a:Tm} (ha:Va a) {p:List Int} (h:Dp p) (h0:p.length≠0):RS (cz p) (Uq a) (Ms (Hq a) p)/\Ms (Hq a) p≠0:=Qlh ha _ p h (Qk _) h0
theorem Q6h {a:Tm}:Ms (Hq a) []=0:=rfl
theorem Zcy {l:List Int}:∀ z∈l,z.natAbs≤most l:=by
 have key:∀ (l:List Int) (m:Nat),m≤l.foldl (λm z=>if m<z.natAbs then z.natAbs else m) m/\∀ z∈l,z.natAbs≤l.foldl (λm z=>if m<z.natAbs then z.natAbs else m) m:=by
  intro l
  induction l with
  | nil=>exact λm=>⟨Qk _,λz hz=>by cases hz⟩
  |
   cons y l ih =>
   intro m;obtain ⟨e,he⟩:=nmE (if m<y.natAbs then y.natAbs else m);have h1:m<=e/\y.natAbs<=e:=by rw [he]; split <;> omega
   obtain ⟨i1,i2⟩:=ih e;simp only [Xi];rw [<-he];refine ⟨by omega,λz hz=>?_⟩;rcases Qo.1 hz with rfl | hz
   ·omega
   ·exact i2 z hz
 exact (key l 0).2
theorem Qhk {p:List Int} (h:Un p≠0):Fv p*((Un p).natAbs:Rat)=((Un p).natAbs:Rat)+((most (p.take (p.length-1)):Nat):Rat):=by
 unfold Fv;rw [<-Gm];have hp:0<(Un p).natAbs:=by omega
 have:=nat_pos hp;rw [show ((((Un p).natAbs:Int)):Rat)=((Un p).natAbs:Rat) from rfl,Fe this];rw [V4]; rfl
theorem Qym {m:Nat} {x:Rat} (hx:1≤Uk x):∀ (p:List Int) (lp:p.length≠0),(∀ z∈p.take (p.length-1),z.natAbs≤m)->Un p≠0->(m:Rat)≤(Uk x-1)*((Un p).natAbs:Rat)->((Un p).natAbs:Rat)≤Uf p x*(((Int.sign (Un p))*(if x<0/\p.length % 2=0 then -1 else 1):Int):Rat)
 | [],lp,_,_,_=>absurd rfl lp
 |
  [c],_,_,hc,_=>by
  have hl:Un [c]=c:=rfl;rw [hl] at hc ⊢;rw [if_neg (by simp),K9];have h1:Uf [c] x=(c:Rat):=by simp only [Uf]; grind
  rw [h1];have h2:c*Int.sign c=(c.natAbs:Int):=Int.mul_sign_self c;have:=congrArg (λz:Int=>(z:Rat)) h2;rw [Xv] at this;rw [this]; exact Ql
 |
  c::d::p,_,hm,hc,hb=>by
  have hl:Un (c::d::p)=Un (d::p):=by unfold Un; simp [List.getD_cons_succ]
  have ih:=Qym hx (d::p) (by simp) (λz hz=>hm z (by
   have e:(c::d::p).take ((c::d::p).length-1)=c::(d::p).take ((d::p).length-1):=by simp
   rw [e]; exact Qj _ hz)) (by rw [<-hl]; exact hc) (by rw [<-hl]; exact hb)
  rw [hl] at hc hb ⊢;have hcm:=hm c (by simp);obtain ⟨s,hs⟩:∃ s:Int,s=Int.sign (Un (d::p)):=⟨_,rfl⟩;have hsv:s=1\/s=-1:=by
   rw [hs];rcases V5 hc with h | h
   ·exact .inr (X3 h)
   ·exact .inl (Jd h)
  rw [<-hs] at ih ⊢;obtain ⟨ld,hld⟩:∃ ld:Rat,ld=((Un (d::p)).natAbs:Rat):=⟨_,rfl⟩;rw [<-hld] at ih hb ⊢;have hcq:Uk (c:Rat)<=(m:Rat):=by rw [Tf]; exact Za.2 hcm
  rw [Ru] at hcq;have e1:Uf (c::d::p) x=(c:Rat)+x*Uf (d::p) x:=rfl;rw [e1];have hlen:(c::d::p).length % 2=0↔¬(d::p).length % 2=0:=by simp only [Q9]; omega
  generalize Uf (d::p) x=y at *;generalize (m:Rat)=mm at *;generalize (c:Rat)=cc at *;have hx0:=hx;by_cases hneg:x<0
  ·have hq:Uk x=-x:=by unfold Uk; rw [if_pos hneg]
   rw [hq] at hx0 hb;by_cases hpar:(d::p).length % 2=0
   ·rw [if_pos ⟨hneg,hpar⟩] at ih;rw [if_neg λh=>(hlen.1 h.2) hpar];rcases hsv with rfl | rfl
    ·have ih:ld<=y*(-1):=by simpa using ih
     have:=Zm ih (show 0<=-x by grind);have e:(((1:Int)*1:Int):Rat)=1:=rfl;rw [e]; grind
    ·have ih:ld<=y*1:=by simpa using ih
     have:=Zm ih (show 0<=-x by grind);have e:(((-1:Int)*1:Int):Rat)=-1:=rfl;rw [e]; grind
   ·rw [if_neg λh=>hpar h.2] at ih;rw [if_pos ⟨hneg,hlen.2 hpar⟩];rcases hsv with rfl | rfl
    ·have ih:ld<=y*1:=by simpa using ih
     have:=Zm ih (show 0<=-x by grind);have e:(((1:Int)*-1:Int):Rat)=-1:=rfl;rw [e]; grind
    ·have ih:ld<=y*(-1):=by simpa using ih
     have:=Zm ih (show 0<=-x by grind);have e:(((-1:Int)*-1:Int):Rat)=1:=rfl;rw [e]; grind
  ·have hq:Uk x=x:=by unfold Uk; rw [if_neg hneg]
   rw [hq] at hx0 hb;rw [if_neg λh=>hneg h.1] at ih ⊢;rcases hsv with rfl | rfl
   ·have ih:ld<=y*1:=by simpa using ih
    have:=Zm ih (show 0<=x by grind);have e:(((1:Int)*1:Int):Rat)=1:=rfl;rw [e]; grind
   ·have ih:ld<=y*(-1):=by simpa using ih
    have:=Zm ih (show 0<=x by grind);have e:(((-1:Int)*1:Int):Rat)=-1:=rfl;rw [e]; grind
theorem Qtz {p:List Int} (tp:Ue p) (lp:p.length≠0) {x:Rat} (hx:Fv p<=Uk x):1<=Uk (Uf p x)/\(0<=x->U8 p x=Qca p)/\(x<0->U8 p x=Ii p):=by
 have hl:=Bn tp lp;have hpos:0<(Un p).natAbs:=by omega
 have h1:(1:Rat)<=((Un p).natAbs:Rat):=by
  have:((1:Nat):Rat)<=((Un p).natAbs:Rat):=Za.2 hpos;exact this
 have hm0:(0:Rat)<=((most (p.take (p.length-1)):Nat):Rat):=Xm;have hb:=Qhk hl;have hx1:=Q3 hx (show (0:Rat)<=((Un p).natAbs:Rat) by grind);have hx2:1<=Uk x:=by
  rcases U4 1 (Uk x) with h | h
  ·exact h
  ·exfalso;have:=Vp h (show (0:Rat)<((Un p).natAbs:Rat) by grind);grind
 have key:=Qym (m:=most (p.take (p.length-1))) hx2 p lp (λz hz=>Zcy z hz) hl (by grind);obtain ⟨s,hs⟩:∃ s:Int,s=Int.sign (Un p)*(if x<0/\p.length % 2=0 then -1 else 1):=⟨_,rfl⟩;rw [<-hs] at key;have hsv:s=1\/s=-1:=by
  rw [hs];rcases V5 hl with h | h
  ·rw [X3 h]; split <;> simp
  ·rw [Jd h]; split <;> simp
 have hsg:U8 p x=s/\1<=Uk (Uf p x):=by
  rw [Tx];rcases hsv with e | e
  ·rw [e] at key ⊢;have key:((Un p).natAbs:Rat)<=Uf p x:=by simpa using key
   exact ⟨Gy.2 (by grind),by unfold Uk; rw [if_neg (by grind)]; grind⟩
  ·rw [e] at key ⊢;have key:((Un p).natAbs:Rat)<=Uf p x*(-1):=by simpa using key
   exact ⟨Tp.2 (by grind),by unfold Uk; rw [if_pos (by grind)]; grind⟩
 refine ⟨hsg.2,λh=>?_,λh=>?_⟩
 ·rw [hsg.1,hs,if_neg λh'=>by have:=h'.1; grind]; unfold Qca; omega
 ·rw [hsg.1,hs]; unfold Ii;by_cases he:p.length % 2=0
  ·rw [if_pos ⟨h,he⟩,if_pos he]; omega
  ·rw [if_neg λh'=>he h'.2,if_neg he]; omega
theorem Ow {f g:List Int->Int}:∀ {l:List (List Int)} (s:Nat×Int),(∀ p∈l,f p=g p)->l.foldl (Hx f) s=l.foldl (Hx g) s
 | [],s,_=>rfl
 |
  p::l,s,h=>by
  simp only [Xi];have e:Hx f s p=Hx g s p:=by unfold Hx; rw [h p (List.mem_cons_self ..)]
  rw [e]; exact Ow _ λq hq=>h q (Qj _ hq)
theorem Qyh:∀ (l:List (List Int)),(∀ p∈l,Ue p/\p.length≠0)->∃ X:Rat,0<X/\∀ x,X≤x->(∀ p∈l,U8 p x=Qca p)/\∀ p∈l,U8 p (-x)=Ii p
 | [],_=>⟨1,by decide,λx _=>⟨(λp hp=>by cases hp),(λp hp=>by cases hp)⟩⟩
 |
  p::l,h=>by
  obtain ⟨X,hX,hl⟩:=Qyh l λq hq=>h q (Qj _ hq)
  obtain ⟨tp,lp⟩:=h p (Qr ..);refine ⟨X+Uk (Fv p),by have:=Gs (Fv p); grind,λx hx=>?_⟩;have hb0:=Gs (Fv p);have hb1:Fv p<=Uk (Fv p):=by unfold Uk; split <;> grind
  obtain ⟨l1,l2⟩:=hl x (by grind);have e1:Uk x=x:=by unfold Uk; rw [if_neg (by grind)]
  have e2:Uk (-x)=x:=by rw [Cy,e1]
  refine ⟨λq hq=>?_,λq hq=>?_⟩
  ·rcases Qo.1 hq with rfl | hq
   ·exact (Qtz tp lp (x:=x) (by rw [e1]; grind)).2.1 (by grind)
   ·exact l1 q hq
  ·rcases Qo.1 hq with rfl | hq
   ·exact (Qtz tp lp (x:=-x) (by rw [e2]; grind)).2.2 (by grind)
   ·exact l2 q hq
theorem Qwy {q:List Int} {L:List (List Rat)} (hS:Stm (cz q) L) (tq:Ue q) (lq:q.length≠0) {x y:Rat} (hxy:x<y) (h:Fv q<=x\/y<=-Fv q) (hb:0<Fv q):vv L x=vv L y:=by
 rcases Classical.em (vv L x=vv L y) with e | e
 ·exact e
 ·exfalso;obtain ⟨r,r1,r2,r3⟩:=Qph hS hxy e (d:=1) (by decide);have:=(Qtz tq lq (x:=r) (by rcases h with h | h <;> (unfold Uk; split <;> grind))).1;rw [Ud] at r3; grind
theorem Qdv {p:List Int} (h:Un p≠0):1<=Fv p:=by
 have hb:=Qhk h;have hp:=nat_pos (show 0<(Un p).natAbs by omega);have hm0:(0:Rat)<=((most (p.take (p.length-1)):Nat):Rat):=Xm;rcases U4 1 (Fv p) with h' | h'
 ·exact h'
 ·have:=Vp h' hp; grind
theorem Q2h {q:List Int} {l:List (List Int)} (hS:Stm (cz q) ((q::l).map cz)) (hl:∀ p∈q::l,Ue p/\p.length≠0):Oo (q::l)=(vv ((q::l).map cz) (-Fv q):Int)-(vv ((q::l).map cz) (Fv q):Int):=by
 obtain ⟨tq,lq⟩:=hl q (Qr ..);have hb:=Qdv (Bn tq lq);obtain ⟨X,hX,hx⟩:=Qyh (q::l) hl;obtain ⟨h1,h2⟩:=hx (X+Fv q) (by grind);have e1:P6 Qca (q::l)=vv ((q::l).map cz) (X+Fv q):=by
  rw [<-A4]; unfold Su P6;rw [Ow (f:=Qca) (g:=λp=>U8 p (X+Fv q)) (0,0) λp hp=>(h1 p hp).symm]
 have e2:P6 Ii (q::l)=vv ((q::l).map cz) (-(X+Fv q)):=by
  rw [<-A4]; unfold Su P6;rw [Ow (f:=Ii) (g:=λp=>U8 p (-(X+Fv q))) (0,0) λp hp=>(h2 p hp).symm]
 unfold Oo;rw [e1,e2,Qwy hS tq lq (x:=-(X+Fv q)) (y:=-Fv q) (by grind) (.inr Ql) (by grind),<-Qwy hS tq lq (x:=Fv q) (y:=X+Fv q) (by grind) (.inl Ql) (by grind)]
theorem Zht {f:List Rat} {L:List (List Rat)} (hS:Stm f L) {x y:Rat} (hxy:x<y) (hv:vv L y+2<=vv L x):∃ m,x<m/\m<y/\vv L m<vv L x/\vv L y<vv L m/\ev f m≠0:=by
 obtain ⟨R,hR,hx,hy⟩:=Qmw x y;obtain ⟨e,ep,he⟩:=Q9w hS R hR;have key:∀ n:Nat,∀ x,Uk x<=R->x<y->vv L y+2<=vv L x->y-x<=(n:Rat)*e->∃ m,x<m/\m<y/\vv L m<vv L x/\vv L y<vv L m:=by
  intro n
  induction n with
  | zero=>intro x _ hxy _ hn; rw [show ((0:Nat):Rat)=0 from rfl] at hn; exfalso; clear he; grind
  |
   succ n ih =>
   intro x hx hxy hv hn;have hn':(((n+1:Nat):Rat))=(n:Rat)+1:=by push_cast; rfl
   rw [hn'] at hn;rcases U4 (y-x) e with h1 | h1
   ·have:=he x y hx hy hxy h1; omega
   ·have hm:Uk (x+e)<=R:=Qch hx hy (by clear he ih; grind) (by clear he ih; grind);have h2:=he x (x+e) hx hm (by clear he ih; grind) (by clear he ih; grind);have h3:=D5 hS (show x<x+e by clear he ih; grind);by_cases h4:vv L x=vv L (x+e)
    ·obtain ⟨m,m1,m2,m3,m4⟩:=ih (x+e) hm (by clear he ih; grind) (by omega) (by clear he ih; grind);exact ⟨m,by clear he ih; grind,m2,by omega,m4⟩
    ·exact ⟨x+e,by clear he ih; grind,by clear he ih; grind,by omega,by omega⟩
 obtain ⟨n,hn⟩:=Iq (z:=y-x) ep;obtain ⟨m,m1,m2,m3,m4⟩:=key n x hx hxy hv hn;rcases Classical.em (ev f m=0) with h0 | h0
 ·-- a little farther on
  obtain ⟨e2,e2p,hl⟩:=loc hR hS (w:=f) (u:=[1]) (λt=>by rw [Hy]; grind);obtain ⟨d,dp,d1,d2⟩:=min2 (a:=e2) (b:=(y-m) / 2) e2p (Nx (by clear he key hl; grind) (by decide));have h2:(y-m) / 2*2=y-m:=Fe (by decide);have hmR:Uk m<=R:=Qch hx hy (Qm m1) (Qm m2);have hmR2:Uk (m+d)<=R:=Qch hx hy (by clear he key hl; grind) (by clear he key hl; grind);rcases hl m (m+d) hmR hmR2 (by clear he key hl; grind) (by clear he key hl; grind) with ⟨p1,p2,_⟩ | ⟨_,p1,_,p3,_⟩
  ·refine ⟨m+d,by clear he key hl; grind,by clear he key hl; grind,by omega,by omega,λh'=>?_⟩;have:=p2.s;rw [Fc.2 h'] at this; exact p2.n this.symm
  ·rw [Fc.2 h0] at p3; exact absurd p3.symm p1
 ·exact ⟨m,m1,m2,m3,m4,h0⟩
theorem Zej {q:List Int} {L:List (List Rat)} (hS:Stm (cz q) L) (tq:Ue q) (nq:q.length<=9) (lq:2<=q.length) {lo hi:Rat} (hl:lo<hi) (hv:vv L hi+2<=vv L lo):1<(hi-lo)*((2^(Rq q q+1):Nat):Rat):=by
 rcases U4 ((hi-lo)*((2^(Rq q q+1):Nat):Rat)) 1 with hw | hw
 ·exfalso;have hpow:(0:Rat)<=((2^(Rq q q+1):Nat):Rat):=Xm;obtain ⟨m,m1,m2,m3,m4,m0⟩:=Zht hS hl hv;obtain ⟨R,hR,r1,r2⟩:=Qmw lo hi;have hd:=Nc m0;obtain ⟨d,dp,_,db⟩:=Gd (b:=dqB R (cz q)) (d:=Uk (ev (cz q) m) / 2) (S4 hR _) (Nx hd (by decide));have hd2:Uk (ev (cz q) m) / 2*2=Uk (ev (cz q) m):=Fe (by decide);have hmR:Uk m<=R:=Qch r1 r2 (Qm m1) (Qm m2);have hnear:∀ r,Uk r<=R->Uk (ev (cz q) r)<Uk (ev (cz q) m) / 2->d<Uk (r-m):=λr hr hs=>by
   rcases U4 (Uk (r-m)) d with h | h
   ·exfalso;have h1:=S5 (p:=cz q) hmR hr hR h db;have h2:=Tc (ev (cz q) m-ev (cz q) r) (ev (cz q) r);rw [show ev (cz q) m-ev (cz q) r+ev (cz q) r=ev (cz q) m by grind,Qzz] at h2;grind
   ·exact h
  refine Q56 (R:=R+1) (d:=d+d) tq tq nq nq lq lq (by grind) (by grind) λe ep=>?_
  obtain ⟨e',ep',e1,e2⟩:=min2 (a:=e) (b:=Uk (ev (cz q) m) / 2) ep (Nx hd (by decide));obtain ⟨x,x1,x2,x3⟩:=Qph hS m1 (by omega) ep';obtain ⟨y,y1,y2,y3⟩:=Qph hS m2 (by omega) ep';have hxR:Uk x<=R:=Qch r1 r2 x1 (by grind);have hyR:Uk y<=R:=Qch r1 r2 (by grind) y2;have nx:=hnear x hxR (by grind);have ny:=hnear y hyR (by grind);have ex:Uk (x-m)=m-x:=by unfold Uk; split <;> grind
  have ey:Uk (y-m)=y-m:=by unfold Uk; split <;> grind
  rw [ex] at nx;rw [ey] at ny;have exy:Uk (x-y)=y-x:=by unfold Uk; split <;> grind
  refine ⟨x,y,by grind,by grind,by rw [exy]; grind,?_,by rw [<-Ud]; grind,by rw [<-Ud]; grind⟩;rw [exy];exact Q6 (Q3 (show y-x<=hi-lo by grind) hpow) hw
 ·exact hw
theorem Q45:∀ {k:Nat} {a b:List Int} {l:List (List Int)},chF k a b=some l->∀ p∈l,p.length≠0
 | 0,_,_,_,h=>by cases h
 |
  k+1,a,b,l,h=>by
  simp only [chF] at h
  split at h
  ·injection h with h; subst h; exact λp hp=>by cases hp
  ·rename_i h0;obtain ⟨r,_,h⟩:=Qe.1 h;obtain ⟨l',h1,h⟩:=Qe.1 h;injection h with h; subst h;intro p hp;rcases Qo.1 hp with rfl | hp
   ·exact h0
   ·exact Q45 h1 p hp
theorem Okp.pb {n s:Nat} {p:List Int} (h:Okp n s p) (hs:s<=16777216):Pb p:=⟨h.t,by have:=h.l; have:=h.z.1; omega,W8 h.b hs⟩
theorem Q08 {p:List Int} {q:List Int} {l:List (List Int)} (hp:Pb p) (h:chain p=some (q::l)) (hq:q.length≠0):∀ r∈q::l,Ue r/\r.length≠0:=by
 have h1:=(Orr.chain_ok hp h).2;unfold chain at h;obtain ⟨a,_,h⟩:=Qe.1 h
 split at h
 ·cases h
 ·obtain ⟨d,_,h⟩:=Qe.1 h;obtain ⟨l',h3,h⟩:=Qe.1 h;injection h with h;injection h with e1 e2;subst e1; subst e2;intro r hr;refine ⟨(h1 r hr).t,?_⟩;rcases Qo.1 hr with rfl | hr
  ·exact hq
  ·exact Q45 h3 r hr
inductive RI (q:List Int) (L:List (List Rat)):Rat->List Tm->Rat->Prop
 | nil {lo hi:Rat} (h:lo<=hi) (hv:vv L lo=vv L hi):RI q L lo [] hi
 | cons {lo hi:Rat} {t:Tm} {l:List Tm} (h:lo<=t.lo) (hv:vv L lo=vv L t.lo) (ht:Vt (cz q) L t.lo t.hi) (hp:t.p=q) (hl:RI q L t.hi l hi):RI q L lo (t::l) hi
theorem RI.app {q:List Int} {L:List (List Rat)} {lo m hi:Rat} {l l':List Tm} (h:RI q L lo l m) (h':RI q L m l' hi):RI q L lo (l++l') hi:=by
 induction h with
 |
  nil h hv =>
  cases h' with
  | nil h2 hv2=>exact .nil (by grind) (by omega)
  | cons h2 hv2 ht hp hl=>exact .cons (by grind) (by omega) ht hp hl
 | cons h hv ht hp _ ih=>exact .cons h hv ht hp (ih h')
theorem Q47 {D M k:Nat} {m:Rat} (h:Gr D M k m) (hM:0<M) (hs:Uj (D:Int)+Uj (M:Int)+k<=16777216):chq m=some m:=by
 have:=Qli h hM hs;unfold chq;rw [if_pos ⟨this.1,this.2⟩]
theorem Qg3 {q:List Int} {c:List (List Int)} (hS:Stm (cz q) (c.map cz)) (tq:Ue q) (nq:q.length<=9) (hc1:q.length<2->c=[q]) {D M F:Nat} (hM:0<M):∀ (k j:Nat) (lo hi:Rat),lo<hi->Gr D M j lo->Gr D M j hi->Uj (D:Int)+Uj (M:Int)+(j+k)<=16777216->(hi-lo)*((2^(Rq q q+1):Nat):Rat)<=((2^k:Nat):Rat) ->
 ∃ l,Dz q c (F+k+1) lo hi ((vv (c.map cz) lo:Int)-(vv (c.map cz) hi:Int))=some l/\RI q (c.map cz) lo l hi/\∀ t∈l,∃ k',k'≤j+k/\Gr D M k' t.lo/\Gr D M k' t.hi:=by
 intro k
 induction k with
 |
  zero =>
  intro j lo hi hl g1 g2 hs hK;have hle:=D5 hS hl;have h2:vv (c.map cz) lo<vv (c.map cz) hi+2:=by
   rcases Q5 (vv (c.map cz) lo) (vv (c.map cz) hi+2) with h | h
   ·exact h
   ·exfalso;have lq:2<=q.length:=by
     rcases Q5 q.length 2 with e | e
     ·have hvv:∀ x,vv (c.map cz) x=vv (c.map cz) 0:=λx=>by
       rcases hS with ⟨c0,hc0,hcc,hl'⟩ | ⟨g',l',k',hk,hg,hsc,hl'⟩
       ·rw [hl']; simp only [vv,tc,hcc]
       ·rw [hc1 e] at hl'; cases hl'
      rw [hvv lo,hvv hi] at h; omega
     ·exact e
    have:=Zej hS tq nq lq hl h;rw [Yw] at hK;have h7:((1:Nat):Rat)=1:=rfl;rw [h7] at hK; grind
  simp only [Dz];by_cases e0:vv (c.map cz) lo=vv (c.map cz) hi
  ·rw [if_pos (by omega)];exact ⟨[],rfl,.nil (Qm hl) e0,λt ht=>by cases ht⟩
  ·rw [if_neg (by omega),if_pos (by omega)];refine ⟨[⟨q,lo,hi⟩],rfl,.cons Ql rfl ⟨hS,hl,by show vv _ lo=vv _ hi+1; omega⟩ rfl (.nil Ql rfl),λt ht=>?_⟩;rw [Qt.1 ht]; exact ⟨j,by omega,g1,g2⟩
 |
  succ k ih =>
  intro j lo hi hl g1 g2 hs hK;have hle:=D5 hS hl;show ∃ l,(if (vv (c.map cz) lo:Int)-(vv (c.map cz) hi:Int)=0 then some [] else if (vv (c.map cz) lo:Int)-(vv (c.map cz) hi:Int)=1 then some [⟨q,lo,hi⟩] else (chq (Ib lo hi)).bind λm=>(Dz q c (F+k+1) lo m (G7 c lo m)).bind λl=>(Dz q c (F+k+1) m hi ((vv (c.map cz) lo:Int)-(vv (c.map cz) hi:Int)-G7 c lo m)).bind λr=>some (l++r))=some l/\_;by_cases e0:vv (c.map cz) lo=vv (c.map cz) hi
  ·rw [if_pos (by omega)];exact ⟨[],rfl,.nil (Qm hl) e0,λt ht=>by cases ht⟩
  by_cases e1:vv (c.map cz) lo=vv (c.map cz) hi+1
  ·rw [if_neg (by omega),if_pos (by omega)];refine ⟨[⟨q,lo,hi⟩],rfl,.cons Ql rfl ⟨hS,hl,e1⟩ rfl (.nil Ql rfl),λt ht=>?_⟩;rw [Qt.1 ht]; exact ⟨j,by omega,g1,g2⟩
  ·rw [if_neg (by omega),if_neg (by omega)];obtain ⟨m,hm⟩:=nmE ((lo+hi) / 2);have h2:(lo+hi) / 2*2=lo+hi:=Fe (by decide);rw [<-hm] at h2;have gm:Gr D M (j+1) m:=by rw [hm]; exact Qu6 g1 g2
   have l1:lo<m:=by grind
   have l2:m<hi:=by grind
   rw [Qbh,<-hm,Q47 gm hM (by omega)];show ∃ l,((Dz q c (F+k+1) lo m (G7 c lo m)).bind λl=>(Dz q c (F+k+1) m hi ((vv (c.map cz) lo:Int)-(vv (c.map cz) hi:Int)-G7 c lo m)).bind λr=>some (l++r))=some l/\_;rw [Dd (Qm l1),show (vv (c.map cz) lo:Int)-(vv (c.map cz) hi:Int)-((vv (c.map cz) lo:Int)-(vv (c.map cz) m:Int))=(vv (c.map cz) m:Int)-(vv (c.map cz) hi:Int) by omega];rw [Ql7 k] at hK;have hp:∀ x y:Rat,(y-x)*2=hi-lo->(y-x)*((2^(Rq q q+1):Nat):Rat)<=((2^k:Nat):Rat):=λx y h=>by
    have:(y-x)*((2^(Rq q q+1):Nat):Rat)*2=(hi-lo)*((2^(Rq q q+1):Nat):Rat):=by rw [<-h]; grind
    grind
   obtain ⟨la,a1,a2,a3⟩:=ih (j+1) lo m l1 (Qfl g1) gm (by omega) (hp lo m (by grind));obtain ⟨lb,b1,b2,b3⟩:=ih (j+1) m hi l2 gm (Qfl g2) (by omega) (hp m hi (by grind));rw [a1];show ∃ l,((Dz q c (F+k+1) m hi ((vv (c.map cz) m:Int)-(vv (c.map cz) hi:Int))).bind λr=>some (la++r))=some l/\_;rw [b1];refine ⟨la++lb,rfl,a2.app b2,λt ht=>?_⟩;rcases Qz.1 ht with ht | ht
   ·obtain ⟨k',h1,h2,h3⟩:=a3 t ht; exact ⟨k',by omega,h2,h3⟩
   ·obtain ⟨k',h1,h2,h3⟩:=b3 t ht; exact ⟨k',by omega,h2,h3⟩
theorem Zhk {D M k:Nat} {q:Rat} (h:Gr D M k q):Gr D M k (-q):=by
 obtain ⟨u,hu⟩:=h.u;exact ⟨⟨-u,by rw [Y7,<-hu]; grind⟩,by rw [Cy]; exact h.b,h.d⟩
theorem Qrk {m s:Nat} (h:m<2^s):Uj ((m+1:Nat):Int)<=s+1:=by
 rw [Rl,Zx,Zl]; omega
theorem Q1u {z:Int} {s:Nat} (h:Uj z<=s):Uj ((z.natAbs+1:Nat):Int)<=s+1:=Qrk (Rl.1 h)
theorem Zd8 {x:Rat} {m s g N:Nat} (hx:x<=2*((m+1:Nat):Rat)) (hm:m+1<=2^s) (hN:s+1+g<=N):x*((2^g:Nat):Rat)<=((2^N:Nat):Rat):=by
 have h3:=Za.2 hm;have e:=Ql7 s;have h4:(0:Rat)<=((2^s:Nat):Rat):=Xm;have h1:x<=((2^(s+1):Nat):Rat):=by rw [e]; grind
 have h5:(0:Rat)<=((2^g:Nat):Rat):=Xm;refine Q6 (Q3 h1 h5) ?_;have h6:2^(s+1)*2^g<=2^N:=by
  rw [<-Xe]; exact Zo (by decide) hN
 have:=Za.2 h6;rw [Rat.natCast_mul] at this;exact this
theorem Zao {s:Nat} {l:List Int} (h:Bd s l):most l<2^s:=by
 have key:∀ (l:List Int) (m:Nat),m<2^s->Bd s l->l.foldl (λm z=>if m<z.natAbs then z.natAbs else m) m<2^s:=by
  intro l
  induction l with
  | nil=>exact λm h _=>h
  |
   cons y l ih =>
   intro m hm hb;simp only [Xi];refine ih _ ?_ λz hz=>hb z (Qj _ hz)
   have:=hb y (Qr ..);rw [Rl] at this
   split <;> assumption
 exact key l 0 (Zv (by decide)) h
theorem Zgx {p q:List Int} (h:chk p=some q):q=p:=by
 unfold chk at h
 split at h
 ·injection h with h; exact h.symm
 ·cases h
theorem Qs1 {s:Nat} {p:List Int} (hs9:s≤900) (h:Okp 9 s p):∃ q c l,Ss p=some q/\chain p=some c/\Qjk p=some l/\Stm (cz q) (c.map cz)/\RI q (c.map cz) (-Fv q) l (Fv q)/\(∀ t∈l,Va t)/\(∀ x y,x<y->Fv q≤x\/y≤-Fv q->vv (c.map cz) x=vv (c.map cz) y)/\q.length≤p.length/\∀ t∈l,t.p=q/\t.lo<t.hi/\Bd (s+69) q/\∃ D M k,Gr D M k t.lo/\Gr D M k t.hi/\0<M/\Uj (D:Int)≤s+69/\Uj (M:Int)≤s+70/\k≤63*s+5160:=by
 obtain ⟨pp,hpl,hpb⟩:=h.pr;obtain ⟨g,q',hq',sq⟩:=Qan h;obtain ⟨q,l,q1,q2,hS,hl0⟩:=chain_ok h;rw [hq'] at q1;injection q1 with q1;subst q1;have e1:∀ t,Uf (Ug p) t=Uf q' t*Uf g t:=λt=>by rw [sq.e]; grind
 obtain ⟨p1,p2⟩:=Hi pp.t pp.n e1;have hch:chF 66 q' (Ug (U7 q'))=some l:=by
  have h2:=q2;unfold chain at h2;rw [hq'] at h2;simp only [Jh] at h2
  split at h2
  ·cases h2
  ·cases hd:chk (U7 q') with
   | none=>rw [hd] at h2; cases h2
   |
    some d =>
    rw [hd] at h2;simp only [Jh] at h2;obtain rfl:d=U7 q':=Zgx hd;cases hc:chF 66 q' (Ug (U7 q')) with
    | none=>rw [hc] at h2; cases h2
    | some l'=>rw [hc] at h2; simp at h2; rw [h2]
 have hll:=Sp sq.pq.t sq.pg.t pp.t e1 p1 p2;have hl9:=h.l;have bq:Bd (s+69) q':=Am hpb (by omega) pp.t sq.pq.t sq.pg.t pp.n e1;have hall:=Q08 (h.pb (by omega)) q2 sq.pq.n;have hld:Un q'≠0:=by have:=sq.pq.l; omega
 have hb1:=Qdv hld;obtain ⟨D,hD⟩:=nmE ((Un q').natAbs);obtain ⟨m,hm⟩:=nmE (most (q'.take (q'.length-1)));have hm2:m<2^(s+69):=by rw [hm]; exact Zao (s:=s+69) λz hz=>bq z (Qq hz)
 have hD0:0<D:=by omega
 have hDs:Uj (D:Int)<=s+69:=by
  have:=Px bq;rw [Rl] at this ⊢;rw [Zx,hD]; exact this
 have hbe:=Qhk hld;rw [<-hD,<-hm] at hbe;have hDq:=nat_pos hD0;have hbm:Fv q'<=((m+1:Nat):Rat):=by
  have hD1:(1:Rat)<=(D:Rat):=by
   have:((1:Nat):Rat)<=(D:Rat):=Za.2 hD0;exact this
  have hm0:(0:Rat)<=(m:Rat):=Xm;have h3:=S6 (a:=(m:Rat)) (c:=1) hm0 Ql (by decide) hD1;rcases U4 (Fv q') ((m+1:Nat):Rat) with h' | h'
  ·exact h'
  ·exfalso;have:=Vp h' hDq
   push_cast at this; grind
 have gb:Gr D (m+1) 0 (Fv q'):=by
  refine ⟨⟨(D+m:Nat),?_⟩,?_,hD0⟩
  ·rw [Yw,Yn,hbe];rw [show ((((D+m:Nat):Int)):Rat)=((D+m:Nat):Rat) from rfl]; push_cast; rfl
  ·have:Uk (Fv q')=Fv q':=by unfold Uk; rw [if_neg (by grind)]
   rw [this]; exact hbm
 have hMs:Uj ((m+1:Nat):Int)<=s+69+1:=Qrk (s:=s+69) hm2;have hK:(Fv q' - -Fv q')*((2^(Rq q' q'+1):Nat):Rat)<=((2^(63*s+5160):Nat):Rat):=by
  have hps:=Ey bq;have hg:Rq q' q'<=(2*s+164)*31:=by
   unfold Rq;exact Zi (by omega) (by omega)
  exact Zd8 (s:=s+69) (g:=Rq q' q'+1) (N:=63*s+5160) (by grind) hm2 (by omega)
 have hN:Uj (D:Int)+Uj ((m+1:Nat):Int)+(0+(63*s+5160))<=16777216:=by omega
 obtain ⟨ls,r1,r2,r3⟩:=Qg3 (F:=99999-(63*s+5160)) hS sq.pq.t (by omega) (λh=>by rw [hl0 h]) (Wu m) (63*s+5160) 0 (-Fv q') (Fv q') (by grind) (Zhk gb) gb hN hK;rw [show 99999-(63*s+5160)+(63*s+5160)+1=100000 by omega] at r1;have hchq:chq (Fv q')=some (Fv q'):=Q47 gb (Wu m) (by omega);have key:∀ t∈ls,Va t/\t.p=q'/\t.lo<t.hi/\Bd (s+69) q'/\∃ D M k,Gr D M k t.lo/\Gr D M k t.hi/\0<M/\Uj (D:Int)≤s+69/\Uj (M:Int)≤s+70/\k≤63*s+5160:=λt ht=>by
  obtain ⟨k',k1,k2,k3⟩:=r3 t ht;have hmem:∀ {lo hi:Rat} {ls:List Tm},RI q' ((q'::l).map cz) lo ls hi->t∈ls->Vt (cz q') ((q'::l).map cz) t.lo t.hi/\t.p=q':=λh=>by
   induction h with
   | nil=>intro ht; cases ht
   |
    cons h hv ht' hp hl ih =>
    intro ht;rcases Qo.1 ht with rfl | ht
    ·exact ⟨ht',hp⟩
    ·exact ih ht
  obtain ⟨v1,v2⟩:=hmem r2 ht;have lq2:2<=q'.length:=by
   rcases Q5 q'.length 2 with e | e
   ·exfalso;have hvv:∀ x,vv ((q'::l).map cz) x=0:=λx=>by
     rw [hl0 e,sq.pq.one e];have hv1:∀ x:Rat,ev (cz [1]) x=1:=λx=>by rw [Ud,Mb]
     simp only [Zw,Jb,vv,tc,hv1];have:Uo 1=1:=by decide
     rw [this]; decide
    have:=v1.v;rw [hvv,hvv] at this; omega
   ·exact e
  exact ⟨⟨.inr ⟨_,by rw [v2]; exact v1⟩,by rw [v2]; exact sq.pq.t,by rw [v2]; omega,by rw [v2]; exact lq2,by rw [v2]; exact W8 bq (by omega),λ_=>by rw [v2]; exact W8 bq (by omega),λ_=>by rw [v2]; exact ⟨l,_,g,hch,sq,v1⟩,D,m+1,k',k2,k3,Wu m,by omega⟩,v2,v1.l,bq,D,m+1,k',k2,k3,Wu m,hDs,Qa hMs (Qk (s+70)),by rw [Zz] at k1; exact k1⟩
 refine ⟨q',q'::l,ls,hq',q2,?_,hS,r2,λt ht=>(key t ht).1,λx y hxy hb=>Qwy hS sq.pq.t sq.pq.n hxy hb (by grind),by omega,λt ht=>(key t ht).2⟩
 ·unfold Qjk;rw [q2,hq'];show (chq (Fv q')).bind _=_;rw [hchq];show Dz q' (q'::l) 100000 (-Fv q') (Fv q') (Oo (q'::l))=_;rw [Q2h hS hall];exact r1
theorem Q8i {p:List Int} (h:Okp 9 900 p):∃ q c l,Ss p=some q/\chain p=some c/\Qjk p=some l/\Stm (cz q) (c.map cz)/\RI q (c.map cz) (-Fv q) l (Fv q)/\(∀ t∈l,Va t)/\(∀ x y,x<y->Fv q≤x\/y≤-Fv q->vv (c.map cz) x=vv (c.map cz) y):=by
 obtain ⟨q,c,l,h1,h2,h3,h4,h5,h6,h7,_⟩:=Qs1 (Qk _) h;exact ⟨q,c,l,h1,h2,h3,h4,h5,h6,h7⟩
theorem Ci {q:List Int} {L:List (List Rat)} (hS:Stm (cz q) L) {c:Rat->Int} (hc:Cut c) {lo:Rat} (hH:∀ z,c z=-1->z<=lo->vv L z=vv L lo) {y0:Rat} (hy:c y0=-1) (hv:∀ z,lo<z->z<=y0->vv L z=vv L lo):∃ s,s≠0/\∀ z,c z=-1->z<=y0->Uo (ev (cz q) z)=s:=by
 have hall:∀ z,c z=-1->z<=y0->vv L z=vv L lo:=λz h1 h2=>by
  rcases U4 z lo with e | e
  ·exact hH z h1 e
  ·exact hv z e h2
 have hne:∀ z,c z=-1->z<=y0->Uo (ev (cz q) z)≠0:=λz h1 h2=>by
  obtain ⟨w,w1,w2⟩:=hc.dn z h1;have:=Qpq hS w1 (by rw [hall w w2 (by grind),hall z h1 h2]);rw [this.s]; exact this.n
 refine ⟨Uo (ev (cz q) y0),hne y0 hy Ql,λz h1 h2=>?_⟩;rcases Classical.em (z=y0) with e | e
 ·rw [e]
 ·have:=Qpq hS (x:=z) (y:=y0) (by grind) (by rw [hall z h1 h2,hall y0 hy Ql]);rw [this.s,Ds (hne z h1 h2)]
structure Fst (o:List Int) (a t:Tm):Prop where
 lt:Pn a t
 s:∃ s,s≠0/\(∀ z,Uq a z=-1->Uq t z=1->Uo (ev (cz o) z)=s)/\RS (cz o) (Uq t) (-s)
def Non (o:List Int) (a:Tm):Prop:=∃ s,s≠0/\∀ z,Uq a z=-1->Uo (ev (cz o) z)=s
theorem Q14 {q:List Int} {L:List (List Rat)} (hS:Stm (cz q) L) {a:Tm} (ha:Va a) {lo hi:Rat} {l:List Tm} (hR:RI q L lo l hi):(∀ t∈l,Va t)->(∀ z,hi<z->vv L z=vv L hi)->(∀ z,Uq a z=-1->z≤lo->vv L z=vv L lo)->∃ r,Qay a l=some r/\match r with
 | none=>Non q a
 | some t=>t∈l/\Fst q a t:=by
 have ca:=ha.cut
 induction hR with
 |
  @nil lo hi h hv =>
  intro _ hhi hH;refine ⟨none,rfl,?_⟩;obtain ⟨y1,hy1⟩:=ca.hi;have hall:∀ z,lo<z->vv L z=vv L lo:=λz hz=>by
   rcases U4 z hi with e | e
   ·have h1:=D5 hS hz;have h2:vv L hi<=vv L z:=by
     rcases Classical.em (z=hi) with e' | e'
     ·rw [e']; exact Qk _
     ·exact D5 hS (by grind)
    omega
   ·rw [hhi z e,hv]
  obtain ⟨s,s0,hs⟩:=Ci hS ca hH hy1 λz h1 _=>hall z h1
  refine ⟨s,s0,λz hz=>?_⟩;rcases U4 z y1 with e | e
  ·exact hs z hz e
  ·obtain ⟨s',s0',hs'⟩:=Ci hS ca hH hz λz h1 _=>hall z h1
   rw [hs' z hz Ql,<-hs' y1 hy1 (Qm e),hs y1 hy1 Ql]
 |
  @cons lo hi t l h hv ht hp hl ih =>
  intro hV hhi hH;have hvt:=hV t (Qr ..);have ct:=hvt.cut;have ht':=ht;rw [<-hp] at ht';have ect:∀ z,Uq t z=cq (cz t.p) t.lo t.hi z:=Tj ht.l;obtain ⟨c,c1,c2⟩:=O5 hvt ha;show ∃ r,((Qf7 t a).bind λc=>if 0<c then some (some t) else Qay a l)=some r/\_;rw [c1];show ∃ r,(if 0<c then some (some t) else Qay a l)=some r/\_;have hlo1:Uq t t.lo=1:=by rw [ect]; exact No Ql
  have hlow:∀ z,lo<z->Uq t z=1->vv L z=vv L lo:=λz h1 h2=>by
   rcases U4 z t.lo with e | e
   ·have a1:=D5 hS h1;have a2:vv L t.lo<=vv L z:=by
     rcases Classical.em (z=t.lo) with e' | e'
     ·rw [e']; exact Qk _
     ·exact D5 hS (by grind)
    omega
   ·rw [ect] at h2;have hz:z<=t.hi:=by
     rcases U4 z t.hi with e' | e'
     ·exact e'
     ·rw [Ia ht.l e'] at h2; omega
    rw [ht'.eq_lo e hz h2,hv]
  by_cases hc:0<c
  ·rw [if_pos hc];refine ⟨some t,rfl,Qr ..,?_⟩;have hlt:Pn a t:=by
    rcases c2 with ⟨e,_⟩ | ⟨e,_⟩ | ⟨_,h⟩
    ·omega
    ·omega
    ·exact h
   refine ⟨hlt,?_⟩;obtain ⟨m,m1,m2⟩:=hlt;obtain ⟨s,s0,hs⟩:=Ci hS ca hH m1 λz h1 h2=>hlow z h1 (by
    rcases Classical.em (z=m) with e | e
    ·rw [e]; exact m2
    ·exact ct.mono' (q:=z) (r:=m) (by grind) (by omega))
   have hall:∀ z,Uq a z=-1->Uq t z=1->Uo (ev (cz q) z)=s:=λz h1 h2=>by
    rcases U4 z m with e | e
    ·exact hs z h1 e
    ·obtain ⟨s',s0',hs'⟩:=Ci hS ca hH h1 λw w1 w2=>hlow w w1 (by
      rcases Classical.em (w=z) with e | e
      ·rw [e]; exact h2
      ·exact ct.mono' (q:=w) (r:=z) (by grind) (by omega))
     rw [hs' z h1 Ql,<-hs' m m1 (Qm e),hs m m1 Ql]
   refine ⟨s,s0,hall,?_⟩;obtain ⟨w,w1,w2,w3⟩:=Qh3 ct m2 hlo1;have hwa:Uq a w=-1:=ca.mono m w w2 (by omega);have hsw:=hall w hwa w1;have hwh:w<t.hi:=by
    rw [ect] at w1;rcases U4 t.hi w with e | e
    ·have:=ht'.hi1;rcases Classical.em (t.hi=w) with e' | e'
     ·rw [<-e'] at w1; exact absurd w1 this
     ·rw [Ia ht.l (by grind)] at w1; omega
    ·exact e
   have hww:vv L w=vv L t.lo:=ht'.eq_lo w3 (Qm hwh) (by rw [<-ect]; exact w1);have hvv:=ht.v;have hone:=Qpp hS hwh (by omega);have hlw:Tr (cz q) w=s:=by rw [Ds (by rw [hsw]; exact s0),hsw]
   rw [hlw] at hone;have hd:∀ z,w<z->z<=t.hi->Uq t z=-1->Uo (ev (cz q) z)=-s:=λz z1 z2 z3=>by
    rw [ect] at z3;have e1:=ht'.eq_hi (by grind) z2 (by omega);have e2:=Qpp hS z1 (by omega);rw [hlw] at e2;have hz0:Uo (ev (cz q) z)≠0:=by
     rw [Mx (by grind) z2,hp] at z3;intro h0;rw [if_pos h0] at z3; omega
    rw [Ds hz0] at e2; exact e2.2
   rcases ct.val t.hi with e | e | e
   ·rw [ect] at e; exact absurd e ht'.hi1
   ·obtain ⟨d,dp,hd'⟩:=Zkb (p:=cz q) (x:=t.hi) (by rw [hone.2]; omega);refine ⟨t.hi+d,ct.mono t.hi _ (by grind) (by omega),λz h1 h2=>?_⟩;have hz:t.hi<z:=by
     rcases U4 z t.hi with e' | e'
     ·rcases Classical.em (z=t.hi) with e'' | e''
      ·rw [e''] at h1; omega
      ·have:=ct.mono z t.hi (by grind) (by omega); omega
     ·exact e'
    rw [hd' z hz (by grind),hone.2]
   ·exact ⟨t.hi,e,λz h1 h2=>hd z (ct.lt w1 h1) h2 h1⟩
  ·rw [if_neg hc];have hle:¬Pn a t:=λh=>by
    rcases c2 with ⟨e,h'⟩ | ⟨e,h'⟩ | ⟨e,_⟩
    ·exact Oc ct ca h' h
    ·obtain ⟨z,z1,z2⟩:=h;have:=h' z; omega
    ·omega
   obtain ⟨r,r1,r2⟩:=ih (λx hx=>hV x (Qj _ hx)) hhi λz z1 z2=>by
    have hz:Uq t z≠1:=λh=>hle ⟨z,z1,h⟩
    have hzl:t.lo<z:=by
     rcases U4 z t.lo with e | e
     ·refine absurd ?_ hz;rw [ect]; exact No e
     ·exact e
    exact ht'.eq_hi hzl z2 (by rw [<-ect]; exact hz)
   refine ⟨r,r1,?_⟩;cases r with
   | none=>exact r2
   | some x=>exact ⟨Qj _ r2.1,r2.2⟩
theorem Zft {c:Rat->Int} (hc:Cut c):∀ (n:Nat) (f:List Rat),HD f n->∃ s,s≠0/\RS f c s
 |
  n,f,h=>by
  rcases Oy hc f with hv | ⟨s,hs,hn⟩
  ·cases n with
   |
    zero =>
    exfalso;obtain ⟨q,hq,_⟩:=Qr2 hc (hv (Uk (f.getD 0 0)) (Nc h.1));cases f with
    | nil=>exact h.1 (by simp)
    |
     cons a l =>
     have:=By (p:=l) λk=>by have:=h.2 (k+1) (by omega); rwa [Q0] at this
     simp only [ev,this,Zp] at hq; grind
   |
    succ n =>
    have hd:HD (Mg f) n:=by
     have key:∀ (f:List Rat) (k:Nat),(Mg f).getD k 0=((k+1:Nat):Rat)*f.getD (k+1) 0:=by
      intro f
      induction f with
      | nil=>intro k; simp only [Mg,Kf]; grind
      |
       cons a f ih =>
       intro k;simp only [Mg];rw [Hb,Q0];cases k with
       | zero=>rw [Zp]; push_cast; grind
       | succ k=>rw [Q0,ih]; push_cast; grind
     refine ⟨λh0=>?_,λk hk=>by rw [key,h.2 (k+1) (by omega)]; grind⟩;rw [key] at h0;rcases Jr.1 h0 with h1 | h1
     ·have:=nat_pos (show 0<n+1 by omega); grind
     ·exact h.1 h1
    obtain ⟨s,hs,h1⟩:=Zft hc n (Mg f) hd;exact ⟨s,hs,Qo4 hc hv h1 hs⟩
  ·exact ⟨s,hs,Qmf hc hn⟩
theorem Q8l {c:Rat->Int} (hc:Cut c) {f p q:List Rat} {s s':Int} (hf:∀ t,ev f t=ev p t*ev q t) (h:RS p c s) (h':RS q c s'):RS f c (s*s'):=by
 obtain ⟨y,h1,h2⟩:=h;obtain ⟨y',h3,h4⟩:=h';refine ⟨if y<=y' then y else y',by split <;> assumption,λz z1 z2=>?_⟩;rw [hf,Td,h2 z z1 (by clear h2 h4; grind),h4 z z1 (by clear h2 h4; grind)]
theorem Q8m {c:Rat->Int} (hc:Cut c) {f o S:List Rat} {k:Rat} (hk:k≠0) (hf:∀ t,ev f t=k*(ev o t*(ev S t*ev S t))) (hnz:¬∀ t,ev f t=0) {s:Int} (h:RS o c s):RS f c (Uo k*s):=by
 obtain ⟨n,_,hn⟩:∃ n,n<S.length/\HD S n:=by
  rcases Qfm S with h1 | h1
  ·exact absurd (λt=>by rw [hf,h1]; grind) hnz
  ·exact h1
 obtain ⟨s',hs',h'⟩:=Zft hc n S hn;have h1:=Q8l hc (f:=Ft S S) (λt=>Uh t _ _) h' h';have h2:=Q8l hc (f:=Ft o (Ft S S)) (λt=>Uh t _ _) h h1;have hsq:s'*s'=1:=by
  obtain ⟨y,y1,y2⟩:=h';have:=y2 y y1 Ql;rcases Fh (ev S y) with ⟨e,_⟩ | ⟨e,_⟩ | ⟨e,_⟩
  ·rw [<-this,e]; rfl
  ·omega
  ·rw [<-this,e]; rfl
 rw [hsq,K9] at h2;obtain ⟨y,y1,y2⟩:=h2;exact ⟨y,y1,λz z1 z2=>by
  have:=y2 z z1 z2;rw [Uh,Uh] at this;rw [hf,Td,this]⟩
structure Cp (p:List Int):Prop where
 t:Ue p
 l:p.length<=9
 b:Bd 800 p
theorem Cp.dp {p:List Int} (h:Cp p):Dp p:=⟨h.t,h.l,W8 h.b (by omega)⟩
theorem Cp.ok {p:List Int} (h:Cp p) (h0:p.length≠0):Okp 9 900 p:=h.dp.ok h0
def Leq (a:Tm) (c:Rat->Int):Prop:=∀ q,c q=-1->Uq a q=-1
def Tk (p:List Int) (a:Tm):Option Tm->Prop
 | none=>p=[]\/∃ s,s≠0/\∀ c,Cut c->Leq a c->RS (cz p) c s
 | some t=>p≠[]/\Va t/\Pn a t/\∃ s,s≠0/\(∀ c,Cut c->Leq a c->(∃ m,c m=-1/\Uq t m=1)->RS (cz p) c s)/\RS (cz p) (Uq t) (-s)
theorem RI.len {q:List Int} {L:List (List Rat)} {lo hi:Rat} {l:List Tm} (h:RI q L lo l hi):l.length+vv L hi<=vv L lo:=by
 induction h with
 | nil h hv=>simp; omega
 | cons h hv ht hp hl ih=>have:=ht.v; simp only [Q9]; omega
theorem Q9k (x:Rat):∀ (L:List (List Rat)) (s:Int),tc x s L<=L.length
 | [],_=>Qk _
 |
  f::l,s=>by
  have h1:=Q9k x l;simp only [tc,Q9]
  repeat' split
  all_goals (first | (have:=h1 s; omega) | (have:=h1 (Uo (ev f x)); omega))
theorem Zi0 (L:List (List Rat)) (x:Rat):vv L x<=L.length:=Q9k x L 0
theorem Ox {p:List Int} (h:Cp p):∃ l,Ea p=some l/\l.length≤67/\(∀ t∈l,Va t)/\∀ a,Va a->∃ r,Qay a l=some r/\Tk p a r/\∀ t,r=some t->t∈l:=by
 unfold Ea;by_cases h0:p.length=0
 ·have e:p=[]:=Qh h0;subst e;exact ⟨[],rfl,by decide,(λt ht=>by cases ht),λa _=>⟨none,rfl,.inl rfl,λt ht=>by cases ht⟩⟩
 ·obtain ⟨qp,o,q1,o1,hpt⟩:=Qvl (n:=9) (s:=800) (p:=p) ⟨⟨by decide,by decide⟩,h.t,h0,h.l,h.b⟩;obtain ⟨g,sq⟩:=hpt.sq;obtain ⟨S,hS⟩:=hpt.os;obtain ⟨p1,p2,p3,p4,p5,p6,p7⟩:=Ta h.t h0;have hpl:=h.l;obtain ⟨hh,th,eh⟩:=hpt.oh;have bo:Bd 869 o:=Am (p5 800 h.b) (by omega) p1 hpt.ot th (by omega) eh;obtain ⟨lo1,lo2⟩:=Hi p1 (by omega) eh;have hlen:=Sp hpt.ot th p1 eh lo1 lo2;have oko:Okp 9 900 o:=⟨Qoj,hpt.ot,by omega,by omega,W8 bo (by omega)⟩;obtain ⟨q,c,l,r1,r2,r3,hSt,hRI,hVa,hout⟩:=Q8i oko;obtain ⟨g',q',s1,s2⟩:=Qan oko;rw [r1] at s1;injection s1 with s1;subst s1;obtain ⟨_,_,_,_,_,o6,o7⟩:=Ta hpt.ot (by omega);have hg1:g'=[1]:=by
   refine s2.pg.one ?_;obtain ⟨E,hE⟩:=hpt.oq;have hE:∀ t,Uf qp t=Uf o t*ev E t:=λt=>by have:=hE t; rwa [Ud,Ud] at this
   obtain ⟨z,hz⟩:=s2.d;have hd1:∀ t,Uf o t=Uf g' t*(Fu o*Uf q t):=λt=>by rw [o7,s2.e]; grind
   have hdo:∀ t,dv (cz o) t=Uf g' t*(Fu o*ev z t):=λt=>by
    have:=Q5o (p:=cz o) (q:=Pv (Fu o) (cz (Ug o))) (λt=>by rw [Ud,U0,Ud,o7]) t;rw [this,Qd4,hz]; grind
   obtain ⟨k,hk,hkk⟩:=sq.num (d:=cz g') ⟨Ft (Pv (Fu o) (cz q)) E,λt=>by rw [Ud,Ud,hE,hd1,Uh,U0,Ud]; grind⟩ ⟨H5 (Ft (Pv (Fu o) z) E) (Ft (Pv (Fu o) (cz q)) (Mg E)),λt=>by
    have:=Ak (f:=cz qp) (w:=cz o) (u:=E) (λt=>by rw [Ud,Ud,hE]) t;rw [Ht,this,hdo,Ud,Ud,hd1,Fa,Uh,Uh,U0,U0,Ht,Ud]; grind⟩
   rcases Q5 g'.length 2 with e | e
   ·exact e
   ·exfalso;have h1:=(Qax s2.pg.t (by omega)).1;have h2:=M3 (p:=cz g') (q:=[k]) (λt=>by rw [hkk]; simp only [ev]; grind) (g'.length-1);rw [h2,Qg,Qp (by simp; omega)] at h1;exact h1 rfl
  have hpq:∀ t,ev (cz p) t=((Fu p:Rat)*(Fu o:Rat))*(ev (cz q) t*(ev S t*ev S t)):=λt=>by
   rw [Ud,Ud,p7,hS,o7,s2.e,hg1,Mb]; grind
  have hk0:(Fu p:Rat)*(Fu o:Rat)≠0:=λh=>(Jr.1 h).elim (Aq p6) (Aq o6)
  have hpz:¬∀ t,ev (cz p) t=0:=λh'=>Qfg h.t (by omega) λt=>by rw [<-Ud]; exact h' t
  obtain ⟨k,hk⟩:=nmE (Uo ((Fu p:Rat)*(Fu o:Rat)));have hkn:k≠0:=λh=>hk0 (Fc.1 (by rw [<-hk]; exact h))
  have ho:o.length≠0:=by omega
  rw [o1];show ∃ l,(if o.length=0 then some [] else Qjk o)=some l/\l.length<=67/\_;rw [if_neg ho];have hb1:=Qdv (Bn s2.pq.t s2.pq.n);have hll:=hRI.len;have hlv:=Zi0 (c.map cz) (-Fv q);have hcl:=(Orr.chain_ok (p:=o) ⟨hpt.ot,by omega,W8 bo (by omega)⟩ r2).1;rw [Q4] at hlv;refine ⟨l,r3,by omega,hVa,λa ha=>?_⟩;obtain ⟨r,n1,n2⟩:=Q14 hSt ha hRI hVa (λz hz=>(hout _ _ hz (.inl Ql)).symm) λz _ hz=>by
   rcases Classical.em (z=-Fv q) with e | e
   ·rw [e]
   ·exact hout z _ (by grind) (.inr Ql)
  refine ⟨r,n1,?_,λt ht=>by subst ht; exact n2.1⟩;cases r with
  |
   none =>
   obtain ⟨s,hs,hz⟩:=n2;refine .inr ⟨k*s,Xp hkn hs,λc hc hac=>?_⟩;obtain ⟨y,hy⟩:=hc.hi;have h1:RS (cz q) c s:=⟨y,hy,λz z1 _=>hz z (hac z z1)⟩;rw [hk]; exact Q8m hc hk0 hpq hpz h1
  |
   some t =>
   obtain ⟨hm,hlt,s,hs,hz,hrs⟩:=n2;refine ⟨λe=>h0 (by rw [e]; rfl),hVa t hm,hlt,k*s,Xp hkn hs,λc hc hac ⟨m,m1,m2⟩=>?_,?_⟩
   ·have h1:RS (cz q) c s:=⟨m,m1,λz z1 z2=>hz z (hac z z1) (by
     rcases Classical.em (z=m) with e | e
     ·rw [e]; exact m2
     ·exact (hVa t hm).cut.mono' (q:=z) (r:=m) (by grind) (by omega))⟩
    rw [hk]; exact Q8m hc hk0 hpq hpz h1
   ·have:=Q8m (hVa t hm).cut hk0 hpq hpz hrs;rw [<-hk] at this;rw [show -(k*s)=k*-s by rw [Vx]]; exact this
structure Sz (s n:Nat) (t:Tm):Prop where
 n:t.p.length<=n
 b:Bd (s+138) t.p
 g:∃ D M k,Gr D M k t.lo/\Gr D M k t.hi/\0<M/\Uj (D:Int)<=s+138/\Uj (M:Int)<=s+139/\k<=63*s+9507
theorem Q9s {p:List Int} (h:Cp p) {s:Nat} (hs:s≤800) (hb:Bd s p) {l:List Tm} (hl:Ea p=some l):∀ t∈l,t.point=false/\Sz s p.length t:=by
 unfold Ea at hl;by_cases h0:p.length=0
 ·have e:p=[]:=Qh h0;subst e;injection hl with hl;intro t ht; rw [<-hl] at ht; cases ht
 ·obtain ⟨qp,o,q1,o1,hpt⟩:=Qvl (n:=9) (s:=800) (p:=p) ⟨⟨by decide,by decide⟩,h.t,h0,h.l,h.b⟩;obtain ⟨p1,p2,p3,p4,p5,p6,p7⟩:=Ta h.t h0;have hpl:=h.l;obtain ⟨hh,th,eh⟩:=hpt.oh;have bo:Bd (s+69) o:=Am (p5 s hb) (by omega) p1 hpt.ot th (by omega) eh;obtain ⟨lo1,lo2⟩:=Hi p1 (by omega) eh;have hlen:=Sp hpt.ot th p1 eh lo1 lo2;have ho:o.length≠0:=by omega
  have oko:Okp 9 (s+69) o:=⟨Zip Qoj (by omega),hpt.ot,by omega,by omega,bo⟩;obtain ⟨q,c,l',r1,r2,r3,_,_,_,_,hlq,hz⟩:=Qs1 (by omega) oko;rw [o1,Jh,if_neg ho,r3] at hl;have hl:=Option.some.inj hl;subst hl;intro t ht;obtain ⟨e,hlh,bq,D,M,k,g1,g2,g3,g4,g5,g6⟩:=hz t ht;have e6:63*(s+69)+5160=63*s+9507:=by rw [Xo,J5]
  rw [e6] at g6;refine ⟨?_,⟨by rw [e]; omega,by rw [e]; exact W8 bq (by omega),D,M,k,g1,g2,g3,by clear g6 e6; omega,by clear g6 e6; omega,g6⟩⟩;cases hp:t.point with
  | false=>rfl
  |
   true =>
   have:=Sb.1 hp;grind
theorem Q7a {p:List Int} (h:Cp p) {a:Tm} (ha:Va a):∃ r,Qfs p a=some r/\Tk p a r:=by
 obtain ⟨l,l1,_,_,l3⟩:=Ox h;obtain ⟨r,r1,r2,_⟩:=l3 a ha;refine ⟨r,?_,r2⟩;unfold Qfs;rw [l1]; exact r1
theorem Qem:∀ (l:List Tm) (b:Tm),(∀ t∈b::l,Va t)->∃ m,Au b l=some m/\m∈b::l/\∀ t∈b::l,¬Pn t m
 |
  [],b,h=>⟨b,rfl,Qr ..,λt ht h'=>by
  rw [Qt.1 ht] at h';have hb:=(h b (Qr ..)).cut;exact Oc hb hb h' h'⟩
 |
  a::l,b,h=>by
  have ha:=h a (by simp);have hb:=h b (by simp);obtain ⟨c,c1,c2⟩:=O5 ha hb;obtain ⟨m,m1,m2,m3⟩:=Qem l (if c<0 then a else b) λt ht=>by
   rcases Qo.1 ht with rfl | ht
   ·split <;> assumption
   ·exact h t (by simp [ht])
  refine ⟨m,by simp only [Au]; rw [c1]; exact m1,?_,λt ht=>?_⟩
  ·rcases Qo.1 m2 with e | e
   ·rw [e]; split <;> simp
   ·simp [e]
  ·have hm:Va m:=by
    rcases Qo.1 m2 with e | e
    ·rw [e]; split <;> assumption
    ·exact h m (by simp [e])
   have hfst:=m3 _ (Qr ..);have tr:∀ x y:Tm,Va x->Va y->¬Pn x y->¬Pn y m->¬Pn x m:=λx y hx hy h1 h2 h3=>by
    rcases tri hy.cut hm.cut with h4 | h4 | h4
    ·exact h2 h4
    ·obtain ⟨q,q1,q2⟩:=h3;exact h1 ⟨q,q1,by rw [h4]; exact q2⟩
    ·obtain ⟨q,q1,q2⟩:=h3;obtain ⟨r,r1,r2⟩:=h4;have:=hm.cut.lt q2 r1;exact h1 ⟨q,q1,hy.cut.mono' this (by omega)⟩
   rcases Qo.1 ht with rfl | ht
   ·by_cases hc:c<0
    ·rw [if_pos hc] at hfst;refine tr _ a hb ha ?_ hfst;rcases c2 with ⟨_,h'⟩ | ⟨e,_⟩ | ⟨e,_⟩
     ·exact λh''=>Oc ha.cut hb.cut h' h''
     ·omega
     ·omega
    ·rw [if_neg hc] at hfst; exact hfst
   ·rcases Qo.1 ht with rfl | ht
    ·by_cases hc:c<0
     ·rw [if_pos hc] at hfst; exact hfst
     ·rw [if_neg hc] at hfst;refine tr _ b ha hb ?_ hfst;rcases c2 with ⟨e,_⟩ | ⟨_,h'⟩ | ⟨_,h'⟩
      ·omega
      ·rintro ⟨q,q1,q2⟩
       have:=h' q; omega
      ·exact λh''=>Oc ha.cut hb.cut h'' h'
    ·exact m3 t (by simp [ht])
end Orq
namespace Orr
open Go Go.Proofs Orq
set_option maxRecDepth 10000
theorem Dp.pb {p:List Int} (h:Dp p):Pb p:=⟨h.t,by have:=h.l; omega,W8 h.b (by have:=h.l; omega)⟩
theorem Zjo {p:List Int} {a:Tm} (hp:Dp p) (ha:Va a):Ua Tryz.prog 228 [pr p,.agg (ta a)] [.one (.int .i64 (Hq a p))]:=Zaq (Dp.pb hp) ha.tb (Q8x hp ha).1
theorem Zjh {p:List Int} {a:Tm} (hp:Dp p) (ha:Va a):Ua Tryz.prog 227 [pr p,.one (.sh (ta a))] [.one (.int .i64 (Hq a p))]:=w tt Tryz.func227 rfl [.c [] (Zjo hp ha)] rfl rfl trivial
theorem Zbb {p:List Int} {fid:Nat} {l1:List LV} {sgn:List Int->Int} (hp:Dp p) (h:∀ p,Dp p->Ua Tryz.prog fid [pr p,.one (.sh l1)] [.one (.int .i64 (sgn p))]):Ua Tryz.prog 226 [pr p,.one (.fn fid [] [.sh l1])] [.one (.int .i64 (Tv sgn p.length p))]:=by
 have hpb:=Dp.pb hp;refine Gu Tryz.func226 rfl ?_;refine go tt [.c [] (Hm hpb.t hpb.ln hpb.bd)] rfl trivial ?_;refine lp (S:=List Int) 0 (λL1 s=>(0,.v (pr s))::L1) (λ_=>[]) (λs=>s.length) (λs=>Dp s/\Tv sgn s.length s=Tv sgn p.length p) p ⟨hp,rfl⟩ rfl (λ_ _=>rfl) rfl λr ⟨j1,j4⟩=>?_
 rw [<-j4];have jb:=Dp.pb j1;by_cases h0:r.length=0
 ·have e:=Qfk sgn h0;rw [e];exact en tt [.f (by simp; exact Qh h0)] rfl rfl trivial
 ·have hs:=h r j1;by_cases hz:sgn r=0
  ·have hlp:=Tl r;refine go tt [.t (by simp; omega),.c [] hs,.f (by simpa using hz),.c [] (Ef jb.ln jb.bd)] rfl trivial ?_;exact rd (U7 r) (by omega) ⟨j1.der,by rw [<-Qfj sgn (by omega) hz]⟩ rfl
  ·rw [Qfi sgn (by omega) hz];exact en tt [.t (by simp; omega),.c [] hs,.t (by simpa using hz)] rfl rfl trivial
abbrev gmA (a:Tm) (p:List Int):Int:=Ms (Hq a) p
theorem Ze4 {p:List Int} {a:Tm} (hp:Dp p) (ha:Va a):Ua Tryz.prog 176 [pr p,.agg (ta a)] [.one (.int .i64 (gmA a p))] :=
 w tt Tryz.func176 rfl [.c [] (Zbb (sgn:=Hq a) hp λ_ h=>Zjh h ha)] rfl rfl trivial
structure Sc (k:Crv):Prop where
 n:Nml k
 c:Cs 90 3 k
theorem Sc.cb {k:Crv} (h:Sc k):Cb k:=h.c.mono (by omega) (by omega)
theorem Zfz (q:Rat) {P:Prop} (h:(tq q).point=false):P:=by
 have e:(tq q).point=true:=Sb.2 Ql;rw [e] at h; cases h
theorem Q2u {q:Rat} (hq:Qs 400000 q):Va (tq q):=by
 have hd:=q.den_nz;refine ⟨.inl ⟨rfl,?_⟩,Qpe q,by show 2<=9; omega,by show 2<=2; omega,Zjg (hq.mono (by omega)),Zfz q,Zfz q,q.den,q.num.natAbs+1,0,?_,?_,by omega,?_⟩
 ·have e:(q.num:Rat)=q*(q.den:Rat):=by
   have:(q.num:Rat) / (((q.den:Int)):Rat)=q:=by rw [Gm,Zq]
   have h2:(q.num:Rat) / (q.den:Rat)*(q.den:Rat)=q.num:=Zf (by have:=Orq.nat_pos q.den_pos; grind);rw [show (q.num:Rat) / (q.den:Rat)=q from this] at h2; exact h2.symm
  show Uf [-q.num,(q.den:Int)] q=0;simp only [Uf];rw [Y7,e,show (((q.den:Int)):Rat)=(q.den:Rat) from rfl]; grind
 all_goals first | (have h1:Uj (q.den:Int)<=400000:=hq.2; have h2:Uj ((q.num.natAbs+1:Nat):Int)<=400001:=Q1u hq.1; omega) | skip
 all_goals
  refine ⟨⟨q.num,?_⟩,?_,q.den_pos⟩
  ·rw [Yw,Yn];have:(q.num:Rat) / (((q.den:Int)):Rat)=q:=by rw [Gm,Zq]
   have h2:(q.num:Rat) / (q.den:Rat)*(q.den:Rat)=q.num:=Zf (by have:=Orq.nat_pos q.den_pos; grind);rw [show (q.num:Rat) / (q.den:Rat)=q from this] at h2; exact h2
  ·have h1:Uk q<=Uk (q.num:Rat):=by
    have e:(q.num:Rat)=q*(q.den:Rat):=by
     have:(q.num:Rat) / (((q.den:Int)):Rat)=q:=by rw [Gm,Zq]
     have h2:(q.num:Rat) / (q.den:Rat)*(q.den:Rat)=q.num:=Zf (by have:=Orq.nat_pos q.den_pos; grind);rw [show (q.num:Rat) / (q.den:Rat)=q from this] at h2; exact h2.symm
    rw [e,Cx];have hd1:(1:Rat)<=(q.den:Rat):=by
     have:((1:Nat):Rat)<=(q.den:Rat):=Za.2 q.den_pos;exact this
    have e2:Uk (q.den:Rat)=(q.den:Rat):=by unfold Uk; rw [if_neg (by grind)]
    rw [e2];have:=S6 (a:=Uk q) (c:=1) (Gs q) Ql (by decide) hd1;grind
   rw [Tf] at h1;refine Q6 h1 (Za.2 (by omega))
end Orr
namespace Orr
variable {α:Type}
def M9 (lt:α->α->Bool) (out:List α) (x:α):Nat->Nat
 | 0=>0
 |
  k+1=>match out[k]? with
  | some y=>if lt x y=true then M9 lt out x k else k+1
  | none=>k+1
theorem Qop (lt:α->α->Bool) (out:List α) (x:α):∀ k,M9 lt out x k<=k
 | 0=>Qk _
 |
  k+1=>by
  simp only [M9]
  split
  ·split
   ·exact Nat.le_succ_of_le (Qop lt out x k)
   ·exact Qk _
  ·exact Qk _
theorem Qoq {lt:α->α->Bool} {out:List α} {x y:α} {k:Nat} (hx:out[k]? = some y) (h:lt x y=true):M9 lt out x (k+1)=M9 lt out x k:=by
 simp only [M9,hx,h,if_true]
theorem Qje {lt:α->α->Bool} {out:List α} {x y:α} {k:Nat} (hx:out[k]? = some y) (h:lt x y=false):M9 lt out x (k+1)=k+1:=by
 simp [M9,hx,h]
def Cq (lt:α->α->Bool) (out:List α) (x:α):List α:=out.take (M9 lt out x out.length)++x::out.drop (M9 lt out x out.length)
theorem Q6p (lt:α->α->Bool) (out:List α) (x:α):(Cq lt out x).length=out.length+1:=by
 have:=Qop lt out x out.length;simp [Cq]; omega
theorem Qiu {lt:α->α->Bool} {out:List α} {x y:α}:y∈Cq lt out x↔y=x\/y∈out:=by
 have h:y∈out↔y∈out.take (M9 lt out x out.length)\/y∈out.drop (M9 lt out x out.length):=by
  rw [<-Qz,Zb]
 simp only [Cq,Qz,Qo,h];constructor
 ·rintro (h | h | h)
  ·exact .inr (.inl h)
  ·exact .inl h
  ·exact .inr (.inr h)
 ·rintro (h | h | h)
  ·exact .inr (.inl h)
  ·exact .inl h
  ·exact .inr (.inr h)
def Gg (lt:α->α->Bool) (l:List α):List α:=l.foldl (Cq lt) []
theorem Qwq (lt:α->α->Bool) (l:List α) (x:α):Gg lt (l++[x])=Cq lt (Gg lt l) x:=by simp [Gg,Vg]
theorem Qjr {lt:α->α->Bool} {l:List α} {i:Nat} {x:α} (h:l[i]? = some x):Gg lt (l.take (i+1))=Cq lt (Gg lt (l.take i)) x:=by
 rw [Xk,h]; exact Qwq _ _ _
theorem Qio (lt:α->α->Bool):∀ (l acc:List α),(l.foldl (Cq lt) acc).length=acc.length+l.length
 | [],acc=>by simp
 | c::l,acc=>by simp only [Xi]; rw [Qio lt l (Cq lt acc c),Q6p]; simp; omega
theorem Pm (lt:α->α->Bool) (l:List α):(Gg lt l).length=l.length:=by unfold Gg; rw [Qio]; simp
theorem Qip (lt:α->α->Bool):∀ (l acc:List α) {y:α},y∈l.foldl (Cq lt) acc↔y∈l\/y∈acc
 | [],acc,y=>by simp
 |
  c::l,acc,y=>by
  simp only [Xi];rw [Qip lt l,Qiu,Qo];constructor
  ·rintro (h | h | h)
   ·exact .inl (.inr h)
   ·exact .inl (.inl h)
   ·exact .inr h
  ·rintro ((h | h) | h)
   ·exact .inr (.inl h)
   ·exact .inl h
   ·exact .inr (.inr h)
theorem E3 {lt:α->α->Bool} {l:List α} {y:α}:y∈Gg lt l↔y∈l:=by
 unfold Gg; rw [Qip]; simp
end Orr
namespace Orr
open Go Orq
structure Wt where
 c:Ct
 known:Bool
 fails:Option Tm
def f0:Option Tm->LV | none=>.row [] | some t=>pl t.p
def f1:Option Tm->LV | none=>.bool false | some t=>sg t.lo.num
def f2:Option Tm->LV | none=>.row [] | some t=>mg t.lo.num
def f3:Option Tm->LV | none=>.bool false | some t=>sg (t.lo.den:Int)
def f4:Option Tm->LV | none=>.row [] | some t=>mg (t.lo.den:Int)
def f5:Option Tm->LV | none=>.bool false | some t=>sg t.hi.num
def f6:Option Tm->LV | none=>.row [] | some t=>mg t.hi.num
def f7:Option Tm->LV | none=>.bool false | some t=>sg (t.hi.den:Int)
def f8:Option Tm->LV | none=>.row [] | some t=>mg (t.hi.den:Int)
abbrev fl (o:Option Tm):List LV:=[f0 o,f1 o,f2 o,f3 o,f4 o,f5 o,f6 o,f7 o,f8 o]
abbrev wl (w:Wt):List LV:=[.int .i64 w.c.kind,.int .i64 w.c.i0,.int .i64 w.c.i1,.int .i64 w.c.i2,.int .i64 w.c.i3,pl w.c.p,.int .i64 w.c.want,.bool w.known,.bool w.fails.isSome,f0 w.fails,f1 w.fails,f2 w.fails,f3 w.fails,f4 w.fails,f5 w.fails,f6 w.fails,f7 w.fails,f8 w.fails]
def Qau (l:List Wt):List (List LV):=l.map λw=>wl w
theorem Te {l:List Wt} {i:Nat} {w:Wt} (h:l[i]? = some w):(Qau l)[i]? = some (wl w):=G9 h
theorem Nk (l:List Wt):(Qau l).length=l.length:=by simp [Qau]
structure Cr where
 now:Tm
 l:List Wt
 ev:Int
abbrev Ce (c:Cr) (r0 r1:List (List LV)):List LV:=.bool true::pl c.now.p::sg c.now.lo.num::mg c.now.lo.num::sg (c.now.lo.den:Int)::mg (c.now.lo.den:Int)::sg c.now.hi.num::mg c.now.hi.num::sg (c.now.hi.den:Int)::mg (c.now.hi.den:Int)::.row (Qau c.l)::.int .i64 c.ev::[.row r0,.row r1]
structure WtOk (w:Wt):Prop where
 p:Cp w.c.p
 f:∀ t,w.fails=some t->Va t
structure CrOk (c:Cr):Prop where
 n:Va c.now
 l:∀ w∈c.l,WtOk w
 k:c.l.length<=1000
def Q8w (a b:Ct):Bool:=decide ([a.kind,a.i0,a.i1,a.i2,a.i3]=[b.kind,b.i0,b.i1,b.i2,b.i3])
def fresh (x:Ct):Wt:=⟨x,false,none⟩
def Do:List Wt->Ct->Tm->Option Wt
 | [],x,_=>some (fresh x)
 |
  w::l,x,at_=>if Q8w w.c x=true/\w.known=true/\w.c.p=x.p then
   match w.fails with
   | none=>some ⟨x,true,none⟩
   | some t=>(Qf7 t at_).bind λc=>if 0<c then some ⟨x,true,some t⟩ else Do l x at_
  else Do l x at_
def Qci (old:List Wt) (at_:Tm):List Ct->Option (List Wt)
 | []=>some []
 | x::l=>(Do old x at_).bind λw=>(Qci old at_ l).bind λr=>some (w::r)
end Orr
namespace Orr
open Go Go.Proofs Orq
set_option maxRecDepth 10000
theorem Qt6 {T:Nat} {c:Cr} {r0 r1:List (List LV)} (hc:Va c.now):G6 Tryz.prog 21 [.one (.ow 0 0)] [.blk T (Ce c r0 r1)] [.agg (ta c.now)] [.blk T (Ce c r0 r1)]:=by
 have cl:=Ee (b:=c.now) (l:=[]) hc.tb (λt ht=>by cases ht) (by decide) rfl;refine Gu Tryz.func21 rfl ?_;exact ed tt [] [0] [.f rfl,.c [] cl] rfl trivial
theorem Qp7 {T:Nat} {c:Cr} {r0 r1:List (List LV)} (hc:CrOk c):G6 Tryz.prog 22 [.one (.ow 0 0)] [.blk T (Ce c r0 r1)] [.one (.row (Gj (Gv (c.l.map (·.c)))))] [.blk T (Ce c r0 r1)]:=by
 have hk:=hc.k;have hw:=Nk c.l;refine Gu Tryz.func22 rfl ?_;refine go tt [.o 3 90 7] rfl trivial ?_;refine lp (S:=Nat) 2 (λL1 i=>(11,.v (.one (.int .i64 (i:Int))))::(3,.v (.one (.orow 1 7 none)))::L1) (λi=>[.blk T (Ce c r0 r1),.row false 90 7 (Gj ((c.l.map (·.c)).take i))]) (λi=>c.l.length-i) (λi=>i<=c.l.length) 0 (Qi _) rfl (λ_ _=>rfl) rfl λi hi=>?_
 by_cases hlt:i<c.l.length
 ·obtain ⟨x,hx⟩:=gxE (l:=c.l) (i:=i) hlt;have hm:∀ y∈[Qga x.c],y.length=7:=λy hy=>by rw [Qt.1 hy]; rfl
  have hg:(c.l.map (·.c)).take (i+1)=(c.l.map (·.c)).take i++[x.c]:=by
   rw [Xk,Q7,hx]; rfl
  have hl:decide ((i:Int)<((Qau c.l).length:Int))=true:=by simp [hw]; omega
  obtain ⟨xc,xk,xf⟩:=x;cases xf <;> (refine go tt [.t hl,.x (Te hx),.s (sz:=7) hm] rfl (by simp [W9,Dh]; omega) ?_; exact rd (i+1) (by omega) hlt (by rw [hg]; simp [Gj]; rfl))
 ·obtain rfl:i=c.l.length:=by omega
  have e:(c.l.map (·.c)).take c.l.length=c.l.map (·.c):=Qn (by simp);rw [e];have cs:=Quc (l:=c.l.map (·.c)) (λx hx=>by
   obtain ⟨w,hw,rfl⟩:=Zk.1 hx;exact Dp.pb (hc.l w hw).p.dp) (by simp; omega)
  exact ed tt [] [0] [.f (by simp [hw]),.c [] cs] rfl trivial
theorem Zgh {T:Nat} {c:Cr} {r0 r1:List (List LV)} {x:Ct} {at_:Tm} {w:Wt} (hc:CrOk c) (hx:Cp x.p) (ha:Va at_) (h:Do c.l x at_=some w):G6 Tryz.prog 223 [.one (.ow 0 0),.agg (Qga x),.agg (ta at_)] [.blk T (Ce c r0 r1)] [.agg (wl w)] [.blk T (Ce c r0 r1)]:=by
 have hk:=hc.k;have hw:=Nk c.l;refine Gu Tryz.func223 rfl ?_;refine go tt [] rfl trivial ?_;refine lp (S:=Nat) 4 (λL1 i=>(14,.v (.one (.int .i64 (i:Int))))::L1) (λ_=>[.blk T (Ce c r0 r1),.blk 90 (Qga x),.blk 74 (ta at_),.blk 167 [.int .i64 0,.int .i64 0,.int .i64 0,.int .i64 0,.int .i64 0,.nils,.int .i64 0,.bool false,.bool false,.nils,.bool false,.nils,.bool false,.nils,.bool false,.nils,.bool false,.nils]]) (λi=>c.l.length-i) (λi=>i<=c.l.length/\Do (c.l.drop i) x at_=some w) 0 ⟨Qi _,h⟩ rfl (λ_ _=>rfl) rfl λi ⟨hi,hf⟩=>?_
 by_cases hlt:i<c.l.length
 ·obtain ⟨v,hv⟩:=gxE (l:=c.l) (i:=i) hlt;have hdr:c.l.drop i=v::c.l.drop (i+1):=by
   rw [Zr hlt]; congr 1;have:=Qd hlt; rw [hv] at this; injection this with this; exact this.symm
  have hvo:=hc.l v (Qc hv);rw [hdr] at hf;simp only [Do] at hf;have hl:decide ((i:Int)<((Qau c.l).length:Int))=true:=by simp [hw]; omega
  by_cases A:Q8w v.c x=true
  ·have A':(!decide ([v.c.kind,v.c.i0,v.c.i1,v.c.i2,v.c.i3]=[x.kind,x.i0,x.i1,x.i2,x.i3]))=false:=by
    unfold Q8w at A; rw [A]; rfl
   by_cases B:v.known=true
   ·have B':(!v.known)=false:=by rw [B]; rfl
    have cs:=Za1 (p:=v.c.p) (q:=x.p) (Dp.pb hvo.p.dp).ln (Dp.pb hx.dp).ln (Dp.pb hvo.p.dp).bd (Dp.pb hx.dp).bd;rw [hvo.p.t,hx.t] at cs;by_cases C:v.c.p=x.p
    ·have C':(!decide (v.c.p=x.p))=false:=by simp [C]
     rw [if_pos ⟨A,B,C⟩] at hf;obtain ⟨vc,vk,vf⟩:=v;cases vf with
     |
      none =>
      injection hf with hf; subst hf;exact ed tt [] [0] [.t hl,.x (Te hv),.g 24 false A',.g 29 false B',.c [] cs,.f C',.g 41 true rfl,.t rfl] rfl trivial
     |
      some t =>
      obtain ⟨r,r1',hf⟩:=Qe.1 hf;have cc:=Qhl (hvo.f t rfl).tb ha.tb r1';by_cases D:0<r
      ·rw [if_pos D] at hf;injection hf with hf; subst hf;exact ed tt [] [0] [.t hl,.x (Te hv),.g 24 false A',.g 29 false B',.c [] cs,.f C',.g 41 false rfl,.c [] cc,.t (by simpa using D)] rfl trivial
      ·rw [if_neg D] at hf;refine go tt [.t hl,.x (Te hv),.g 24 false A',.g 29 false B',.c [] cs,.f C',.g 41 false rfl,.c [] cc,.f (by simpa using D)] rfl (by simp [W9]; omega) ?_;exact rd (i+1) (by omega) ⟨hlt,hf⟩ rfl
    ·rw [if_neg λh=>C h.2.2] at hf;refine go tt [.t hl,.x (Te hv),.g 24 false A',.g 29 false B',.c [] cs,.t (by simp [C])] rfl (by simp [W9]; omega) ?_;exact rd (i+1) (by omega) ⟨hlt,hf⟩ rfl
   ·rw [if_neg λh=>B h.2.1] at hf;refine go tt [.t hl,.x (Te hv),.g 24 false A',.g 29 true (by simpa using B),.t rfl] rfl (by simp [W9]; omega) ?_;exact rd (i+1) (by omega) ⟨hlt,hf⟩ rfl
  ·rw [if_neg λh=>A h.1] at hf;refine go tt [.t hl,.x (Te hv),.g 24 true (by rw [show decide ([v.c.kind,v.c.i0,v.c.i1,v.c.i2,v.c.i3]=[x.kind,x.i0,x.i1,x.i2,x.i3])=false from Bool.eq_false_iff.2 A]; rfl),.g 29 true rfl,.t rfl] rfl (by simp [W9]; omega) ?_;exact rd (i+1) (by omega) ⟨hlt,hf⟩ rfl
 ·obtain rfl:i=c.l.length:=by omega
  rw [Vq] at hf;simp only [Do] at hf;injection hf with hf; subst hf;exact ed tt [] [0] [.f (by simp [hw])] rfl trivial
theorem Qcj {old:List Wt} {at_:Tm}:∀ {l:List Ct} {ws:List Wt},Qci old at_ l=some ws->ws.length=l.length/\∀ (i:Nat) (x:Ct),l[i]? = some x->∃ w,Do old x at_=some w/\ws[i]? = some w
 | [],ws,h=>by injection h with h; subst h; exact ⟨rfl,λi x hx=>by simp at hx⟩
 |
  y::l,ws,h=>by
  simp only [Qci] at h;obtain ⟨w,hw,h⟩:=Qe.1 h;obtain ⟨r,hr,h⟩:=Qe.1 h;injection h with h; subst h;obtain ⟨a,b⟩:=Qcj hr;refine ⟨by simp [a],λi x hx=>?_⟩;cases i with
  | zero=>injection hx with hx; subst hx; exact ⟨w,hw,rfl⟩
  | succ i=>exact b i x (by simpa using hx)
theorem Qfb {l:List Wt} {i:Nat} {w:Wt} (h:l[i]? = some w):Qau (l.take (i+1))=Qau (l.take i)++[wl w]:=by
 rw [Xk,h]; simp [Qau]
theorem Zax {T:Nat} {c:Cr} {r0 r1:List (List LV)} {at_:Tm} {l:List Ct} {ws:List Wt} (hc:CrOk c) (ha:Va at_) (hl:∀ x∈l,Cp x.p) (hn:l.length≤1000) (h:Qci c.l at_ (Gv l)=some ws):G6 Tryz.prog 171 [.one (.ow 0 0),.agg (ta at_),.one (.bool true),.one (.row (Gj l))] [.blk T (Ce c r0 r1)] [] [.blk T (Ce ⟨at_,ws,c.ev⟩ r0 r1)]:=by
 have cs:=Quc (l:=l) (λx hx=>Dp.pb (hl x hx).dp) (by omega);have cl:=Ee (b:=at_) (l:=[]) ha.tb (λt ht=>by cases ht) (by decide) rfl;obtain ⟨h1,h2⟩:=Qcj h;have hs:(Gv l).length=l.length:=Da l;refine Gu Tryz.func171 rfl ?_;refine go tt [.o 8 167 18,.c [] cs] rfl trivial ?_;refine lp (S:=Nat) 3 (λL1 i=>(15,.v (.one (.int .i64 (i:Int))))::(8,.v (.one (.orow 2 18 none)))::L1) (λi=>[.blk T (Ce c r0 r1),.blk 74 (ta at_),.row false 167 18 (Qau (ws.take i))]) (λi=>ws.length-i) (λi=>i<=ws.length) 0 (Qi _) rfl (λ_ _=>rfl) rfl λi hi=>?_
 by_cases hlt:i<ws.length
 ·obtain ⟨x,hx⟩:=gxE (l:=(Gv l)) (i:=i) (by omega);obtain ⟨w,hw,hw'⟩:=h2 i x hx;have hm:∀ y∈[wl w],y.length=18:=λy hy=>by rw [Qt.1 hy]; rfl
  have hlt':decide ((i:Int)<((Gj (Gv l)).length:Int))=true:=by simp [Gj]; omega
  have ck:=Zgh (T:=T) (r0:=r0) (r1:=r1) hc (hl x (Qe4 (Qc hx))) ha hw;have hg:=Qfb hw';obtain ⟨wc,wk,wf⟩:=w;cases wf <;> (refine go tt [.t hlt',.x (Qa9 hx),.t rfl,.c [0] ck,.s (sz:=18) hm] rfl (by simp [W9,Nk]; omega) ?_; exact rd (i+1) (by omega) hlt (by rw [hg]; rfl))
 ·obtain rfl:i=ws.length:=by omega
  rw [Q8];have hge:decide ((ws.length:Int)<((Gj (Gv l)).length:Int))=false:=by simp [Gj]; omega
  exact ed tt [] [0] [.f hge,.p 2,.c [] cl] rfl trivial
abbrev crz (r0 r1:LV):List LV:=[.bool false,.nils,.bool false,.nils,.bool false,.nils,.bool false,.nils,.bool false,.nils,.nils,.int .i64 0,r0,r1]
theorem Zaw {T:Nat} {r0 r1:List (List LV)} {at_:Tm} {l:List Ct} (ha:Va at_) (hl:∀ x∈l,Cp x.p) (hn:l.length≤1000):G6 Tryz.prog 171 [.one (.ow 0 0),.agg (ta at_),.one (.bool false),.one (.row (Gj l))] [.blk T (crz (.row r0) (.row r1))] [] [.blk T (Ce ⟨at_,(Gv l).map fresh,0⟩ r0 r1)]:=by
 have cs:=Quc (l:=l) (λx hx=>Dp.pb (hl x hx).dp) (by omega);have cl:=Ee (b:=at_) (l:=[]) ha.tb (λt ht=>by cases ht) (by decide) rfl;have hs:(Gv l).length=l.length:=Da l;refine Gu Tryz.func171 rfl ?_;refine go tt [.o 8 167 18,.c [] cs] rfl trivial ?_;refine lp (S:=Nat) 3 (λL1 i=>(15,.v (.one (.int .i64 (i:Int))))::(8,.v (.one (.orow 2 18 none)))::L1) (λi=>[.blk T (crz (.row r0) (.row r1)),.blk 74 (ta at_),.row false 167 18 (Qau (((Gv l).map fresh).take i))]) (λi=>l.length-i) (λi=>i<=l.length) 0 (Qi _) rfl (λ_ _=>rfl) rfl λi hi=>?_
 by_cases hlt:i<l.length
 ·obtain ⟨x,hx⟩:=gxE (l:=(Gv l)) (i:=i) (by omega);have hm:∀ y∈[wl (fresh x)],y.length=18:=λy hy=>by rw [Qt.1 hy]; rfl
  have hlt':decide ((i:Int)<((Gj (Gv l)).length:Int))=true:=by simp [Gj]; omega
  have hg:=Qfb (l:=(Gv l).map fresh) (i:=i) (w:=fresh x) (by rw [Q7,hx]; rfl);refine go tt [.t hlt',.x (Qa9 hx),.z 20,.f rfl,.s (sz:=18) hm] rfl (by simp [W9,Nk]; omega) ?_;exact rd (i+1) (by omega) hlt (by rw [hg]; rfl)
 ·obtain rfl:i=l.length:=by omega
  rw [Qn (by simp; omega)];have hge:decide ((l.length:Int)<((Gj (Gv l)).length:Int))=false:=by simp [Gj]; omega
  exact ed tt [] [0] [.f hge,.p 2,.c [] cl] rfl trivial
theorem Q0w {T:Nat} {r0 r1:List (List LV)} {at_:Tm} {l:List Ct} (ha:Va at_) (hl:∀ x∈l,Cp x.p) (hn:l.length≤1000):G6 Tryz.prog 130 [.one (.ow 0 0),.agg (ta at_),.one (.row (Gj l))] [.blk T (crz (.row r0) (.row r1))] [] [.blk T (Ce ⟨at_,(Gv l).map fresh,0⟩ r0 r1)]:=by
 have cl:=Zaw (T:=T) (r0:=r0) (r1:=r1) ha hl hn;refine Gu Tryz.func130 rfl ?_;exact ed tt [] [0] [.g 12 false rfl,.c [0] cl] rfl trivial
theorem eB {a b:Bool} (h:a=b):TV.one (LV.bool a)=.one (.bool b):=h ▸ rfl
theorem Qgv:∀ {k:Nat} {g:List Int} {l:List (List Int)},Pb g->Qel k g=some l->l.length≤k/\∀ p∈l,Pb p
 | 0,_,_,_,h=>by cases h
 |
  k+1,g,l,hg,h=>by
  simp only [Qel] at h
  split at h
  ·injection h with h; subst h; exact ⟨by simp,λp hp=>by cases hp⟩
  ·obtain ⟨d,hd,h⟩:=Qe.1 h;obtain ⟨rfl,hdp⟩:=Qi9 hd;obtain ⟨x,hx,h⟩:=Qe.1 h;obtain ⟨q,hq,h⟩:=Qe.1 h;obtain ⟨r,hr,h⟩:=Qe.1 h;injection h with h; subst h;obtain ⟨i1,i2⟩:=Qgv (Qev hg hdp hx) hr;refine ⟨by simp; exact i1,λp hp=>?_⟩;rcases Qo.1 hp with rfl | hp
   ·exact Qvq hq
   ·exact i2 p hp
theorem Q4j {a:List Int} {l:List (List Int)} (ha:Pb a) (h:Qel 66 (Ug a)=some l):Ua Tryz.prog 332 [pr a] [.one (.row (Sr l))]:=by
 have hp:=Hp ha;refine Gu Tryz.func332 rfl ?_;refine go tt [.o 3 48 1,.c [] (La ha)] rfl trivial ?_;refine lp (S:=Nat×List (List Int)×List Int) 1 (λL1 s=>(4,.v (pr s.2.2))::(3,.v (.one (.orow 0 1 none)))::L1) (λs=>[.row false 48 1 (Sr s.2.1)]) (λs=>s.1) (λs=>Pb s.2.2/\s.2.1.length+s.1<=66/\∃ m,Qel s.1 s.2.2=some m/\s.2.1++m=l) (66,[],Ug a) ⟨hp,Qk _,l,h,rfl⟩ rfl (λ_ _=>rfl) rfl λ⟨k,out,g⟩ ⟨j1,j2,m,j3,j4⟩=>?_
 dsimp only at j1 j2 j3 j4 ⊢;cases k with
 | zero=>cases j3
 |
  succ k =>
  simp only [Qel] at j3
  split at j3
  ·rename_i h0;injection j3 with j3; subst j3;rw [Xh] at j4;subst j4;exact en tt [.c [] (Mj _),.f (by simp; omega)] rfl rfl trivial
  ·rename_i h0;obtain ⟨d,hd,j3⟩:=Qe.1 j3;obtain ⟨rfl,hdp⟩:=Qi9 hd;obtain ⟨x,hx,j3⟩:=Qe.1 j3;obtain ⟨q,hq,j3⟩:=Qe.1 j3;obtain ⟨r,hr,j3⟩:=Qe.1 j3;injection j3 with j3; subst j3;have hxp:=Qev j1 hdp hx;refine go tt [.c [] (Mj _),.t (by simp; omega),.c [] (Ef j1.ln j1.bd),.c [] (Qxx j1 hdp hx),.c [] (Q4s j1 hxp hq),.s (sz:=1) (l:=[[pl q]]) (λc hc=>by rw [Qt.1 hc]; rfl)] rfl (by simp [W9,C6]; omega) ?_;exact rd (k,out++[q],x) (by dsimp only; omega) ⟨hxp,by simp; omega,r,hr,by rw [<-j4]; simp⟩ (by rw [Qjc]; rfl)
theorem Qii:∀ {l r:List (List Int)},Qj8 l=some r->r.length=l.length/\∀ i w,l[i]? = some w->(match l[i+1]? with | some v=>∃ f,Oi w v=some f/\r[i]? = some f | none=>r[i]? = some w)
 | [],r,h=>by injection h with h; subst h; exact ⟨rfl,λi w hw=>by simp at hw⟩
 |
  [w],r,h=>by
  injection h with h; subst h;refine ⟨rfl,λi x hx=>?_⟩;cases i with
  | zero=>simpa using hx
  | succ i=>simp at hx
 |
  w::v::l,r,h=>by
  simp only [Qj8] at h;obtain ⟨f,hf,h⟩:=Qe.1 h;obtain ⟨s,hs,h⟩:=Qe.1 h;injection h with h; subst h;obtain ⟨i1,i2⟩:=Qii hs;refine ⟨by simp [i1],λi x hx=>?_⟩;cases i with
  |
   zero =>
   injection hx with hx; subst hx;exact ⟨f,hf,rfl⟩
  |
   succ i =>
   have:=i2 i x (by simpa using hx);simpa using this
theorem Qnq:∀ {l r:List (List Int)},(∀ p∈l,Pb p)->Qj8 l=some r->∀ p∈r,Pb p
 | [],r,_,h=>by injection h with h; subst h; exact λp hp=>by cases hp
 | [w],r,hl,h=>by injection h with h; subst h; exact hl
 |
  w::v::l,r,hl,h=>by
  simp only [Qj8] at h;obtain ⟨f,hf,h⟩:=Qe.1 h;obtain ⟨s,hs,h⟩:=Qe.1 h;injection h with h; subst h;intro p hp;rcases Qo.1 hp with rfl | hp
  ·exact Qvq hf
  ·exact Qnq (λp hp=>hl p (Qj _ hp)) hs p hp
theorem Q0u {a:List Int} {l r:List (List Int)} (ha:Pb a) (h:Qel 66 (Ug a)=some l) (hr:Qj8 l=some r):Ua Tryz.prog 302 [pr a] [.one (.row (Sr r))]:=by
 obtain ⟨i1,i2⟩:=Qgv (Hp ha) h;obtain ⟨j1,j2⟩:=Qii hr;have hw:=C6 l;refine Gu Tryz.func302 rfl ?_;refine go tt [.c [] (Q4j ha h),.i (Sr l).length,.i (Sr l).length] rfl (by simp [W9,hw]; omega) ?_;rw [hw,Dl λi=>[pl (r.getD i [])]];refine lp (S:=Nat) 1 (λL1 k=>(14,.v (.one (.int .i64 (k:Int))))::L1) (λk=>[.row false 48 1 (fil (λi=>[pl (r.getD i [])]) [.nils] l.length k)]) (λk=>l.length-k) (λk=>k<=l.length) 0 (Qi _) rfl (λ_ _=>rfl) rfl λk hk=>?_
 by_cases hlt:k<l.length
 ·obtain ⟨w,hx⟩:=gxE (l:=l) (i:=k) hlt;have e:=Ao (λi=>[pl (r.getD i [])]) [.nils] hlt;have hg:=j2 k w hx;by_cases h2:k+1<l.length
  ·obtain ⟨v,hv⟩:=gxE (l:=l) (i:=k+1) h2;rw [hv] at hg;obtain ⟨f,f1,f2⟩:=hg;have e2:r.getD k []=f:=by rw [Qg,f2]; rfl
   rw [e2] at e;refine go tt [.t (by simp [hw]; omega),.x (Rj hx),.i k,.t (by simp [hw]; omega),.x (i:=k+1) (Rj hv),.c [] (Q4s (i2 w (Qc hx)) (i2 v (Qc hv)) f1),.i k] rfl (by simp [W9,Ll,hw]; omega) ?_;rw [List.set_set,e];exact rd (k+1) (by omega) hlt rfl
  ·have hv:l[k+1]? = none:=Qp (by omega);rw [hv] at hg;have e2:r.getD k []=w:=by rw [Qg,hg]; rfl
   rw [e2] at e;refine go tt [.t (by simp [hw]; omega),.x (Rj hx),.i k,.f (by simp [hw]; omega)] rfl (by simp [W9,Ll,hw]; omega) ?_;rw [e];exact rd (k+1) (by omega) hlt rfl
 ·obtain rfl:k=l.length:=by omega
  have e:fil (λi=>[pl (r.getD i [])]) [.nils] l.length l.length=Sr r:=by
   rw [An,<-j1];refine Xt λi=>?_
   simp only [Sr,Q7];by_cases hi:i<r.length
   ·rw [X2 hi]; simp [Qg,Qd hi]
   ·rw [Qp (by simpa using hi),Qp (by simpa using hi)]; rfl
  rw [e];exact en tt [.f (by simp [hw])] rfl rfl trivial
theorem Qvx {p:List Int} (tp:Ue p):Ug (Ug p)=Ug p:=by
 by_cases h:p.length=0
 ·have e:Ug p=[]:=by unfold Ug; rw [if_pos h]
  rw [e]; rfl
 ·obtain ⟨h1,h2,h3,h4,_⟩:=Ta tp h;have hc:Re (Ug p)=1:=by
   have h5:Re (Ug p)∣1:=h3 _ λk=>by
    by_cases hk:k<(Ug p).length
    ·rw [Qg,Qd hk]; exact C5 _ (Xw hk)
    ·rw [Qg,Qp (by omega)]; exact Int.dvd_zero _
   have h6:0<=Re (Ug p):=by unfold Re; omega
   exact Int.eq_one_of_dvd_one h6 h5
  have hf:∀ q:List Int,0<Un q->Fu q=Re q:=λq hq=>by unfold Fu; rw [if_neg (by omega)]
  have hf:=(hf _ h4).trans hc;have e0:∀ q:List Int,q.length≠0->Ug q=Ns q (Fu q):=λq hq=>by unfold Ug; rw [if_neg hq]
  have e:=e0 (Ug p) (by omega);rw [hf] at e;rw [e];unfold Ns;have e2:(Ug p).map (· / (1:Int))=Ug p:=by
   conv=>rhs; rw [<-List.map_id (Ug p)]
   exact Yx λz _=>by simp
  rw [e2];exact h1
theorem Q0g (i:Nat):(i:Int).tmod 2=((i % 2:Nat):Int):=rfl
theorem Zgm {a:List Int} (ha:Pb a) (h:(Ug a).length=0):Ua Tryz.prog 262 [pr a] [pr []] :=
 w tt Tryz.func262 rfl [.c [] (La ha),.t (by simp [Qh h])] rfl rfl trivial
theorem Qaf:∀ {l:List (List Int)} {i:Nat} {p o:List Int},Pb p->(∀ f∈l,Pb f)->Qcu i p l=some o->Pb o
 | [],i,p,o,hp,_,h=>by simp only [Qcu] at h; injection h with h; subst h; exact hp
 |
  f::l,i,p,o,hp,hl,h=>by
  simp only [Qcu] at h
  split at h
  ·obtain ⟨q,hq,h⟩:=Qe.1 h;obtain ⟨rfl,hq'⟩:=Ae (Gi _ _) hq;exact Qaf hq' (λf hf=>hl f (Qj _ hf)) h
  ·exact Qaf hp (λf hf=>hl f (Qj _ hf)) h
theorem Q7m:Pb [1]:=⟨rfl,by decide,λz hz=>by rw [Qt.1 hz]; decide⟩
theorem Zjl {a o:List Int} (ha:Pb a) (h:Qvu a=some o):Ua Tryz.prog 262 [pr a] [pr o]:=by
 unfold Qvu at h
 split at h
 ·rename_i h0;injection h with h; subst h;exact Zgm ha h0
 rename_i h0;obtain ⟨l,hl,h⟩:=Qe.1 h;obtain ⟨fs,hf,h⟩:=Qe.1 h;have hpa:=Hp ha;have hl':Qel 66 (Ug (Ug a))=some l:=by rw [Qvx ha.t]; exact hl
 obtain ⟨i1,i2⟩:=Qgv (Hp ha) hl;have i3:=Qnq i2 hf;obtain ⟨j1,_⟩:=Qii hf;have hw:=C6 fs;have co:=Q31 (p:=[1]) (by decide) (λz hz=>by rw [Qt.1 hz]; decide);rw [show trim [1]=[1] from rfl] at co;refine Gu Tryz.func262 rfl ?_;refine go tt [.c [] (La ha),.f (by simpa using h0),.c [] co,.c [] (Q0u hpa hl' hf)] rfl (by simp [W9]) ?_;refine lp (S:=Nat×List Int) 0 (λL1 s=>(16,.v (.one (.int .i64 (s.1:Int))))::(3,.v (pr s.2))::L1) (λ_=>[]) (λs=>fs.length-s.1) (λs=>s.1<=fs.length/\Pb s.2/\Qcu s.1 s.2 (fs.drop s.1)=some o) (0,[1]) ⟨Qi _,Q7m,h⟩ rfl (λ_ _=>rfl) rfl λ⟨i,p⟩ ⟨k1,k2,k3⟩=>?_
 dsimp only at k1 k2 k3 ⊢;by_cases hlt:i<fs.length
 ·obtain ⟨f,hx⟩:=gxE (l:=fs) (i:=i) hlt;have hdr:fs.drop i=f::fs.drop (i+1):=by
   rw [Zr hlt]; congr 1;have:=Qd hlt; rw [hx] at this; injection this with this; exact this.symm
  rw [hdr] at k3;simp only [Qcu] at k3;have pf:=i3 f (Qc hx);by_cases h2:i % 2=0
  ·rw [if_pos h2] at k3;obtain ⟨q,hq,k3⟩:=Qe.1 k3;obtain ⟨rfl,hq'⟩:=Ae (Gi _ _) hq;refine go tt [.t (by simp [hw]; omega),.x (Rj hx),.t (by rw [Q0g,h2]; rfl),.c [] (Qt9 k2.t pf.t (Zy k2.l (by decide)) (Zy pf.l (by decide)) k2.b pf.b (by decide))] rfl (by simp [W9]; omega) ?_;exact rd (i+1,Ff p f) (by dsimp only; omega) ⟨hlt,hq',k3⟩ rfl
  ·rw [if_neg h2] at k3;refine go tt [.t (by simp [hw]; omega),.x (Rj hx),.f (by rw [Q0g,show i % 2=1 by omega]; rfl)] rfl (by simp [W9]; omega) ?_;exact rd (i+1,p) (by dsimp only; omega) ⟨hlt,k2,k3⟩ rfl
 ·obtain rfl:i=fs.length:=by omega
  rw [Vq] at k3;simp only [Qcu] at k3;injection k3 with k3; subst k3;exact en tt [.f (by simp [hw])] rfl rfl trivial
theorem Ar (z:Int):Uj (z.natAbs:Int)=Uj z:=by unfold Uj; simp
theorem Q4c {x y:LV} {z:Int} (hi:Hr x y z) (hs:Uj z<=4294967295):Ua Tryz.prog 328 [.agg [x,y]] [.agg (Gh (z.natAbs:Int))]:=by
 obtain ⟨b,l,rfl,rfl,hl,rfl⟩:=hi;have e:(Ui false (val l))=((Ui b (val l)).natAbs:Int):=by rw [Hl]; rfl
 rw [<-e];exact w tt Tryz.func328 rfl [.c [] (Qa4 hl (Qa (T0 hs) (by decide))),.c [] (Si _ _)] rfl rfl trivial
theorem Zbk {n d:Int} (h0:d≠0) (hn:Uj n<=4294967295) (hd:Uj d<=4294967295):Ua Tryz.prog 329 [.agg (Gh n),.agg (Gh d)] [.agg (rl (Rat.divInt n d)),.one (.int .i64 0)] :=
 w tt Tryz.func329 rfl [.c [] (Ck (Ub d) hd),.c [] Ls,.f (by simpa using h0),.c [] (Ck (Ub n) hn),.c [] (Is h0 hn hd)] rfl rfl trivial
theorem Q10 (l:List Int) (z:Int):most (l++[z])=if most l<z.natAbs then z.natAbs else most l:=by unfold most; rw [List.foldl_append]; rfl
theorem Qzd {s:Nat}:∀ {l:List Int},Bd s l->Uj (most l:Int)<=s:=λ{l}=>by
 suffices h:∀ (l:List Int) (m:Nat),Bd s l->Uj (m:Int)<=s->Uj ((l.foldl (λm z=>if m<z.natAbs then z.natAbs else m) m:Nat):Int)<=s from λhb=>h l 0 hb (by simp [Uj,sz])
 intro l
 induction l with
 | nil=>exact λm _ h=>h
 |
  cons z l ih =>
  intro m hb hm;refine ih _ (λy hy=>hb y (Qj _ hy)) ?_;show Uj ((if m<z.natAbs then z.natAbs else m:Nat):Int)<=s
  split
  ·rw [Ar]; exact hb z (Qr ..)
  ·exact hm
def ozi:Option Nat->List LV
 | none=>[.bool false,.nils]
 | some m=>Gh (m:Int)
def ozr:Option Nat->List LV
 | none=>[.bool false,.row []]
 | some m=>Gh (m:Int)
theorem Zas {p:List Int} (hp:Pb p) (h0:p.length≠0):Ua Tryz.prog 299 [pr p] [.agg (rl (Fv p)),.one (.int .i64 0)]:=by
 have hl:=hp.l;have hll:(p.take (p.length-1)).length=p.length-1:=by simp
 have hbt:Bd 16777216 (p.take (p.length-1)):=λz hz=>hp.b z (Qq hz)
 refine Gu Tryz.func299 rfl ?_;refine go tt [.c [] (Hm hp.t hp.ln hp.bd),.f (by simpa using h0),.r 18 (eI (b:=((p.length-1:Nat):Int)) (by simp; omega)),.i (p.length-1)] rfl (by simp [W9]; omega) ?_;rw [<-Ys];refine lp (S:=Nat×Option Nat) 2 (λL1 s=>(21,.v (.one (.int .i64 (s.1:Int))))::L1) (λs=>[.blk 72 [.bool false,.nils,.bool false,.nils],.blk 51 (ozi s.2)]) (λs=>p.length-1-s.1) (λs=>s.1<=p.length-1/\most ((p.take (p.length-1)).take s.1)=s.2.getD 0) (0,none) ⟨Qi _,rfl⟩ rfl (λ_ _=>rfl) rfl λ⟨i,o⟩ ⟨j1,j2⟩=>?_
 dsimp only at j1 j2 ⊢;by_cases hlt:i<p.length-1
 ·obtain ⟨z,hz⟩:=gxE (l:=(p.take (p.length-1))) (i:=i) (by omega);have bz:Uj z<=16777216:=hbt z (Qc hz);have hst:most ((p.take (p.length-1)).take (i+1))=if o.getD 0<z.natAbs then z.natAbs else o.getD 0:=by
   rw [Xk,hz]; show most (_++[z])=_; rw [Q10,j2]
  have ca:=Q4c (Ub z) (Qa bz (by decide));have hl1:decide ((i:Int)<(((p.take (p.length-1)).map Gh).length:Int))=true:=by simp; omega
  have bm:Uj ((o.getD 0:Nat):Int)<=16777216:=by rw [<-j2]; exact Qzd λy hy=>hbt y (Qq hy)
  have hcm:Mr (z.natAbs:Int) ((o.getD 0:Nat):Int)>0↔o.getD 0<z.natAbs:=by unfold Mr; split <;> (try split) <;> omega
  have cc:Ua Tryz.prog 214 [.agg (Gh (z.natAbs:Int)),.agg (ozr o)] [.one (.int .i64 (Mr (z.natAbs:Int) ((o.getD 0:Nat):Int)))]:=by
   cases o with
   | none=>exact Qht (Ub _) Ny (by rw [Ar]; omega) (by decide)
   | some m=>exact Qht (Ub _) (Ub _) (by rw [Ar]; omega) (Qa bm (by decide))
  by_cases hc:o.getD 0<z.natAbs
  ·rw [if_pos hc] at hst;have hd:decide (Mr (z.natAbs:Int) ((o.getD 0:Nat):Int)>0)=true:=by simpa using hcm.2 hc
   cases o <;> (refine go tt [.t hl1,.x (G9 (f:=Gh) hz),.c [] ca,.c [] cc,.t hd] rfl (by simp [W9]; omega) ?_; exact rd (i+1,some z.natAbs) (by dsimp only; omega) ⟨hlt,hst⟩ rfl)
  ·rw [if_neg hc] at hst;have hd:decide (Mr (z.natAbs:Int) ((o.getD 0:Nat):Int)>0)=false:=by
    have:=mt hcm.1 hc; simpa using this
   cases o with
   | none=>refine go tt [.t hl1,.x (G9 (f:=Gh) hz),.c [] ca,.c [] cc,.f hd] rfl (by simp [W9]; omega) ?_; exact rd (i+1,none) (by dsimp only; omega) ⟨hlt,hst⟩ rfl
   | some m=>refine go tt [.t hl1,.x (G9 (f:=Gh) hz),.c [] ca,.c [] cc,.f hd] rfl (by simp [W9]; omega) ?_; exact rd (i+1,some m) (by dsimp only; omega) ⟨hlt,hst⟩ rfl
 ·obtain rfl:i=p.length-1:=by omega
  rw [Qn (by omega)] at j2;have bl:Uj (Un p)<=16777216:=hp.b _ (Qi1 h0);have ln:((Un p).natAbs:Int)≠0:=by have:=Bn hp.t h0; omega
  have cl:=Bj hp.t hp.ln hp.bd;have ca:=Q4c (Ub (Un p)) (Qa bl (by decide));have bm:Uj ((o.getD 0:Nat):Int)<=16777216:=by rw [<-j2]; exact Qzd hbt
  have cd:Ua Tryz.prog 286 [.agg (Gh ((Un p).natAbs:Int)),.agg (ozr o)] [.agg (Gh (((Un p).natAbs:Int)+(most (p.take (p.length-1)):Int)))]:=by
   rw [j2];cases o with
   | none=>exact Qa5 (Ub _) Ny (by rw [Ar]; omega) (by decide)
   | some m=>exact Qa5 (Ub _) (Ub _) (by rw [Ar]; omega) (Qa bm (by decide))
  have cm:=Zbk (n:=((Un p).natAbs:Int)+(most (p.take (p.length-1)):Int)) ln (Qa (As _ _) (by rw [Ar,j2]; omega)) (by rw [Ar]; omega);have hf:decide (((p.length-1:Nat):Int)<(((p.take (p.length-1)).map Gh).length:Int))=false:=by simp
  cases o <;> exact en tt [.f hf,.c [] cl,.c [] ca,.c [] cd,.c [] cm] rfl rfl trivial
theorem Ze1 {z:Int}:Ua Tryz.prog 344 [.agg (Gh z)] [.one (.int .i64 (Int.sign z))]:=by
 by_cases h0:z=0
 ·subst h0;exact w tt Tryz.func344 rfl [.t (by simp [Uc,Fy])] rfl rfl trivial
 ·have hl:(U3 z.natAbs).length≠0:=λh=>h0 (Q1w.1 h)
  have hl':decide (((lm (U3 z.natAbs)).length:Int)=0)=false:=by simpa [Uc] using hl
  by_cases h1:z<0
  ·rw [X3 h1];exact w tt Tryz.func344 rfl [.f hl',.t (by simpa using h1)] rfl rfl trivial
  ·rw [Jd (by omega)];exact w tt Tryz.func344 rfl [.f hl',.f (by simpa using h1)] rfl rfl trivial
theorem Q3m {p:List Int} (hp:Pb p):Ua Tryz.prog 342 [pr p] [.one (.int .i64 (Ii p)),.one (.int .i64 (Qca p))]:=by
 have hb:-1<=(Un p).sign/\(Un p).sign<=1:=by rcases D3 (Un p) with h | h | h <;> omega
 by_cases h:p.length % 2=0
 ·have e:Ii p=-(Un p).sign:=by unfold Ii; rw [if_pos h]
  rw [e];exact w tt Tryz.func342 rfl [.c [] (Hm hp.t hp.ln hp.bd),.c [] (Bj hp.t hp.ln hp.bd),.c [] Ze1,.t (by rw [Q0g]; simp [h])] rfl rfl (by simp [W9,Un] at hb ⊢; omega)
 ·have e:Ii p=(Un p).sign:=by unfold Ii; rw [if_neg h]
  rw [e];exact w tt Tryz.func342 rfl [.c [] (Hm hp.t hp.ln hp.bd),.c [] (Bj hp.t hp.ln hp.bd),.c [] Ze1,.f (by rw [Q0g]; simp; omega)] rfl rfl (by simp [W9])
theorem Q4l {p:List Int} (hp:Pb p):Ua Tryz.prog 341 [pr p] [.one (.int .i64 (Ii p))]:=w tt Tryz.func341 rfl [.c [] (Q3m hp)] rfl rfl trivial
theorem Zbg {p:List Int} (hp:Pb p):Ua Tryz.prog 343 [pr p] [.one (.int .i64 (Qca p))]:=w tt Tryz.func343 rfl [.c [] (Q3m hp)] rfl rfl trivial
theorem Zgw {q:Rat} (hq:Qs 4294967295 q):Ua Tryz.prog 183 [.agg (rl q)] [.agg (rl (-q))]:=by
 exact w tt Tryz.func183 rfl [.c [] (Qh0 hq),.c [] (Qho (Ub _) hq.1)] rfl rfl trivial
theorem Qqk {l:List (List Int)} {fid:Nat} {sg:List Int->Int} (hl:l.length≤1000) (hs:∀ p,-1≤sg p/\sg p≤1) (h:∀ p∈l,Ua Tryz.prog fid [pr p] [.one (.int .i64 (sg p))]):Ua Tryz.prog 334 [.one (.sh [.row (Sr l)]),.one (.fn fid [] [])] [.one (.int .i64 (P6 sg l:Nat))]:=by
 have hpl:=C6 l;refine Gu Tryz.func334 rfl ?_;refine go tt [] rfl trivial ?_;refine lp (S:=Nat) 0 (λL1 i=>(15,.v (.one (.int .i64 (i:Int))))::(5,.v (.one (.int .i64 ((Dc sg l i).1:Int))))::(6,.v (.one (.int .i64 (Dc sg l i).2)))::L1) (λ_=>[]) (λi=>l.length-i) (λi=>i<=l.length) 0 (Qi _) rfl (λ_ _=>rfl) rfl λi hi=>?_
 by_cases hlt:i<l.length
 ·obtain ⟨p,hp⟩:=gxE (l:=l) (i:=i) hlt;have hst:Dc sg l (i+1)=Hx sg (Dc sg l i) p:=P9 _ _ _ hp;obtain ⟨b1,b2,b3⟩:=Qjx hs l i;have b4:=hs p;by_cases h0:sg p=0
  ·refine go tt [.t (by simp [hpl]; omega),.x (Rj hp),.c [] (h p (Qc hp)),.t (by simpa using h0)] rfl (by simp [W9]; omega) ?_;exact rd (i+1) (by omega) hlt (by rw [hst,show Hx sg (Dc sg l i) p=Dc sg l i from by unfold Hx; rw [if_pos h0]]; rfl)
  ·by_cases h1:(Dc sg l i).2=-(sg p)
   ·refine go tt [.t (by simp [hpl]; omega),.x (Rj hp),.c [] (h p (Qc hp)),.f (by simpa using h0),.t (by simpa using h1)] rfl (by simp [W9]; omega) ?_;exact rd (i+1) (by omega) hlt (by rw [hst,show Hx sg (Dc sg l i) p=((Dc sg l i).1+1,sg p) from by unfold Hx; rw [if_neg h0,if_pos h1]]; rfl)
   ·refine go tt [.t (by simp [hpl]; omega),.x (Rj hp),.c [] (h p (Qc hp)),.f (by simpa using h0),.f (by simpa using h1)] rfl (by simp [W9]; omega) ?_;exact rd (i+1) (by omega) hlt (by rw [hst,show Hx sg (Dc sg l i) p=((Dc sg l i).1,sg p) from by unfold Hx; rw [if_neg h0,if_neg h1]]; rfl)
 ·obtain rfl:i=l.length:=by omega
  refine en tt [.f (by simp [hpl])] rfl ?_ trivial;unfold Dc P6; rw [List.take_length]
theorem Qd5 (p:List Int):(-1<=Ii p/\Ii p<=1)/\-1<=Qca p/\Qca p<=1:=by
 have hb:-1<=(Un p).sign/\(Un p).sign<=1:=by rcases D3 (Un p) with h | h | h <;> omega
 unfold Ii Qca
 split <;> omega
theorem Zat {l:List (List Int)} (hl:l.length≤1000) (hp:∀ p∈l,Pb p):Ua Tryz.prog 301 [.one (.sh [.row (Sr l)])] [.one (.int .i64 (Oo l))]:=by
 have c1:Ua Tryz.prog 330 [.one (.sh [.row (Sr l)])] [.one (.int .i64 (P6 Ii l:Nat))] :=
  w tt Tryz.func330 rfl [.c [] (Qqk hl (λp=>(Qd5 p).1) λp h=>Q4l (hp p h))] rfl rfl trivial
 have c2:Ua Tryz.prog 331 [.one (.sh [.row (Sr l)])] [.one (.int .i64 (P6 Qca l:Nat))] :=
  w tt Tryz.func331 rfl [.c [] (Qqk hl (λp=>(Qd5 p).2) λp h=>Zbg (hp p h))] rfl rfl trivial
 have b1:P6 Ii l<=l.length:=P7 (λp=>(Qd5 p).1) l;have b2:P6 Qca l<=l.length:=P7 (λp=>(Qd5 p).2) l;exact w tt Tryz.func301 rfl [.c [] c1,.c [] c2] rfl rfl (by simp [W9]; omega)
theorem Qty {l:List (List Int)} {lo hi:Rat} (hl:l.length<=1000):-1000<=G7 l lo hi/\G7 l lo hi<=1000:=by
 have b1:Su l lo<=l.length:=P7 (λp=>Na p lo) l;have b2:Su l hi<=l.length:=P7 (λp=>Na p hi) l;unfold G7; split <;> omega
abbrev tal (l:List Tm):List (List LV):=l.map λt=>ta t
theorem Qg3 {p:List Int} {c:List (List Int)} (hp:Pb p):∀ {k:Nat} {lo hi:Rat} {n:Int} {r:List Tm},Qb lo->Qb hi->Dz p c k lo hi n=some r->∀ t∈r,Tb t
 | 0,_,_,_,_,_,_,h=>by cases h
 |
  k+1,lo,hi,n,r,hl,hh,h=>by
  simp only [Dz] at h
  split at h
  ·injection h with h; subst h; exact λt ht=>by cases ht
  ·split at h
   ·injection h with h; subst h;intro t ht; rw [Qt.1 ht]; exact ⟨hp,hl,hh⟩
   ·obtain ⟨m,hm,h⟩:=Qe.1 h;obtain ⟨rfl,qm⟩:=Qh1 hm;obtain ⟨x,hx,h⟩:=Qe.1 h;obtain ⟨y,hy,h⟩:=Qe.1 h;injection h with h; subst h;intro t ht;rcases Qz.1 ht with ht | ht
    ·exact Qg3 hp hl qm hx t ht
    ·exact Qg3 hp qm hh hy t ht
theorem Ziq (l:List Tm):∀ c∈tal l,c.length=9:=λc hc=>by obtain ⟨t,_,rfl⟩:=Zk.1 hc; rfl
theorem Qun {p:List Int} {c:List (List Int)} (hp:Pb p) (hcl:c.length≤1000) (hc:∀ q∈c,Pb q):∀ {k:Nat} {lo hi:Rat} {n:Int} {r:List Tm},Qb lo->Qb hi->k≤100000->-(1000*(100001-k:Nat))≤n/\n≤1000*(100001-k:Nat)->Dz p c k lo hi n=some r->r.length≤1000000->G6 Tryz.prog 300 [pr p,.one (.sh [.row (Sr c)]),.agg (rl lo),.agg (rl hi),.one (.int .i64 n)] [] [.one (.orow 0 9 none)] [.row false 74 9 (tal r)]
 | 0,_,_,_,_,_,_,_,_,h,_=>by cases h
 |
  k+1,lo,hi,n,r,hl,hh,hk,hn,h,hr=>by
  simp only [Dz] at h
  split at h
  ·rename_i h0;injection h with h; subst h;refine Gu Tryz.func300 rfl ?_;exact ed tt [] [2] [.t (by simpa using h0),.o 10 74 9] rfl trivial
  ·rename_i h0
   split at h
   ·rename_i h1;injection h with h; subst h;refine Gu Tryz.func300 rfl ?_;exact ed tt [] [2] [.f (by simpa using h0),.t (by simpa using h1),.c [] (Hm hp.t hp.ln hp.bd),.c [] (Ad hl.s32),.c [] (Ad hh.s32),.lo] rfl trivial
   ·rename_i h1;obtain ⟨m,hm,h⟩:=Qe.1 h;obtain ⟨rfl,qm⟩:=Qh1 hm;obtain ⟨x,hx,h⟩:=Qe.1 h;obtain ⟨y,hy,h⟩:=Qe.1 h;injection h with h; subst h;have hb:=Qty (l:=c) (lo:=lo) (hi:=Ib lo hi) hcl;rw [Zc] at hr;have c1:=Qun hp hcl hc hl qm (by omega) (by omega) hx (by omega);have c2:=Qun hp hcl hc qm hh (by omega) (by omega) hy (by omega);rw [show tal (x++y)=tal x++tal y from Jz];refine Gu Tryz.func300 rfl ?_;exact ed tt [] [3] [.f (by simpa using h0),.f (by simpa using h1),.c [] (Zez hl hh),.c [] (Qkk hcl hc hl qm),.c [3] c1,.c [4] c2,.s (Ziq y)] rfl (by simp [W9]; omega)
theorem Za4 {p:List Int} {r:List Tm} (hp:Pb p) (h:Qjk p=some r) (hr:r.length<=1000000):Ua Tryz.prog 261 [pr p] [.one (tas r),.one (.int .i64 0)]:=by
 unfold Qjk at h;obtain ⟨c,h1,h⟩:=Qe.1 h;obtain ⟨q,h2,h⟩:=Qe.1 h;obtain ⟨b,h3,h⟩:=Qe.1 h;obtain ⟨rfl,hb⟩:=Qh1 h3;obtain ⟨k1,k2⟩:=chain_ok hp h1;have hq:=Qeu hp h2;have q0:q.length≠0:=by
  unfold chain at h1;obtain ⟨a,a1,h1⟩:=Qe.1 h1;rw [h2] at a1; injection a1 with a1; subst a1
  split at h1
  ·cases h1
  ·assumption
 have qn:Qb (-Fv q):=⟨by rw [Rat.neg_num,Ga]; exact hb.1,by rw [Rat.neg_den]; exact hb.2⟩;have bb1:P6 Ii c<=c.length:=P7 (λp=>(Qd5 p).1) c;have bb2:P6 Qca c<=c.length:=P7 (λp=>(Qd5 p).2) c;have hn:-(1000*(100001-100000:Nat):Int)<=Oo c/\Oo c<=1000*(100001-100000:Nat):=by unfold Oo; omega
 have cr:=Qun hq (by omega) k2 qn hb (Qk _) hn h hr;refine Gu Tryz.func261 rfl ?_;exact ed tt [1] [] [.c [] (Q36 hp h1),.f rfl,.c [] (Qhr hp h2),.c [] (Zas hq q0),.c [] (Zgw hb.s32),.c [] (Zat (by omega) k2),.c [1] cr] rfl trivial
def Uy (l:List Pt):List (List LV):=l.map Gp
theorem B9 {l:List Pt} {i:Nat} {c:Pt} (h:l[i]? = some c):(Uy l)[i]? = some (Gp c):=G9 h
theorem Bb (l:List Pt):(Uy l).length=l.length:=by simp [Uy]
theorem Qz6 (l:List Pt):∀ c∈Uy l,c.length=5:=λc hc=>by
 obtain ⟨x,_,rfl⟩:=Zk.1 hc; rfl
theorem Za5:Ua Tryz.prog 275 [pr []] [.one .nilp,.one (.int .i64 2)]:=by
 have h:Ss []=some []:=rfl;exact w tt Tryz.func275 rfl [.c [] (Qhr Qet h),.t rfl] rfl rfl trivial
theorem Q35:Ua Tryz.prog 261 [pr []] [.one (.row []),.one (.int .i64 2)] :=
 w tt Tryz.func261 rfl [.c [] Za5,.t rfl] rfl rfl trivial
theorem Zhy {a o:List Int} (ha:Pb a) (h:Qvu a=some o):Pb o:=by
 unfold Qvu at h
 split at h
 ·injection h with h; subst h; exact Qet
 ·obtain ⟨l,hl,h⟩:=Qe.1 h;obtain ⟨fs,hf,h⟩:=Qe.1 h;exact Qaf Q7m (Qnq (Qgv (Hp ha) hl).2 hf) h
theorem Q3p {p:List Int} {l:List Tm} (hp:Pb p) (h:Ea p=some l) (hl:l.length<=1000000):Ua Tryz.prog 210 [pr p] [.one (tas l)]:=by
 unfold Ea at h;obtain ⟨q,hq,h⟩:=Qe.1 h;have qp:=Zhy hp hq;have co:=Zjl hp hq
 split at h
 ·rename_i h0;injection h with h; subst h;obtain rfl:=Qh h0;exact w tt Tryz.func210 rfl [.c [] co,.c [] Q35,.t rfl] rfl rfl trivial
 ·exact w tt Tryz.func210 rfl [.c [] co,.c [] (Za4 qp h hl),.f rfl] rfl rfl trivial
def ota:Option Tm->List LV
 | none=>zTr
 | some t=>ta t
theorem Zav {p:List Int} {a:Tm} {l:List Tm} {r:Option Tm} (hp:Pb p) (ha:Tb a) (h:Ea p=some l) (hl:l.length≤1000000) (ht:∀ t∈l,Tb t) (hr:Qay a l=some r):Ua Tryz.prog 154 [pr p,.agg (ta a)] [.agg (ota r),.one (.bool r.isSome)]:=by
 have hll:(l.map λt=>ta t).length=l.length:=by simp
 refine Gu Tryz.func154 rfl ?_;refine go tt [.c [] (Q3p hp h hl)] rfl trivial ?_;refine lp (S:=Nat) 2 (λL1 i=>(11,.v (.one (.int .i64 (i:Int))))::L1) (λ_=>[.blk 74 (ta a),.blk 74 zTm]) (λi=>l.length-i) (λi=>i<=l.length/\Qay a (l.drop i)=some r) 0 ⟨Qi _,hr⟩ rfl (λ_ _=>rfl) rfl λi ⟨hi,hf⟩=>?_
 by_cases hlt:i<l.length
 ·obtain ⟨t,hx⟩:=gxE (l:=l) (i:=i) hlt;have hdr:l.drop i=t::l.drop (i+1):=by
   rw [Zr hlt]; congr 1;have:=Qd hlt; rw [hx] at this; injection this with this; exact this.symm
  rw [hdr] at hf;simp only [Qay] at hf;obtain ⟨c,c1,hf⟩:=Qe.1 hf;have cc:=Qhl (ht t (Qc hx)) ha c1;by_cases hc:0<c
  ·rw [if_pos hc] at hf;injection hf with hf; subst hf;exact en tt [.t (by simp; omega),.x (Qhc hx),.c [] cc,.t (by simpa using hc)] rfl rfl trivial
  ·rw [if_neg hc] at hf;refine go tt [.t (by simp; omega),.x (Qhc hx),.c [] cc,.f (by simpa using hc)] rfl (by simp [W9]; omega) ?_;exact rd (i+1) (by omega) ⟨hlt,hf⟩ rfl
 ·obtain rfl:i=l.length:=by omega
  rw [Vq] at hf;simp only [Qay] at hf;injection hf with hf; subst hf;exact en tt [.f (by simp)] rfl rfl trivial
end Orr
