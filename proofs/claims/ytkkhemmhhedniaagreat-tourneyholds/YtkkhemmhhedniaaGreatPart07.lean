/- T19 T20 T21 T22 T23 T24 T25 G1 G2 SortL KinL K1 K2 F6 F7 F8 F9 G3 G4 K3 K4 S1 S2 S3 -/
import Derived.Test.YtkkhemmhhedniaaGreatPart06
import Derived.Test.YtkkhemmhhedniaaGreatPart00
import Derived.Test.YtkkhemmhhedniaaGreatPart05
set_option linter.all false
namespace Orq
open Orr Go
structure Pr1 (p:List Int):Prop where
 t:Uf p
 m:Prm p
 l:0<Un p
theorem Pr1.n {p:List Int} (h:Pr1 p):p.length≠0:=λe=>by
 have:=h.l;rw [Qh e] at this;exact absurd this (by decide)
theorem Q1a {p:List Int} (tp:Uf p) (h:p.length≠0):Pr1 (Uh p):=by
 obtain ⟨h1,h2,h3,h4,_⟩:=Ru tp h;exact ⟨h1,h3,h4⟩
theorem Pr1.one {p:List Int} (h:Pr1 p) (hl:p.length<2):p=[1]:=by
 have hn:=h.n;obtain ⟨c,rfl⟩:∃ c,p=[c]:=Yp.1 (by omega);have h1:=h.m c λk=>by cases k <;> simp
 have h2:0<c:=h.l;have:=Int.le_of_dvd (by decide) h1;rw [show c=1 by omega]
theorem Zco {p g h:List Int} (hp:Prm p) (e:∀ t,Ug p t=Ug g t*Ug h t):Prm h:=λd hd=>by
 refine hp d λk=>?_
 have:=M3 (p:=p) (q:=Fv g h) (λt=>by rw [e,Fc]) k;rw [this];have e2:∀ t,Ug (Fv g h) t=(d:Rat)*Ug (Fv g (h.map (· / d))) t:=λt=>by
  have h1:Ug h t=(d:Rat)*Ug (h.map (· / d)) t:=by
   have:=M4 d 0 t (max h.length (h.map (· / d)).length) (h.map (· / d)) [] h (by omega) (by simp) (by omega) λk=>by
    rw [Qcb,Ks (hd k)]; simp
   rw [this]; simp only [Ug]; push_cast; grind
  rw [Fc,Fc,h1]; grind
 have:=M3 (p:=Fv g h) (q:=Uu (Fv g (h.map (· / d))) d) (λt=>by rw [e2,Gz]; grind) k;rw [this,H8]; exact Kh _ _
theorem Zcn {p g h:List Int} (hp:Pr1 p) (hg:0<Un g) (tg:Uf g) (th:Uf h) (e:∀ t,Ug p t=Ug g t*Ug h t):Pr1 h:=by
 obtain ⟨p1,p2⟩:=Hd hp.t hp.n e;have:=Qq7 tg th hp.t e p1 p2;refine ⟨th,Zco hp.m e,?_⟩;have hl:=hp.l;rw [this] at hl;rcases Jz (Un h) 0 with h1 | h1 | h1
 ·have:=V2 hg h1; omega
 ·rw [h1] at hl; omega
 ·exact h1
structure Sqp (p g q:List Int):Prop where
 pp:Pr1 p
 pg:Pr1 g
 pq:Pr1 q
 e:∀ t,Ug p t=Ug g t*Ug q t
 c:∃ U V,∀ t,Ug g t=ev U t*Ug p t+ev V t*dv (cz p) t
 d:∃ z,∀ t,dv (cz p) t=Ug g t*ev z t
theorem Sqp.num {p g q:List Int} (h:Sqp p g q) {d:List Rat} (h1:A6 d (cz q)) (h2:A6 d (Md (cz q))):∃ c:Rat,c≠0/\∀ t,ev d t=c:=by
 obtain ⟨U,V,hc⟩:=h.c;have hpow:=sqf (k:=1) (a:=cz p) (g:=cz g) (q:=cz q) (d:=d) (U:=U) (V:=V) (by decide) (λt=>by rw [Ue,Ue,Ue,h.e]) (λt=>by rw [Ue,Ue,hc]; grind) h1 h2;rcases Qfl d with h3 | ⟨m,_,h3⟩
 ·obtain ⟨u,hu⟩:=h1;exact absurd (λt=>by rw [<-Ue,hu,h3]; grind) (Qff h.pq.t (by have:=h.pq.n; omega))
 ·obtain rfl:=Qlz h3 (Qaw h.pg.t (by have:=h.pg.n; omega)) hpow;refine ⟨d.getD 0 0,h3.1,λt=>?_⟩;cases d with
  | nil=>exact absurd (by simp) h3.1
  |
   cons c l =>
   have:=Bp (p:=l) λk=>by have:=h3.2 (k+1) (by omega); rwa [Q3] at this
   simp only [ev,this,Zp]; grind
theorem Sqp.bez {p g q:List Int} (h:Sqp p g q):∃ X Y,∀ t,ev X t*ev (cz q) t+ev Y t*dv (cz q) t=1:=by
 obtain ⟨d,U,V,h1,h2,h3⟩:=Q5p (cz q) (Md (cz q));obtain ⟨c,hc,hd⟩:=h.num h1 h2;refine ⟨Pq (1 / c) U,Pq (1 / c) V,λt=>?_⟩;have h5:=h3 t;rw [hd,Hp] at h5;have h4:1 / c*c=1:=Zi hc;rw [Uw,Uw];have:1 / c*ev U t*ev (cz q) t+1 / c*ev V t*dv (cz q) t=1 / c*(ev U t*ev (cz q) t+ev V t*dv (cz q) t):=by grind
 rw [this,<-h5,h4]
theorem Zhz {n s s':Nat} (h:Szz n s) (hs:s'<=s):Szz n s':=⟨h.1,Qa (Qw _ (by omega)) h.2⟩
theorem Q8s {n s:Nat} (h:Szz n s):s<=8388600:=by
 have:2*(s+8)*1<=2*(s+8)*3^(n-1):=Zh _ (Zu (by decide));have:=h.2; omega
theorem Qmq {s:Nat} {p:List Int} (h:Bd s p) (hl:p.length<=10):Bd (s+4) (U3 p):=Qgf h (t:=4) (by omega)
theorem Qzg {n s:Nat} (hz:Szz n (s+73)) {p:List Int} (pp:Pr1 p) (l2:2<=p.length) (lp:p.length<=n) (bp:Bd (s+69) p) {p0 h0:List Int} (b0:Bd s p0) (l0:p0.length<=10) (t0:Uf p0) (th0:Uf h0) (z0:p0.length≠0) (e0:∀ t,Ug p0 t=Ug h0 t*Ug p t) :
 ∃ g q,chk (U3 p)=some (U3 p)/\Oj p (U3 p)=some g/\Og p g=some q/\Sqp p g q/\g.length<p.length:=by
 have hn:=hz.1;have hs:=Q8s hz;have bd:=Qmq bp (by omega);have ld:=Te p;have td:Uf (U3 p):=Ut _ _;obtain ⟨g,e1,hg,m,l⟩:=Qbs hz pp.t td lp (by omega) (W9 bp (by omega)) bd (.inl pp.n);obtain ⟨q,tq,eq⟩:=Q5k m hg.da;have hdnz:(U3 p).length≠0:=λh=>by
  have h1:=Ty p (p.length-2);rw [Qh h,show p.length-2+1=p.length-1 by omega] at h1;have h2:p.getD (p.length-1) 0≠0:=Gi pp.t (by omega);rcases Ya.1 (h1.symm.trans (by simp)) with h3 | h3
  ·exact h2 h3
  ·omega
 have pg:Pr1 g:=⟨hg.t,m,l⟩;have hql:=Q7k (s:=s+69) pp.t hg.t tq pp.n (by omega) bp (by omega) eq;refine ⟨g,q,Da (by omega) (W9 bd (by omega)),e1,hql,⟨pp,pg,Zcn pp l hg.t tq eq,eq,?_,?_⟩,?_⟩
 ·obtain ⟨U,V,hc⟩:=hg.c;exact ⟨U,V,λt=>by rw [hc,Dn]⟩
 ·obtain ⟨z,hz⟩:=hg.db;exact ⟨z,λt=>by rw [<-Dn,<-Ue,hz,Ue]⟩
 ·obtain ⟨z,tz,ez⟩:=Q5k m hg.db;obtain ⟨q1,q2⟩:=Hd td hdnz ez;have:=Sk hg.t tz td ez q1 q2;omega
theorem Zcg:Sqp [1] [1] [1]:=by
 have p1:Pr1 [1]:=⟨rfl,λd hd=>by have:=hd 0; rwa [Zp] at this,by decide⟩;have e1:∀ t,Ug [1] t=1:=λt=>by simp only [Ug]; push_cast; grind
 exact ⟨p1,p1,p1,λt=>by rw [e1]; grind,⟨[1],[],λt=>by rw [e1,Hu]; simp only [ev]; grind⟩,⟨[],λt=>by simp only [cz,Zv,Jg,dv,ev]; grind⟩⟩
structure Okp (n s:Nat) (p:List Int):Prop where
 z:Szz n (s+73)
 t:Uf p
 nz:p.length≠0
 l:p.length<=n
 b:Bd s p
theorem Okp.pr {n s:Nat} {p:List Int} (h:Okp n s p):Pr1 (Uh p)/\(Uh p).length=p.length/\Bd s (Uh p):=by
 obtain ⟨h1,h2,h3,h4,h5,_⟩:=Ru h.t h.nz;exact ⟨⟨h1,h3,h4⟩,h2,h5 s h.b⟩
theorem Qao {n s:Nat} {p:List Int} (h:Okp n s p):∃ g q,Sl p=some q/\Sqp (Uh p) g q:=by
 obtain ⟨pp,hl,hb⟩:=h.pr;have hn:=h.z.1;have:=h.l;unfold Sl;by_cases h2:(Uh p).length<2
 ·rw [if_pos h2,pp.one h2]; exact ⟨[1],[1],rfl,Zcg⟩
 ·rw [if_neg h2];obtain ⟨g,q,h3,h4,h5,h6,_⟩:=Qzg h.z pp (by omega) (by omega) (W9 hb (by omega)) (p0:=Uh p) (h0:=[1]) hb (by omega) pp.t rfl pp.n λt=>by simp only [Ug]; push_cast; grind
  exact ⟨g,q,by rw [h3]; show (Oj (Uh p) (U3 (Uh p))).bind _=_; rw [h4]; exact h5,h6⟩
inductive LW:List Int->List (List Int)->Prop
 | nil:LW [1] []
 | cons {g h w:List Int} {ws:List (List Int)} (hs:Sqp g h w) (hl:LW h ws):LW g (w::ws)
theorem Zg1 {g:List Int} {ws:List (List Int)} (h:LW g ws):∀ t,Ug g t=ev (El (ws.map cz)) t:=by
 induction h with
 | nil=>intro t; simp only [Jg,El,Ug]; rw [Hu]; push_cast; grind
 | cons hs hl ih=>intro t; simp only [Zv,El]; rw [Ui,Ue,hs.e,ih]; grind
theorem Qyi {g:List Int} {w v:List Int} {ws:List (List Int)} (h:LW g (w::v::ws)):∃ f,Uf f/\∀ t,Ug w t=Ug f t*Ug v t:=by
 cases h with
 |
  @cons _ h _ _ hs hl =>
  cases hl with
  |
   @cons _ h2 _ _ hs2 hl2 =>
   obtain ⟨X,Y,hb⟩:=hs2.bez;obtain ⟨z,hz⟩:=hs.d;have hd:=Zdk (a:=cz g) (g:=cz h) (q:=cz w) (z:=z) (r:=cz v) (X:=X) (Y:=Y) (n:=h.length-1) (λt=>by rw [Ue,Ue,Ue,hs.e]) (λt=>by rw [hz,Ue]) (Qaw hs.pg.t (by have:=hs.pg.n; omega)) hb
    ⟨Fl (cz h2) (cz w),λt=>by rw [Ui,Ue,Ue,Ue,Ue,hs.e,hs2.e]; grind⟩
   obtain ⟨f,tf,ef⟩:=Q5k hs2.pq.m hd;exact ⟨f,tf,λt=>by rw [ef]; grind⟩
theorem Qrb {g w:List Int} {ws:List (List Int)} (h:LW g (w::ws)):∀ v∈w::ws,Pr1 v/\A6 (cz v) (cz w):=by
 have key:∀ (ws:List (List Int)) (g w:List Int),LW g (w::ws)->∀ v∈w::ws,Pr1 v/\A6 (cz v) (cz w):=by
  intro ws
  induction ws with
  |
   nil =>
   intro g w h v hv;rw [Qp.1 hv];cases h with
   | cons hs hl=>exact ⟨hs.pq,dvd_refl _⟩
  |
   cons u ws ih =>
   intro g w h v hv;have hn:=Qyi h;cases h with
   |
    @cons _ h _ _ hs hl =>
    rcases Qx.1 hv with rfl | hv
    ·exact ⟨hs.pq,dvd_refl _⟩
    ·obtain ⟨i1,i2⟩:=ih h u hl v hv;obtain ⟨f,_,hf⟩:=hn;exact ⟨i1,dvd_trans i2 ⟨cz f,λt=>by rw [Ue,Ue,Ue,hf]; grind⟩⟩
 exact key ws g w h
theorem lay_ok {n s:Nat} (hz:Szz n (s+73)) {p0:List Int} (b0:Bd s p0) (l0:p0.length<=10) (t0:Uf p0) (z0:p0.length≠0):∀ (k:Nat) (g h0:List Int),Pr1 g->g.length<=k->g.length<=n->Uf h0->(∀ t,Ug p0 t=Ug h0 t*Ug g t)->∃ ws,Qej k g=some ws/\LW g ws
 | 0,g,_,pg,hk,_,_,_=>absurd pg.n (by omega)
 |
  k+1,g,h0,pg,hk,hn,th0,e0=>by
  simp only [Qej];by_cases h2:g.length<2
  ·rw [if_pos h2,pg.one h2]; exact ⟨[],rfl,.nil⟩
  ·rw [if_neg h2];have bg:Bd (s+69) g:=Ah b0 l0 t0 pg.t th0 z0 λt=>by rw [e0]; grind
   obtain ⟨h,w,h3,h4,h5,h6,h7⟩:=Qzg hz pg (by omega) hn bg b0 l0 t0 th0 z0 e0;obtain ⟨ws,i1,i2⟩:=lay_ok hz b0 l0 t0 z0 k h (Fv h0 w) h6.pg (by omega) (by omega) (Gd _ _) λt=>by rw [e0,Fc,h6.e]; grind
   refine ⟨w::ws,?_,.cons h6 i2⟩;rw [h3];show (Oj g (U3 g)).bind _=_;rw [h4];show (Og g h).bind _=_;rw [h5];show (Qej k h).bind _=_;rw [i1]; rfl
theorem Q5c {s:Nat} {p0:List Int} (b0:Bd s p0) (l0:p0.length≤10) (t0:Uf p0) (z0:p0.length≠0) (hs:s+69+69≤16777216):∀ (ws:List (List Int)) (g h0:List Int),LW g ws->Uf h0->(∀ t,Ug p0 t=Ug h0 t*Ug g t)->∃ fs,Qj4 ws=some fs/\Lay (ws.map cz) (fs.map cz)/\∀ f∈fs,Uf f
 | [],g,_,_,_,_=>⟨[],rfl,trivial,λf hf=>by cases hf⟩
 |
  [w],g,_,hl,_,_=>by
  cases hl with
  | cons hs hl=>exact ⟨[w],rfl,λt=>rfl,λf hf=>by rw [Qp.1 hf]; exact hs.pq.t⟩
 |
  w::v::ws,g,h0,hl,th0,e0=>by
  obtain ⟨f,tf,ef⟩:=Qyi hl;cases hl with
  |
   @cons _ h _ _ hs1 hl =>
   have hpv:=(Qrb hl v (Qt ..)).1;obtain ⟨fs,i1,i2,i3⟩:=Q5c b0 l0 t0 z0 hs (v::ws) h (Fv h0 w) hl (Gd _ _) λt=>by rw [e0,Fc,hs1.e]; grind
   have ew:∀ t,Ug p0 t=Ug w t*Ug (Fv h0 h) t:=λt=>by rw [e0,Fc,hs1.e]; grind
   have bw:Bd (s+69) w:=Ah b0 l0 t0 hs1.pq.t (Gd _ _) z0 ew;obtain ⟨p1,p2⟩:=Hd t0 z0 ew;have lw:=Sk hs1.pq.t (Gd _ _) t0 ew p1 p2;have hq:=Q7k (s:=s+69) hs1.pq.t hpv.t tf hs1.pq.n (by omega) bw hs λt=>by rw [ef]; grind
   refine ⟨f::fs,?_,⟨λt=>by rw [Ue,Ue,Ue,ef],i2⟩,λx hx=>?_⟩
   ·show (Og w v).bind _=_;rw [hq];show (Qj4 (v::ws)).bind _=_;rw [i1]; rfl
   ·rcases Qx.1 hx with rfl | hx
    ·exact tf
    ·exact i3 x hx
def Pz:List (List Int)->List Int
 | []=>[1]
 | [f]=>f
 | f::_::l=>Fv f (Pz l)
theorem Qrq:∀ (fs:List (List Int)) (t:Rat),ev (Qf8 (fs.map cz)) t=Ug (Pz fs) t
 | [],t=>by simp only [Jg,Qf8,Pz,Ug]; rw [Hu]; push_cast; grind
 | [f],t=>by simp only [Zv,Jg,Qf8,Pz]; rw [Ue]
 | f::g::l,t=>by simp only [Zv,Qf8,Pz]; rw [Ui,Ue,Fc,Qrq l]
theorem P8 (t:Rat):Ug [1] t=1:=by simp only [Ug]; push_cast; grind
theorem Qk3:∀ {w:List Int} {ws fs:List (List Int)},Lay ((w::ws).map cz) (fs.map cz)->(∀ f∈fs,Uf f)->(∀ v∈w::ws,Uf v)->∃ E,Uf E/\∀ t,Ug w t=Ug (Pz fs) t*Ug E t
 |
  w,[],[f],h,_,_=>⟨[1],rfl,λt=>by
  have:=h t;rw [Ue,Ue] at this;rw [this,P8]; simp only [Pz]; grind⟩
 |
  w,[v],[f,f2],h,_,hw=>⟨v,hw v (by simp),λt=>by
  have:=h.1 t;rw [Ue,Ue,Ue] at this;rw [this]; simp only [Pz]; rw [Fc,P8]; grind⟩
 |
  w,v::x::l,f::f2::fs,h,hf,hw=>by
  obtain ⟨E,hE,e⟩:=Qk3 (w:=x) (ws:=l) (fs:=fs) h.2.2 (λg hg=>hf g (by simp [hg])) (λg hg=>hw g (by simp at hg ⊢; exact .inr (.inr hg)));refine ⟨Fv f2 E,Gd _ _,λt=>?_⟩;have a1:=h.1 t;have a2:=h.2.1 t;rw [Ue,Ue,Ue] at a1 a2;have e2:Ug (Pz (f::f2::fs)) t=Ug f t*Ug (Pz fs) t:=by simp only [Pz]; rw [Fc]
  rw [a1,a2,e,e2,Fc]; grind
 | w,[],[],h,_,_=>h.elim
 | w,[],_::_::_,h,_,_=>h.elim
 | w,[v],[],h,_,_=>h.elim
 | w,[v],[f],h,_,_=>h.2.elim
 | w,[v],_::_::_::_,h,_,_=>h.2.elim
 | w,v::x::l,[f],h,_,_=>h.2.elim
 | w,v::x::l,[],h,_,_=>h.elim
theorem Qae {s:Nat} {p0:List Int} (b0:Bd s p0) (l0:p0.length≤10) (t0:Uf p0) (z0:p0.length≠0) (hs:s+69≤16777216):∀ (fs:List (List Int)) (i:Nat) (a E:List Int),i % 2=0->Uf a->Uf E->(∀ f∈fs,Uf f)->(∀ t,Ug p0 t=Ug a t*Ug (Pz fs) t*Ug E t)->∃ o,Qcp i a fs=some o/\Uf o/\∀ t,Ug o t=Ug a t*Ug (Pz fs) t
 | [],i,a,E,hi,ta,_,_,_=>⟨a,rfl,ta,λt=>by simp only [Pz]; rw [P8]; grind⟩
 |
  [f],i,a,E,hi,ta,tE,tf,hE=>by
  have e1:∀ t,Ug p0 t=Ug (Fv a f) t*Ug E t:=λt=>by rw [hE,Fc]; rfl
  have b1:=Ah b0 l0 t0 (Gd a f) tE z0 e1;obtain ⟨p1,p2⟩:=Hd t0 z0 e1;have hl:=Sk (Gd a f) tE t0 e1 p1 p2;refine ⟨Fv a f,?_,Gd _ _,λt=>by rw [Fc]; rfl⟩;simp only [Qcp];rw [if_pos hi,Da (by omega) (W9 b1 (by omega))]; rfl
 |
  f::g::fs,i,a,E,hi,ta,tE,tf,hE=>by
  have e0:∀ t,Ug (Pz (f::g::fs)) t=Ug f t*Ug (Pz fs) t:=λt=>by simp only [Pz]; rw [Fc]
  have e1:∀ t,Ug p0 t=Ug (Fv a f) t*Ug (Fv (Pz fs) E) t:=λt=>by rw [hE,e0,Fc,Fc]; grind
  have b1:=Ah b0 l0 t0 (Gd a f) (Gd _ _) z0 e1;obtain ⟨p1,p2⟩:=Hd t0 z0 e1;have hl:=Sk (Gd a f) (Gd _ _) t0 e1 p1 p2;obtain ⟨o,o1,o2,o3⟩:=Qae b0 l0 t0 z0 hs fs (i+2) (Fv a f) E (by omega) (Gd _ _) tE (λx hx=>tf x (by simp [hx])) λt=>by rw [hE,e0,Fc]; grind
  refine ⟨o,?_,o2,λt=>by rw [o3,e0,Fc]; grind⟩;have h1:Qcp (i+1) (Fv a f) (g::fs)=Qcp (i+2) (Fv a f) fs:=by
   show (if (i+1) % 2=0 then _ else _)=_;rw [if_neg (by omega)]
  show (if i % 2=0 then (chk (Fv a f)).bind λq=>Qcp (i+1) q (g::fs) else _)=_;rw [if_pos hi,Da (by omega) (W9 b1 (by omega))];exact h1.trans o1
structure Parts (p q o:List Int):Prop where
 sq:∃ g,Sqp (Uh p) g q
 ws:∃ ws:List (List Int),(∀ w∈ws,Pr1 w/\A6 (cz w) (cz q))/\∀ t,Ug (Uh p) t=ev (El (ws.map cz)) t
 oq:A6 (cz o) (cz q)
 ot:Uf o
 oh:∃ h,Uf h/\∀ t,Ug (Uh p) t=Ug o t*Ug h t
 os:∃ S,∀ t,Ug (Uh p) t=Ug o t*(ev S t*ev S t)
theorem Quw {n s:Nat} {p:List Int} (h:Okp n s p):∃ q o,Sl p=some q/\Qu4 p=some o/\Parts p q o:=by
 obtain ⟨pp,hl,hb⟩:=h.pr;have hn:=h.z.1;have hpl:=h.l;have hs:=Q8s h.z;obtain ⟨g,q,hq,sq⟩:=Qao h;obtain ⟨ws,w1,w2⟩:=lay_ok h.z hb (by omega) pp.t pp.n 66 (Uh p) [1] pp (by omega) (by omega) rfl λt=>by rw [P8]; grind
 obtain ⟨fs,f1,f2,f3⟩:=Q5c hb (by omega) pp.t pp.n (by omega) ws (Uh p) [1] w2 rfl λt=>by rw [P8]; grind
 have hw:=Zg1 w2;have hfirst:(∀ w∈ws,Pr1 w/\A6 (cz w) (cz q))/\∃ E,Uf E/\∀ t,Ug q t=Ug (Pz fs) t*Ug E t:=by
  cases ws with
  |
   nil =>
   have e:fs=[]:=by
    cases fs with
    | nil=>rfl
    | cons f l=>exact f2.elim
   subst e;exact ⟨(λw hw=>by cases hw),q,sq.pq.t,λt=>by simp only [Pz]; rw [P8]; grind⟩
  |
   cons w ws =>
   have hwq:w=q:=by
    have w3:(if (Uh p).length<2 then some [] else (chk (U3 (Uh p))).bind λd=>(Oj (Uh p) d).bind λh=>(Og (Uh p) h).bind λw=>(Qej 65 h).bind λl=>some (w::l))=some (w::ws):=w1;have hlen:¬(Uh p).length<2:=λh2=>by
     rw [if_pos h2] at w3;injection w3 with w3;cases w3
    rw [if_neg hlen] at w3;unfold Sl at hq;rw [if_neg hlen] at hq;obtain ⟨d,d1,w3⟩:=Qe.1 w3;obtain ⟨h,d2,w3⟩:=Qe.1 w3;obtain ⟨w',d3,w3⟩:=Qe.1 w3;obtain ⟨l,d4,w3⟩:=Qe.1 w3;rw [d1] at hq;have hq:(Oj (Uh p) d).bind (λg=>Og (Uh p) g)=some q:=hq;rw [d2] at hq;have hq:Og (Uh p) h=some q:=hq;rw [d3] at hq;injection hq with hq;injection w3 with w3;injection w3 with w3 _;rw [<-w3,hq]
   subst hwq;have hall:=Qrb w2;exact ⟨hall,Qk3 f2 f3 λv hv=>(hall v hv).1.t⟩
 obtain ⟨ha,E,tE,hE⟩:=hfirst;obtain ⟨o,o1,o2,o3⟩:=Qae hb (by omega) pp.t pp.n (by omega) fs 0 [1] (Fv E g) rfl rfl (Gd _ _) f3 λt=>by rw [P8,Fc,sq.e,hE]; grind
 have o3:∀ t,Ug o t=Ug (Pz fs) t:=λt=>by rw [o3,P8]; grind
 refine ⟨q,o,hq,?_,⟨g,sq⟩,⟨ws,ha,hw⟩,⟨cz E,λt=>by rw [Ue,Ue,Ue,hE,o3]⟩,o2,⟨Fv E g,Gd _ _,λt=>by rw [sq.e,hE,o3,Fc]; grind⟩,?_⟩
 ·unfold Qu4;rw [if_neg pp.n,w1];show (Qj4 ws).bind _=_;rw [f1]; exact o1
 ·obtain ⟨S,hS⟩:=Qyb f2;exact ⟨S,λt=>by rw [hw,hS,Qrq,o3]⟩
theorem Qxd {s:Nat}:∀ (k:Nat) (a b:List Int),Uf a->Uf b->b.length≠0->b.length<k->b.length<a.length->a.length<=60->Bd s a->Bd s b->(s+8)*3^(a.length-1)<=16777216->(∀ d,A6 d (cz a)->A6 d (cz b)->∃ c:Rat,c≠0/\∀ t,ev d t=c)->∃ l,chF k a b=some (b::l)/\SCl (cz a) (cz b) (l.map cz)
 | 0,_,_,_,_,_,h,_,_,_,_,_,_=>by omega
 |
  k+1,a,b,ta,tb,hb,hk,hab,hl,ba,bb,hs,hd=>by
  obtain ⟨h1,h2,h3,u,v,up,vp,X,hX⟩:=Qc1 ta tb hb hl;have h3:=h3 s ba bb;obtain ⟨m,hm⟩:=nmE (a.length-b.length);have e1:a.length+1-b.length=m+1:=by omega
  rw [e1] at h3;have e2:s+(m+1)*(s+8)+8=(m+2)*(s+8):=by
   rw [show m+2=(m+1)+1 by omega,Xc (m+1)]; omega
  have e3:(m+2)*(s+8)*3^(b.length-1)<=(s+8)*3^(a.length-1):=by
   rw [show a.length-1=m+(b.length-1) by omega,Xe,<-Xo,Zf (s+8)];exact Qw _ (Qw _ (Zcm m (by omega)))
  have e4:s+(m+1)*(s+8)<=16777216:=by
   have:(m+2)*(s+8)<=(m+2)*(s+8)*3^(b.length-1):=Jm _ (Zu (by decide));omega
  simp only [chF];rw [if_neg hb,Da (by omega) (W9 h3 e4)];show ∃ l,((chF k b (S5 (Fy a b))).bind λl=>some (b::l))=some (b::l)/\_;have lneg:(S5 (Fy a b)).length<=(Fy a b).length:=Di _;by_cases hr:(Fy a b).length=0
  ·have e:S5 (Fy a b)=[]:=Qh (by omega);rw [e];refine ⟨[],?_,?_⟩
   ·obtain ⟨j,rfl⟩:∃ j,k=j+1:=⟨k-1,by omega⟩;rfl
   ·obtain ⟨c,hc,hcc⟩:=hd (cz b) ⟨Pq (1 / u) X,λt=>by
     have:=hX t;rw [Bi hr] at this;have hu:1 / u*u=1:=Fb up;rw [Ue,Ue,Uw];have:Ug a t=1 / u*(u*Ug a t):=by grind
     rw [this,hX,Bi hr]; grind⟩ (dvd_refl _)
    exact .base hc hcc
  ·have tn:Uf (S5 (Fy a b)):=Ut _ _;have hn0:(S5 (Fy a b)).length≠0:=λh0=>by
    have:=Ck (c:=-1) h1 tn (by decide) λt=>by rw [Qct]; grind
    omega
   obtain ⟨l,i1,i2⟩:=Qxd (s:=s+(m+1)*(s+8)) k b (S5 (Fy a b)) tb tn hn0 (by omega) (by omega) (by omega) (W9 bb (by omega)) (Qbx h3) (by rw [e2]; omega) λd d1 d2=>by
    refine hd d ?_ d1;obtain ⟨y,hy⟩:=d1;obtain ⟨z,hz⟩:=d2;have hu:1 / u*u=1:=Fb up;refine ⟨Pq (1 / u) (H3 (Fl X y) (Pq (-v) z)),λt=>?_⟩;have a1:=hX t; have a2:=hy t; have a3:=hz t;rw [Ue] at a2 a3;rw [Qct] at a3;rw [Ue,Uw,U6,Ui,Uw];have:Ug a t=1 / u*(u*Ug a t):=by grind
    rw [this,a1,a2,show Ug (Fy a b) t=-(ev d t*ev z t) by grind]; grind
   refine ⟨S5 (Fy a b)::l,by rw [i1]; rfl,?_⟩;rw [Zv];exact .step (q:=X) up vp (λt=>by rw [Ue,Ue,Ue,hX,Qct]; clear i2 i1 hd h3 hs; grind) i2
theorem Qbr (x:Rat):∀ (l:List (List Int)) (n:Nat) (s:Int),(l.foldl (Ht λp=>U5 p x) (n,s)).1=n+tc x s (l.map cz)
 | [],n,s=>rfl
 |
  p::l,n,s=>by
  simp only [Xk,Zv,tc,Ht];rw [Tu,Ue]
  split
  ·exact Qbr x l n s
  ·rw [Qbr x l]
   split <;> omega
theorem A0 (l:List (List Int)) (x:Rat):So l x=vv (l.map cz) x:=by
 have:=Qbr x l 0 0;unfold So P3 vv;rw [this]; omega
theorem Q4h {n s:Nat} (hz:Szz n (s+73)) {P g q:List Int} (sq:Sqp P g q) (lq:q.length<=n) (bq:Bd (s+69) q):∃ d,chk (U3 q)=some d/\∃ l,chF 66 q (Uh d)=some l/\Stm (cz q) ((q::l).map cz)/\(q.length<2->l=[]):=by
 have hn:=hz.1;have hs:=Q8s hz;have bd:=Qmq bq (by omega);have ld:=Te q;refine ⟨U3 q,Da (by omega) (W9 bd (by omega)),?_⟩;have hq0:=sq.pq.n;by_cases h2:q.length<2
 ·have e:Uh (U3 q)=[]:=by rw [Qh (l:=U3 q) (by omega)]; rfl
  rw [e];refine ⟨[],rfl,.inl ⟨1,by decide,λt=>?_,rfl⟩,λ_=>rfl⟩;rw [Ue,sq.pq.one h2,P8]
 ·have hdnz:(U3 q).length≠0:=λh=>by
   have h1:=Ty q (q.length-2);rw [Qh h,show q.length-2+1=q.length-1 by omega] at h1;have h3:q.getD (q.length-1) 0≠0:=Gi sq.pq.t (by omega);rcases Ya.1 (h1.symm.trans (by simp)) with h4 | h4
   ·exact h3 h4
   ·omega
  obtain ⟨p1,p2,p3,p4,p5,p6,p7⟩:=Ru (p:=U3 q) (Ut _ _) hdnz;have hdl:Un (U3 q)=Un q*((q.length-1:Nat):Int):=by
   have hld:(U3 q).length=q.length-1:=by
    rcases Q6 (U3 q).length (q.length-1) with h | h
    ·have h1:=Ty q (q.length-2);rw [Qg,Qr (by omega),show q.length-2+1=q.length-1 by omega] at h1;have h3:q.getD (q.length-1) 0≠0:=Gi sq.pq.t (by omega);rcases Ya.1 (h1.symm.trans (by simp)) with h4 | h4
     ·exact absurd h4 h3
     ·omega
    ·omega
   unfold Un;rw [hld,Ty,show q.length-1-1+1=q.length-1 by omega]
  have hfac:0<Fo (U3 q):=by
   have hlp:0<Un (U3 q):=by rw [hdl]; exact W5 sq.pq.l (by omega)
   have hc:=Em (p:=U3 q) (Ut _ _) hdnz;unfold Fo;rw [if_neg (by omega)];unfold H7 at hc ⊢; omega
  have hfq:((0:Int):Rat)<(Fo (U3 q):Rat):=X6.2 hfac;have hfq:(0:Rat)<(Fo (U3 q):Rat):=by simpa using hfq
  have hff:1 / (Fo (U3 q):Rat)*(Fo (U3 q):Rat)=1:=Fb hfq;have hz2:=hz.2;have hp3:(s+73+8)*3^(q.length-1)<=16777216:=by
   have:(s+73+8)*3^(q.length-1)<=(s+73+8)*3^(n-1):=Zh _ (Zo (by decide) (by omega));rw [Xo] at hz2; omega
  obtain ⟨l,h3,h4⟩:=Qxd (s:=s+73) 66 q (Uh (U3 q)) sq.pq.t p1 (by omega) (by omega) (by omega) (by omega) (W9 bq (by omega)) (p5 _ bd) hp3 λd d1 d2=>sq.num d1 (by
   obtain ⟨z,hz⟩:=d2;exact ⟨Pq (Fo (U3 q)) z,λt=>by
    have:=hz t;rw [Ue] at this;rw [Hp,<-Dn,p7,this,Uw]; grind⟩)
  refine ⟨Uh (U3 q)::l,h3,.inr ⟨cz (Uh (U3 q)),l.map cz,1 / (Fo (U3 q):Rat),Nq (by decide) hfq,λt=>?_,h4,rfl⟩,λh=>absurd h h2⟩;rw [Ue,<-Dn,p7 t]; grind
theorem chain_ok {n s:Nat} {p:List Int} (h:Okp n s p):∃ q l,Sl p=some q/\chain p=some (q::l)/\Stm (cz q) ((q::l).map cz)/\(q.length<2->l=[]):=by
 obtain ⟨pp,hl,hb⟩:=h.pr;have hn:=h.z.1;have hpl:=h.l;obtain ⟨g,q,hq,sq⟩:=Qao h;have e1:∀ t,Ug (Uh p) t=Ug q t*Ug g t:=λt=>by rw [sq.e]; grind
 obtain ⟨p1,p2⟩:=Hd pp.t pp.n e1;have hll:=Sk sq.pq.t sq.pg.t pp.t e1 p1 p2;obtain ⟨d,d1,l,d2,d3⟩:=Q4h h.z sq (by omega) (Ah hb (by omega) pp.t sq.pq.t sq.pg.t pp.n e1);refine ⟨q,l,hq,?_,d3⟩;unfold chain;rw [hq];show (if q.length=0 then none else _)=_;rw [if_neg sq.pq.n,d1];show (chF 66 q (Uh d)).bind _=_;rw [d2]; rfl
structure Gr (D M k:Nat) (q:Rat):Prop where
 u:∃ u:Int,q*((D*2^k:Nat):Rat)=(u:Rat)
 b:Uk q<=(M:Rat)
 d:0<D
theorem nat_pos {n:Nat} (h:0<n):(0:Rat)<(n:Rat):=by
 have:((0:Nat):Rat)<(n:Rat):=Ve.2 h;simpa using this
theorem Qfk {D M k:Nat} {q:Rat} (h:Gr D M k q):Gr D M (k+1) q:=by
 obtain ⟨u,hu⟩:=h.u;refine ⟨⟨u*2,?_⟩,h.b,h.d⟩;rw [Zk,<-Xo]
 push_cast at hu ⊢
 rw [<-hu]; grind
theorem Qug {D M k:Nat} {a b:Rat} (ha:Gr D M k a) (hb:Gr D M k b):Gr D M (k+1) ((a+b) / 2):=by
 obtain ⟨u,hu⟩:=ha.u;obtain ⟨v,hv⟩:=hb.u;have h2:(a+b) / 2*2=a+b:=Fb (by decide);refine ⟨⟨u+v,?_⟩,?_,ha.d⟩
 ·rw [Zk,<-Xo]
  push_cast at hu hv ⊢
  rw [<-hu,<-hv];generalize (a+b) / 2=c at *;generalize (D:Rat)*2^k=z at *;have:c*(z*2)=(c*2)*z:=by grind
  rw [this,h2]; grind
 ·have h3:=ha.b;have h4:=hb.b;rw [Rm] at *;constructor <;> grind
theorem Zgs {D M k:Nat} {q:Rat} (h:Gr D M k q):q.den<=D*2^k:=by
 obtain ⟨u,hu⟩:=h.u;have hp:0<D*2^k:=J6 h.d (Zu (by decide));have e:q=Rat.divInt u ((D*2^k:Nat):Int):=by
  rw [<-Gg,<-hu];have hz:=nat_pos hp;rw [show ((((D*2^k:Nat):Int)):Rat)=((D*2^k:Nat):Rat) from rfl];rw [Ju];have:=Wh ((D*2^k:Nat):Rat) (by grind);generalize ((D*2^k:Nat):Rat)=z at *;have:q*z*z⁻¹=q*(z*z⁻¹):=by grind
  rw [this,‹z*z⁻¹=1›]; grind
 rw [e,K7,if_neg (by omega),Zw];exact J1 _ _
theorem Qit {a b k:Nat} {z:Int} (h:z.natAbs<=a*(b*2^k)):Ul z<=Ul (a:Int)+Ul (b:Int)+k:=by
 have h1:Ul (a:Int)<=Ul (a:Int):=Qj _;have h2:Ul (b:Int)<=Ul (b:Int):=Qj _;rw [Rh] at h1 h2 ⊢;rw [Zw] at h1 h2;rw [Xe,Xe];have h3:a*b<2^Ul (a:Int)*2^Ul (b:Int):=Nat.mul_lt_mul_of_lt_of_le h1 (Jt h2) (Zu (by decide));have h4:=Xy h3 (show 0<2^k from Zu (by decide));rw [<-Xo] at h; omega
theorem Qld {D M k B:Nat} {q:Rat} (h:Gr D M k q) (hM:0<M) (hs:Ul (D:Int)+Ul (M:Int)+k<=B):Qs B q:=by
 have hd:=Zgs h;have hden:=nat_pos q.den_pos;have h1:(q.num.natAbs:Rat)<=((M*(D*2^k):Nat):Rat):=by
  have e:(q.num:Rat)=q*(q.den:Rat):=by
   have:(q.num:Rat) / (((q.den:Int)):Rat)=q:=by rw [Gg,Zq]
   have h2:(q.num:Rat) / (q.den:Rat)*(q.den:Rat)=q.num:=Zi (by grind);rw [show (q.num:Rat) / (q.den:Rat)=q from this] at h2; exact h2.symm
  rw [<-Ry,e];have h3:=Fw (x:=q) (y:=(q.den:Rat)) (b:=((D*2^k:Nat):Rat)) h.b (by
   have:Uk (q.den:Rat)=(q.den:Rat):=by unfold Uk; rw [if_neg (by grind)]
   rw [this]; exact Zb.2 hd)
  push_cast at h3 ⊢; exact h3
 have h1:=Zb.1 h1;refine ⟨?_,?_⟩
 ·have:=Qit (z:=q.num) h1; omega
 ·have:=Qit (z:=(q.den:Int)) (a:=M) (b:=D) (k:=k) (by
   rw [Zw];exact Qa hd (Nat.le_mul_of_pos_left _ hM))
  omega
theorem Qbg (a b:Rat):A9 a b=(a+b) / 2:=by
 unfold A9;rw [<-Gg];have ha:(a.num:Rat)=a*(a.den:Rat):=by
  have:(a.num:Rat) / (((a.den:Int)):Rat)=a:=by rw [Gg,Zq]
  have h2:(a.num:Rat) / (a.den:Rat)*(a.den:Rat)=a.num:=Zi (by have:=nat_pos a.den_pos; grind);rw [show (a.num:Rat) / (a.den:Rat)=a from this] at h2; exact h2.symm
 have hb:(b.num:Rat)=b*(b.den:Rat):=by
  have:(b.num:Rat) / (((b.den:Int)):Rat)=b:=by rw [Gg,Zq]
  have h2:(b.num:Rat) / (b.den:Rat)*(b.den:Rat)=b.num:=Zi (by have:=nat_pos b.den_pos; grind);rw [show (b.num:Rat) / (b.den:Rat)=b from this] at h2; exact h2.symm
 have pa:=nat_pos a.den_pos;have pb:=nat_pos b.den_pos;rw [V6,Xz,Xz,Xz,Xz,ha,hb];rw [show (((a.den:Int)):Rat)=(a.den:Rat) from rfl,show (((b.den:Int)):Rat)=(b.den:Rat) from rfl,show (((2:Int)):Rat)=2 from rfl];generalize (a.den:Rat)=x at *;generalize (b.den:Rat)=y at *;have hxy:=Ls (Ls pa pb) (show (0:Rat)<2 by decide);have h1:(a*x*y+b*y*x) / (x*y*2)*(x*y*2)=a*x*y+b*y*x:=Fb hxy;have h2:(a+b) / 2*2=a+b:=Fb (by decide);generalize (a*x*y+b*y*x) / (x*y*2)=c at *;generalize (a+b) / 2=d at *;have h3:(x*y*2)*(c-d)=0:=by grind
 rcases Jq.1 h3 with h4 | h4 <;> grind
theorem Qg2 (a b:Rat):Qji a b=a-b:=by
 unfold Qji;rw [Rat.sub_def',<-Rat.divInt_ofNat]
 push_cast; rfl
theorem Ci {a b:Rat}:U8 a b=0↔a=b:=by
 constructor
 ·intro h;have h1:¬a<b:=λh'=>by have:=Bb.2 h'; omega
  have h2:¬b<a:=λh'=>by have:=Pe.2 h'; omega
  grind
 ·intro h; subst h; exact Np a
theorem Ab {a b:Rat}:U8 a b<=0↔a<=b:=by
 constructor
 ·intro h;have h2:¬b<a:=λh'=>by have:=Pe.2 h'; omega
  grind
 ·intro h;have h2:¬0<U8 a b:=λh'=>by have:=Pe.1 h'; grind
  omega
theorem Qgl {a b:Rat}:0<=U8 a b↔b<=a:=by
 constructor
 ·intro h;have h2:¬a<b:=λh'=>by have:=Bb.2 h'; omega
  grind
 ·intro h;have h2:¬U8 a b<0:=λh'=>by have:=Bb.1 h'; grind
  omega
theorem Rq (a b:Rat):U8 a b=1/\b<a\/U8 a b=0/\a=b\/U8 a b=-1/\a<b:=by
 have hb:=Aa a b;rcases (show U8 a b=1\/U8 a b=0\/U8 a b=-1 by omega) with h | h | h
 ·exact .inl ⟨h,Pe.1 (by omega)⟩
 ·exact .inr (.inl ⟨h,Ci.1 h⟩)
 ·exact .inr (.inr ⟨h,Bb.1 (by omega)⟩)
theorem Qra (p:List Int) (x:Rat):low p x=Tj (cz p) x:=by
 unfold low Tj;rw [Tu,Tu,Ue,Dn]
theorem Tc {t:Tm} (h:t.lo<t.hi) (q:Rat):Up t q=cq (cz t.p) t.lo t.hi q:=by
 have hp:t.point=false:=by
  unfold Tm.point;have:¬0<=U8 t.lo t.hi:=λh'=>by have:=Qgl.1 h'; grind
  simp [this]
 unfold Up cq;rw [hp,if_neg (by decide)];have e1:(U8 q t.lo<=0)=(q<=t.lo):=propext Ab;have e2:(0<U8 q t.hi)=(t.hi<q):=propext Pe;rw [Tu,Qra,<-Ue];simp only [e1,e2]
theorem Tz {t:Tm}:t.point=true↔t.hi<=t.lo:=by
 unfold Tm.point;rw [decide_eq_true_iff]; exact Qgl
theorem D6 {t:Tm} (h:t.lo=t.hi) (q:Rat):Up t q=U8 t.lo q:=by
 have hp:t.point=true:=Tz.2 (by rw [h]; exact Qn);unfold Up; rw [if_pos hp]
theorem Zgb {c:Rat->Int} {x:Rat} (h:∀ q,c q=U8 x q):Cut c where
 val q:=by rw [h]; have:=Aa x q; omega
 mono q r hqr h1:=by
  rw [h] at h1 ⊢;rcases Rq x q with ⟨e,e'⟩ | ⟨e,e'⟩ | ⟨e,e'⟩
  ·exact absurd e h1
  ·rcases Rq x r with ⟨f,f'⟩ | ⟨f,f'⟩ | ⟨f,f'⟩ <;> grind
  ·rcases Rq x r with ⟨f,f'⟩ | ⟨f,f'⟩ | ⟨f,f'⟩ <;> grind
 up q h1:=by
  rw [h] at h1;have h2:=Pe.1 (show 0<U8 x q by omega);have h3:(x+q) / 2*2=x+q:=Fb (by decide);have h4:=Pe.2 (show (x+q) / 2<x by grind);have:=Aa x ((x+q) / 2);exact ⟨(x+q) / 2,by grind,by rw [h]; omega⟩
 dn q h1:=by
  rw [h] at h1;have h2:=Bb.1 (show U8 x q<0 by omega);have h3:(x+q) / 2*2=x+q:=Fb (by decide);have h4:=Bb.2 (show x<(x+q) / 2 by grind);have:=Aa x ((x+q) / 2);exact ⟨(x+q) / 2,by grind,by rw [h]; omega⟩
 lo:=⟨x-1,by
  rw [h];have h4:=Pe.2 (show x-1<x by grind);have:=Aa x (x-1); omega⟩
 hi:=⟨x+1,by
  rw [h];have h4:=Bb.2 (show x<x+1 by grind);have:=Aa x (x+1); omega⟩
structure Va (t:Tm):Prop where
 i:t.lo=t.hi/\Ug t.p t.lo=0\/∃ L,Vt (cz t.p) L t.lo t.hi
 tr:Uf t.p
 n:t.p.length<=9
 n2:2<=t.p.length
 b:Bd 1000000 t.p
 bi:t.point=false->Bd 1000 t.p
 sc:t.point=false->∃ (l:List (List Int)) (P g:List Int),chF 66 t.p (Uh (U3 t.p))=some l/\Sqp P g t.p/\Vt (cz t.p) ((t.p::l).map cz) t.lo t.hi
 g:∃ D M k,Gr D M k t.lo/\Gr D M k t.hi/\0<M/\Ul (D:Int)+Ul (M:Int)+k<=1000000
theorem Va.le {t:Tm} (h:Va t):t.lo<=t.hi:=by
 rcases h.i with ⟨e,_⟩ | ⟨L,V⟩
 ·rw [e]; exact Qn
 ·exact Qo V.l
theorem Va.pt {t:Tm} (h:Va t) (hp:t.point=true):t.lo=t.hi/\Ug t.p t.lo=0:=by
 rcases h.i with e | ⟨L,V⟩
 ·exact e
 ·have:=Tz.1 hp;have:=V.l;grind
theorem Va.iv {t:Tm} (h:Va t) (hp:t.point=false):∃ L,Vt (cz t.p) L t.lo t.hi:=by
 rcases h.i with ⟨e,_⟩ | h
 ·have:=Tz.2 (show t.hi<=t.lo by rw [e]; exact Qn);rw [hp] at this; cases this
 ·exact h
theorem Va.cut {t:Tm} (h:Va t):Cut (Up t):=by
 rcases h.i with ⟨e,_⟩ | ⟨L,V⟩
 ·exact Zgb (x:=t.lo) λq=>D6 e q
 ·have:Up t=cq (cz t.p) t.lo t.hi:=funext λq=>Tc V.l q
  rw [this]; exact V.cut
theorem Zh9 {c:Rat->Int} (hc:Cut c) {p:List Rat} {x:Rat} (h:c x=0) (h0:ev p x=0):Lz p c:=by
 rcases Oy hc p with h1 | ⟨s,hs,h1⟩
 ·exact h1
 ·have:=Qrp hc h h1;rw [Fa.2 h0] at this; exact absurd this.symm hs
theorem Va.van {t:Tm} (h:Va t):Lz (cz t.p) (Up t):=by
 have hc:=h.cut;rcases h.i with ⟨e,h0⟩ | ⟨L,V⟩
 ·exact Zh9 hc (x:=t.lo) (by rw [D6 e,Np]) (by rw [Ue]; exact h0)
 ·have:Up t=cq (cz t.p) t.lo t.hi:=funext λq=>Tc V.l q
  rw [this]; exact V.van
theorem Va.qs {t:Tm} (h:Va t):Qs 1000000 t.lo/\Qs 1000000 t.hi:=by
 obtain ⟨D,M,k,h1,h2,h3,h4⟩:=h.g;exact ⟨Qld h1 h3 h4,Qld h2 h3 h4⟩
theorem Va.tb {t:Tm} (h:Va t):Tb t:=⟨⟨h.tr,by have:=h.n; omega,W9 h.b (by omega)⟩,h.qs.1.mono (t:=16777216) (by omega),h.qs.2.mono (t:=16777216) (by omega)⟩
structure Hv (t:Tm) (D M k:Nat) (u:Tm):Prop where
 p:u.p=t.p
 i:u.lo=u.hi/\Ug u.p u.lo=0\/∃ L,Vt (cz u.p) L u.lo u.hi
 c:∀ q,Up u q=Up t q
 l:Gr D M k u.lo
 h:Gr D M k u.hi
theorem Qqd {c:Rat->Int} (hc:Cut c) {x:Rat} (h:c x=0) (q:Rat):c q=U8 x q:=by
 rcases Rq x q with ⟨e,e'⟩ | ⟨e,e'⟩ | ⟨e,e'⟩
 ·rw [e]; exact hc.mono' e' (by omega)
 ·rw [e,<-e',h]
 ·rw [e]; exact hc.mono x q e' (by omega)
theorem Qnm {t u:Tm} {D M k:Nat} (hu:Hv t D M k u) (hM:0<M) (hs:Ul (D:Int)+Ul (M:Int)+(k+1)<=16777216):∃ v,Qnl u=some v/\Hv t D M (k+1) v/\v.hi-v.lo<=(u.hi-u.lo) / 2/\u.lo<=v.lo/\v.hi<=u.hi:=by
 have h2:∀ x:Rat,x / 2*2=x:=λx=>Fb (by decide)
 unfold Qnl;rcases hu.i with ⟨e,h0⟩ | ⟨L,V⟩
 ·have hp:u.point=true:=Tz.2 (by rw [e]; exact Qn);rw [if_pos hp];refine ⟨u,rfl,⟨hu.p,hu.i,hu.c,Qfk hu.l,Qfk hu.h⟩,?_,Qn,Qn⟩;rw [e]; have:=h2 (u.hi-u.hi); grind
 ·have hp:u.point=false:=by
   have:¬u.point=true:=λh=>by have:=Tz.1 h; have:=V.l; grind
   simpa using this
  rw [hp,if_neg (by decide)];obtain ⟨m,hm⟩:=nmE ((u.lo+u.hi) / 2);have hmg:Gr D M (k+1) m:=by rw [hm]; exact Qug hu.l hu.h
  have hmm:=h2 (u.lo+u.hi);rw [<-hm] at hmm;have hl:=V.l;have hl1:u.lo<m:=by grind
  have hl2:m<u.hi:=by grind
  have hch:chq (A9 u.lo u.hi)=some m:=by
   rw [Qbg,<-hm];have:=Qld hmg hM hs;unfold chq;rw [if_pos ⟨this.1,this.2⟩]
  have hcm:A9 u.lo u.hi=m:=by rw [Qbg,<-hm]
  rw [hch];show ∃ v,some (if Up u m=0 then (⟨u.p,m,m⟩:Tm) else if Up u m=-1 then ⟨u.p,u.lo,m⟩ else ⟨u.p,m,u.hi⟩)=some v/\_;have hw:=h2 (u.hi-u.lo);have hcu:=Tc hl;have hcut:=V.cut;have hcut':Cut (Up u):=by rw [show Up u=cq (cz u.p) u.lo u.hi from funext hcu]; exact hcut
  by_cases c0:Up u m=0
  ·rw [if_pos c0];have hz:Ug u.p m=0:=by
    have:=Qe6 hcut (q:=m) (by rw [<-hcu]; exact c0) V.van;rwa [Ue] at this
   refine ⟨_,rfl,⟨hu.p,.inl ⟨rfl,hz⟩,λq=>?_,hmg,hmg⟩,by show m-m<=_; grind,by show u.lo<=m; grind,by show m<=u.hi; grind⟩;rw [D6 rfl,<-hu.c];exact (Qqd hcut' c0 q).symm
  ·rw [if_neg c0];by_cases c1:Up u m=-1
   ·rw [if_pos c1];have hv:vv L m=vv L u.hi:=V.eq_hi hl1 (Qo hl2) (by rw [<-hcu,c1]; decide);have V':Vt (cz u.p) L u.lo m:=⟨V.s,hl1,by rw [hv]; exact V.v⟩;refine ⟨_,rfl,⟨hu.p,.inr ⟨L,V'⟩,λq=>?_,Qfk hu.l,hmg⟩,by show m-u.lo<=_; grind,Qn,by show m<=u.hi; grind⟩;rw [Tc hl1,<-hu.c,hcu];exact V.uniq V'.cut (Ni Qn) (by rw [A8 hl1 hl2]; decide) V'.van q
   ·rw [if_neg c1];have c2:Up u m=1:=by rcases hcut'.val m with h | h | h <;> omega
    have hv:vv L m=vv L u.lo:=V.eq_lo hl1 (Qo hl2) (by rw [<-hcu]; exact c2);have V':Vt (cz u.p) L m u.hi:=⟨V.s,hl2,by rw [hv]; exact V.v⟩;refine ⟨_,rfl,⟨hu.p,.inr ⟨L,V'⟩,λq=>?_,hmg,Qfk hu.h⟩,by show u.hi-m<=_; grind,by show u.lo<=m; grind,Qn⟩;rw [Tc hl2,<-hu.c,hcu];exact V.uniq V'.cut (Ni (by grind)) V'.hi1 V'.van q
def Pj (a b:Tm):Prop:=∃ q,Up a q=-1/\Up b q=1
def TEq (a b:Tm):Prop:=∀ q,Up a q=Up b q
theorem tri {a b:Tm} (ha:Cut (Up a)) (hb:Cut (Up b)):Pj a b\/TEq a b\/Pj b a:=by
 rcases Classical.em (TEq a b) with h | h
 ·exact .inr (.inl h)
 ·obtain ⟨q,hq⟩:=Classical.not_forall.1 h;obtain ⟨r,⟨h1,h2⟩ | ⟨h1,h2⟩⟩:=Qqc ha hb hq
  ·exact .inl ⟨r,h1,h2⟩
  ·exact .inr (.inr ⟨r,h2,h1⟩)
theorem Oa {a b:Tm} (ha:Cut (Up a)) (hb:Cut (Up b)) (h:Pj a b) (h':Pj b a):False:=by
 obtain ⟨q,q1,q2⟩:=h;obtain ⟨r,r1,r2⟩:=h';have:=ha.lt r2 q1;have:=hb.lt q2 r1;grind
theorem Qr7 {p:List Int} (k:Nat):(p.getD k 0).natAbs<=2^Fq p:=by
 have h:Ul (p.getD k 0)<=Fq p:=by
  have key:∀ (l:List Int) (n:Nat),n≤l.foldl (λn z=>max n (Ul z)) n/\∀ z∈l,Ul z≤l.foldl (λn z=>max n (Ul z)) n:=by
   intro l
   induction l with
   | nil=>exact λn=>⟨Qj _,λz hz=>by cases hz⟩
   |
    cons y l ih =>
    intro n;obtain ⟨i1,i2⟩:=ih (max n (Ul y));refine ⟨by simp only [Xk]; omega,λz hz=>?_⟩;simp only [Xk];rcases Qx.1 hz with rfl | hz
    ·omega
    ·exact i2 z hz
  exact Um (s:=Fq p) (λz hz=>(key p 0).2 z hz) k
 rw [Rh] at h; omega
theorem Zeq {s:Nat}:∀ (B:List Int),(∀ z∈B,z.natAbs≤2^s)->gB B≤2^(s+(B.length-1))
 | [],_=>Qi _
 |
  c::B,h=>by
  have h1:=h c (Qt ..);have h2:=Zeq B λz hz=>h z (Ql _ hz)
  simp only [gB,Zc,J8];have h3:2^s<=2^(s+B.length):=Zo (by decide) (by omega);cases B with
  | nil=>simp only [gB,Kt] at *; omega
  |
   cons d B =>
   have h4:2^(s+(d::B).length)=2*2^(s+((d::B).length-1)):=by
    rw [Zf,<-Zk]; congr 1
   rw [h4]; omega
def Rk (A B:List Int):Nat:=(Fq A+Fq B+(A.length+B.length)+8)*(2*(A.length+B.length-2)-1)
theorem Q5i {A B:List Int} (tA:Uf A) (tB:Uf B) (nA:A.length<=9) (nB:B.length<=9) (lA:2<=A.length) (lB:2<=B.length) {R d:Rat} (hR:1<=R) (dp:0<d)
 (hs:∀ e:Rat,0<e->∃ q r,Uk q<=R/\Uk r<=R/\d<=Uk (q-r)/\Uk (q-r)*((2^(Rk A B+1):Nat):Rat)<=1/\Uk (Ug A q)<e/\Uk (Ug B r)<e):False:=by
 obtain ⟨a,ha⟩:∃ a,A.length=a+1:=⟨A.length-1,by omega⟩;obtain ⟨b,hb⟩:∃ b,B.length=b+1:=⟨B.length-1,by omega⟩;obtain ⟨s,hsd⟩:=nmE (Fq A+Fq B+b);obtain ⟨N,hN⟩:∃ N,b*(2*(a*b))+a*(2*(a*b)-b)=N:=⟨_,rfl⟩;have hNt:N<=2^(a+9):=by
  rw [<-hN];have hab:∀ a b:Fin 9,b.1*(2*(a.1*b.1))+a.1*(2*(a.1*b.1)-b.1)<=2^(a.1+9):=by decide
  exact hab ⟨a,by omega⟩ ⟨b,by omega⟩
 have hK:Rk A B=(s+a+10)*(2*(a+b-1)+1):=by
  unfold Rk;rw [ha,hb,hsd,show a+1+(b+1)-2=a+b by omega,show 2*(a+b)-1=2*(a+b-1)+1 by omega];congr 1; omega
 have h0A:A.getD a 0≠0:=by have:=Gi tA (by omega); rwa [ha] at this
 have h0B:B.getD b 0≠0:=by have:=Gi tB (by omega); rwa [hb] at this
 have hp:∀ m,1<=2^m:=λm=>Zu (by decide)
 refine Zgn (N:=N) (D:=2^(Rk A B-1)) ha hb h0A h0B (by omega) (by omega) (h:=2^s) (hp s) (λk=>Qa (Qr7 k) (Zo (by decide) (by omega))) ?_ hN ?_ hR dp λe ep=>?_
 ·refine Qa (Zeq (s:=Fq B) B λz hz=>?_) (Zo (by decide) (by omega));obtain ⟨i,hi⟩:=Ze.1 hz;have:=Qr7 (p:=B) i;rwa [Qg,hi] at this
 ·have h1:2*(N*2^s)<=2^(s+a+10):=by
   have:N*2^s<=2^(a+9)*2^s:=Qw _ hNt;rw [<-Xe] at this;rw [show s+a+10=(a+9+s)+1 by omega,Zk]; omega
  have h2:N*2^s<=2^(s+a+9):=by
   rw [show s+a+9=(a+9)+s by omega,Xe]; exact Qw _ hNt
  have h3:=Nat.pow_le_pow_left h1 (2*(a+b-1));have h4:=Zt h2 h3;rw [<-W8,<-Xe] at h4;rw [<-Xo];refine Qa h4 (Zo (by decide) ?_);rw [hK,Xu,Yq]; omega
 ·obtain ⟨q,r,h1,h2,h3,h4,h5,h6⟩:=hs e ep;refine ⟨q,r,h1,h2,h3,?_,h5,h6⟩;have hK1:1<=Rk A B:=by
   rw [hK]; exact J6 (by omega) (by omega)
  have e1:2^(Rk A B+1)=4*2^(Rk A B-1):=by
   obtain ⟨m,hm⟩:∃ m,Rk A B=m+1:=⟨Rk A B-1,by omega⟩;rw [hm,J8,Zk,Zk]; omega
  rw [e1] at h4
  push_cast at h4 ⊢
  exact h4
theorem Hv.lo' {t:Tm} {D M k:Nat} {u:Tm} (h:Hv t D M k u):Up t u.lo=1\/Up t u.lo=0/\u.lo=u.hi:=by
 rw [<-h.c];rcases h.i with ⟨e,_⟩ | ⟨L,V⟩
 ·exact .inr ⟨by rw [D6 e,Np],e⟩
 ·exact .inl (by rw [Tc V.l]; exact Ni Qn)
theorem Hv.hi' {t:Tm} {D M k:Nat} {u:Tm} (h:Hv t D M k u):Up t u.hi=0\/Up t u.hi=-1:=by
 rw [<-h.c];rcases h.i with ⟨e,_⟩ | ⟨L,V⟩
 ·exact .inl (by rw [D6 e,e,Np])
 ·rw [Tc V.l];have:=V.hi1;rcases V.cut.val u.hi with h | h | h <;> omega
theorem Hv.le {t:Tm} {D M k:Nat} {u:Tm} (h:Hv t D M k u):u.lo<=u.hi:=by
 rcases h.i with ⟨e,_⟩ | ⟨L,V⟩
 ·rw [e]; exact Qn
 ·exact Qo V.l
theorem Q5j {a b:Tm} (ha:Va a) (hb:Va b) {D M k D' M' k':Nat} {u v:Tm} (hu:Hv a D M k u) (hv:Hv b D' M' k' v) (h:Pj a b):1<(v.hi-u.lo)*((2^(Rk a.p b.p+1):Nat):Rat):=by
 rcases Uy ((v.hi-u.lo)*((2^(Rk a.p b.p+1):Nat):Rat)) 1 with hw | hw
 ·exfalso;have ca:=ha.cut;have cb:=hb.cut;obtain ⟨m,m1,m2⟩:=h;obtain ⟨m',hm',m3⟩:=ca.dn m m1;have hpow:(0:Rat)<=((2^(Rk a.p b.p+1):Nat):Rat):=Xn;obtain ⟨R,hR⟩:=nmE (Uk u.lo+Uk m'+Uk m+Uk v.hi+1);have n1:=Gj u.lo; have n2:=Gj m'; have n3:=Gj m; have n4:=Gj v.hi;refine Q5i (R:=R) (d:=m-m') ha.tr hb.tr ha.n hb.n ha.n2 hb.n2 (by grind) (by grind) λe ep=>?_
  obtain ⟨q,q1,q2,q3⟩:∃ q,u.lo<=q/\q<=m'/\Uk (Ug a.p q)<e:=by
   rcases hu.lo' with h1 | ⟨h1,_⟩
   ·obtain ⟨x,y,hx,hy,hq⟩:=ha.van e ep;rcases Uy x u.lo with e1 | e1
    ·exact ⟨u.lo,Qn,Qo (ca.lt h1 m3),by rw [<-Ue]; exact hq u.lo e1 (Qo (ca.lt h1 hy))⟩
    ·exact ⟨x,Qo e1,Qo (ca.lt hx m3),by rw [<-Ue]; exact hq x Qn (Qo (ca.lt hx hy))⟩
   ·refine ⟨u.lo,Qn,?_,by rw [<-Ue,Qe6 ca h1 ha.van,G9]; exact ep⟩;rcases Uy u.lo m' with e1 | e1
    ·exact e1
    ·have:=ca.mono m' u.lo e1 (by omega); omega
  obtain ⟨r,r1,r2,r3⟩:∃ r,r<=v.hi/\m<=r/\Uk (Ug b.p r)<e:=by
   rcases hv.hi' with h1 | h1
   ·refine ⟨v.hi,Qn,?_,by rw [<-Ue,Qe6 cb h1 hb.van,G9]; exact ep⟩;rcases Uy m v.hi with e1 | e1
    ·exact e1
    ·have:=cb.mono v.hi m e1 (by omega); omega
   ·obtain ⟨x,y,hx,hy,hq⟩:=hb.van e ep;rcases Uy v.hi y with e1 | e1
    ·exact ⟨v.hi,Qn,Qo (cb.lt m2 h1),by rw [<-Ue]; exact hq v.hi (Qo (cb.lt hx h1)) e1⟩
    ·exact ⟨y,Qo e1,Qo (cb.lt m2 hy),by rw [<-Ue]; exact hq y (Qo (cb.lt hx hy)) Qn⟩
  have e1:Uk (q-r)=r-q:=by unfold Uk; split <;> grind
  have b1:Uk q<=R:=by
   have:=Qce (R:=R) (x:=u.lo) (y:=m') (t:=q) (by grind) (by grind) q1 q2; exact this
  have b2:Uk r<=R:=by
   have:=Qce (R:=R) (x:=m) (y:=v.hi) (t:=r) (by grind) (by grind) r2 r1; exact this
  refine ⟨q,r,b1,b2,by rw [e1]; grind,?_,q3,r3⟩;rw [e1];have:=Q4 (show r-q<=v.hi-u.lo by grind) hpow;exact Q7 this hw
 ·exact hw
theorem Qpt {a b:Tm} (ha:Va a) (hb:Va b) {D M k D' M' k':Nat} {u v:Tm} (hu:Hv a D M k u) (hv:Hv b D' M' k' v) (hne:¬TEq a b) (h:Bm u v=true):Pj a b:=by
 have h1:=(of_decide_eq_true h).1;have h1:=Ab.1 h1;rcases tri ha.cut hb.cut with h2 | h2 | ⟨m,m1,m2⟩
 ·exact h2
 ·exact absurd h2 hne
 ·exfalso;have e1:m<u.hi:=by
   rcases Uy u.hi m with e | e
   ·rcases Classical.em (u.hi=m) with e' | e'
    ·have:=hu.hi'; rw [e'] at this; omega
    ·have:=ha.cut.mono u.hi m (by grind) (by have:=hu.hi'; omega); omega
   ·exact e
  have e2:v.lo<m:=by
   rcases Uy m v.lo with e | e
   ·rcases Classical.em (m=v.lo) with e' | e'
    ·have:=hv.lo'; rw [<-e'] at this; omega
    ·have:=hb.cut.mono m v.lo (by grind) (by omega);have:=hv.lo'; omega
   ·exact e
  grind
theorem Qyt {a b:Tm} (ha:Va a) (hb:Va b) {D M k D' M' k':Nat} {u v:Tm} (hu:Hv a D M k u) (hv:Hv b D' M' k' v) (hlt:Pj a b) (h:Bm u v≠true):v.lo<=u.hi:=by
 rcases Uy v.lo u.hi with e | e
 ·exact e
 ·refine absurd (decide_eq_true ⟨Ab.2 (Qo e),λh'=>?_⟩) h;have:=Ci.1 h'.2; grind
theorem Qly (m:Nat):((2^(m+1):Nat):Rat)=2*((2^m:Nat):Rat):=by rw [Zk]; push_cast; grind
def Ze9 (a b:Tm) (r:Tm×Tm×Int):Prop:=r.2.2=-1/\Pj a b\/r.2.2=1/\Pj b a
theorem Q0t (A B:List Int):Rk A B=Rk B A:=by unfold Rk; rw [Nat.add_comm A.length,Nat.add_comm (Fq A)]
theorem Zio {a b:Tm} (ha:Va a) (hb:Va b) (hne:¬TEq a b) {D M D' M':Nat} (hM:0<M) (hM':0<M'):∀ (i j:Nat) (u v:Tm) (k k':Nat) (W:Rat),2*i+1<=j->Hv a D M k u->Hv b D' M' k' v->Ul (D:Int)+Ul (M:Int)+(k+j)<=16777216->Ul (D':Int)+Ul (M':Int)+(k'+j)<=16777216->u.hi-u.lo<=W->v.hi-v.lo<=W->2*W*((2^(Rk a.p b.p+1):Nat):Rat)<=((2^i:Nat):Rat)->∃ r,apF j u v=some r/\Ze9 a b r:=by
 intro i;have step:∀ (j:Nat) (u v:Tm) (k k':Nat),Hv a D M k u->Hv b D' M' k' v->Ul (D:Int)+Ul (M:Int)+(k+(j+1))<=16777216->Ul (D':Int)+Ul (M':Int)+(k'+(j+1))<=16777216->(∃ r,apF (j+1) u v=some r/\Ze9 a b r)\/(Bm u v≠true/\Bm v u≠true/\∃ u' v' k1 k1',apF (j+1) u v=apF j u' v'/\Hv a D M k1 u'/\Hv b D' M' k1' v'/\k1<=k+1/\k1'<=k'+1/\(v.hi-v.lo<=u.hi-u.lo/\u'.hi-u'.lo<=(u.hi-u.lo) / 2/\v'=v\/u.hi-u.lo<=v.hi-v.lo/\v'.hi-v'.lo<=(v.hi-v.lo) / 2/\u'=u)):=by
  intro j u v k k' hu hv hs hs';by_cases h1:Bm u v=true
  ·exact .inl ⟨(u,v,-1),by simp only [apF]; rw [if_pos h1],.inl ⟨rfl,Qpt ha hb hu hv hne h1⟩⟩
  by_cases h2:Bm v u=true
  ·exact .inl ⟨(u,v,1),by simp only [apF]; rw [if_neg h1,if_pos h2],.inr ⟨rfl,Qpt hb ha hv hu (λh=>hne λq=>(h q).symm) h2⟩⟩
  refine .inr ⟨h1,h2,?_⟩;by_cases h3:0<=U8 (Qji u.hi u.lo) (Qji v.hi v.lo)
  ·obtain ⟨x,x1,x2,x3,_⟩:=Qnm hu hM (by omega);refine ⟨x,v,k+1,k',?_,x2,hv,by omega,by omega,.inl ⟨?_,x3,rfl⟩⟩
   ·simp only [apF]; rw [if_neg h1,if_neg h2,if_pos h3,x1]; rfl
   ·have:=Qgl.1 h3; rwa [Qg2,Qg2] at this
  ·obtain ⟨x,x1,x2,x3,_⟩:=Qnm hv hM' (by omega);refine ⟨u,x,k,k'+1,?_,hu,x2,by omega,by omega,.inr ⟨?_,x3,rfl⟩⟩
   ·simp only [apF]; rw [if_neg h1,if_neg h2,if_neg h3,x1]; rfl
   ·rcases Uy (u.hi-u.lo) (v.hi-v.lo) with e | e
    ·exact e
    ·refine absurd (Qgl.2 ?_) h3;rw [Qg2,Qg2]; exact Qo e
 induction i with
 |
  zero =>
  intro j u v k k' W hj hu hv hs hs' hW hW' hK;obtain ⟨j,rfl⟩:∃ m,j=m+1:=⟨j-1,by omega⟩;rcases step j u v k k' hu hv hs hs' with h | ⟨h1,h2,_⟩
  ·exact h
  ·exfalso;have hpow:(0:Rat)<=((2^(Rk a.p b.p+1):Nat):Rat):=Xn;rw [Yx] at hK;rcases tri ha.cut hb.cut with h3 | h3 | h3
   ·have h4:=Qyt ha hb hu hv h3 h1;have h5:=Q5j ha hb hu hv h3;have h6:=Q4 (show v.hi-u.lo<=2*W by clear step; grind) hpow;have h7:((1:Nat):Rat)=1:=rfl;rw [h7] at hK;clear step; grind
   ·exact hne h3
   ·have h4:=Qyt hb ha hv hu h3 h2;have h5:=Q5j hb ha hv hu h3;rw [Q0t] at h5;have h6:=Q4 (show u.hi-v.lo<=2*W by clear step; grind) hpow;have h7:((1:Nat):Rat)=1:=rfl;rw [h7] at hK;clear step; grind
 |
  succ i ih =>
  intro j u v k k' W hj hu hv hs hs' hW hW' hK;obtain ⟨j,rfl⟩:∃ m,j=m+2:=⟨j-2,by omega⟩;have hd:∀ x:Rat,x / 2*2=x:=λx=>Fb (by decide)
  rcases step (j+1) u v k k' hu hv hs hs' with h | ⟨_,_,u1,v1,k1,k1',e1,hu1,hv1,hk1,hk1',hw1⟩
  ·exact h
  ·rw [e1];rcases step j u1 v1 k1 k1' hu1 hv1 (by omega) (by omega) with h | ⟨_,_,u2,v2,k2,k2',e2,hu2,hv2,hk2,hk2',hw2⟩
   ·exact h
   ·rw [e2];have a1:=hd (u.hi-u.lo); have a2:=hd (v.hi-v.lo); have a3:=hd (u1.hi-u1.lo); have a4:=hd (v1.hi-v1.lo); have a5:=hd W;have b1:=hu.le; have b2:=hv.le; have b3:=hu1.le; have b4:=hv1.le; have b5:=hu2.le; have b6:=hv2.le;have hww:u2.hi-u2.lo<=W / 2/\v2.hi-v2.lo<=W / 2:=by
     clear step ih;rcases hw1 with ⟨c1,c2,rfl⟩ | ⟨c1,c2,rfl⟩ <;> rcases hw2 with ⟨d1,d2,rfl⟩ | ⟨d1,d2,rfl⟩ <;> constructor <;> grind
    refine ih j u2 v2 k2 k2' (W / 2) (by omega) hu2 hv2 (by omega) (by omega) hww.1 hww.2 ?_;rw [Qly i] at hK;have:2*(W / 2)*((2^(Rk a.p b.p+1):Nat):Rat)*2=2*W*((2^(Rk a.p b.p+1):Nat):Rat):=by clear step ih hw1 hw2; grind
    clear step ih hw1 hw2; grind
def CmpOk (a b:Tm) (c:Int):Prop:=c=-1/\Pj a b\/c=0/\TEq a b\/c=1/\Pj b a
theorem Va.hv0 {t:Tm} (h:Va t):∃ D M k,Hv t D M k t/\0<M/\Ul (D:Int)+Ul (M:Int)+k<=1000000:=by
 obtain ⟨D,M,k,h1,h2,h3,h4⟩:=h.g;exact ⟨D,M,k,⟨rfl,h.i,λ_=>rfl,h1,h2⟩,h3,h4⟩
theorem Qvb {a:Tm} (ha:Va a) (hp:a.point=true) (q:Rat):Up a q=U8 a.lo q:=D6 (ha.pt hp).1 q
theorem Q4m {a b:Tm} (hb:Va b) {x:Rat} (hx:∀ q,Up a q=U8 x q):CmpOk a b (-Up b x):=by
 have cb:=hb.cut;rcases cb.val x with h | h | h
 ·obtain ⟨q,q1,q2⟩:=cb.up x h;refine .inl ⟨by omega,q,?_,q2⟩;rw [hx]; rcases Rq x q with ⟨e,e'⟩ | ⟨e,e'⟩ | ⟨e,e'⟩ <;> grind
 ·exact .inr (.inl ⟨by omega,λq=>by rw [hx,Qqd cb h]⟩)
 ·obtain ⟨q,q1,q2⟩:=cb.dn x h;refine .inr (.inr ⟨by omega,q,q2,?_⟩);rw [hx]; rcases Rq x q with ⟨e,e'⟩ | ⟨e,e'⟩ | ⟨e,e'⟩ <;> grind
theorem CmpOk.symm {a b:Tm} {c:Int} (h:CmpOk a b c):CmpOk b a (-c):=by
 rcases h with ⟨h1,h2⟩ | ⟨h1,h2⟩ | ⟨h1,h2⟩
 ·exact .inr (.inr ⟨by omega,h2⟩)
 ·exact .inr (.inl ⟨by omega,λq=>(h2 q).symm⟩)
 ·exact .inl ⟨by omega,h2⟩
theorem Zkc:Szz 9 1000:=⟨by decide,by decide⟩
theorem Qcd (g:List Int) (lo hi:Rat):Qcc g lo hi=true↔Qui (cz g) lo hi:=by
 unfold Qcc Qui;rw [decide_eq_true_iff,Tu,Qra,Ue]
theorem Qqu {g:List Int} (tg:Uf g) (hn:g.length≠0) {lo hi:Rat} (h:Qui (cz g) lo hi):1<g.length:=by
 rcases Q6 1 g.length with e | e
 ·exact e
 ·exfalso;obtain ⟨c,rfl⟩:∃ c,g=[c]:=Yp.1 (by omega);have hc:c≠0:=by have:=Gi tg (by simp); simpa using this
  have hv:∀ t,ev (cz [c]) t=(c:Rat):=λt=>by rw [Ue]; simp only [Ug]; grind
  have hs:Uo (c:Rat)≠0:=λh=>Al hc (Fa.1 h)
  unfold Qui at h;rw [hv,Dk (by rw [hv]; exact hs),hv] at h;rcases h with h | h
  ·exact hs h
  ·exact h rfl
theorem Qbc {q:Rat}:Uk q<=((2^Ul q.num:Nat):Rat):=by
 have h1:Ul q.num<=Ul q.num:=Qj _;rw [Rh] at h1;have e:(q.num:Rat)=q*(q.den:Rat):=by
  have:(q.num:Rat) / (((q.den:Int)):Rat)=q:=by rw [Gg,Zq]
  have h2:(q.num:Rat) / (q.den:Rat)*(q.den:Rat)=q.num:=Zi (by have:=nat_pos q.den_pos; grind);rw [show (q.num:Rat) / (q.den:Rat)=q from this] at h2; exact h2.symm
 have hd:(1:Rat)<=(q.den:Rat):=by
  have:((1:Nat):Rat)<=(q.den:Rat):=Zb.2 q.den_pos;exact this
 have h2:Uk q<=Uk (q.num:Rat):=by
  rw [e,Cn];have:Uk (q.den:Rat)=(q.den:Rat):=by unfold Uk; rw [if_neg (by grind)]
  rw [this];have:=S0 (a:=Uk q) (c:=1) (Gj q) Qn (by decide) hd;grind
 rw [Ry] at h2;exact Q7 h2 (Zb.2 (Jt h1))
theorem Qe7 {a:Tm} {w:Nat} (h:Ul a.lo.num+Ul a.hi.num<=w):a.hi-a.lo<=((2^(w+1):Nat):Rat):=by
 have h1:=Qbc (q:=a.lo);have h2:=Qbc (q:=a.hi);have h3:((2^Ul a.lo.num:Nat):Rat)<=((2^w:Nat):Rat):=Zb.2 (Zo (by decide) (by omega));have h4:((2^Ul a.hi.num:Nat):Rat)<=((2^w:Nat):Rat):=Zb.2 (Zo (by decide) (by omega));rw [Qly];rw [Rm] at h1 h2;grind
theorem Eu {p:List Int} {s:Nat} (h:Bd s p):Fq p<=s:=by
 have:=S7 h p.length; rwa [Za] at this
theorem Q8l {a b:Tm} (ha:Va a) (hb:Va b) (pa:a.point=false) (pb:b.point=false):Sf a b<=9000000:=by
 have q1:=ha.qs; have q2:=hb.qs;have l1:=ha.n; have l2:=hb.n;have s1:=Eu (ha.bi pa); have s2:=Eu (hb.bi pb);have b1:=q1.1.1; have b2:=q1.2.1; have b3:=q2.1.1; have b4:=q2.2.1;have:4*(a.p.length+b.p.length)*(Fq a.p+Fq b.p+(a.p.length+b.p.length)+8)<=4*18*2100:=Zt (by omega) (by omega);unfold Sf; omega
theorem Q2h {a b:Tm} (ha:Va a) (hb:Va b) (pa:a.point=false) (pb:b.point=false) (hne:¬TEq a b):∃ r,apF (Sf a b) a b=some r/\Ze9 a b r:=by
 obtain ⟨D,M,k,h1,h2,h3⟩:=ha.hv0;obtain ⟨D',M',k',h1',h2',h3'⟩:=hb.hv0;have hst:=Q8l ha hb pa pb;obtain ⟨w,hw⟩:=nmE (Ul a.lo.num+Ul a.hi.num+Ul b.lo.num+Ul b.hi.num);obtain ⟨K,hK⟩:=nmE (Fq a.p+Fq b.p+(a.p.length+b.p.length)+8);obtain ⟨n,hn⟩:=nmE (a.p.length+b.p.length);have l1:=ha.n2; have l2:=hb.n2;have hsteps:Sf a b=64+2*w+4*n*K:=by unfold Sf; rw [hw,hK,hn]
 have hg:Rk a.p b.p=K*(2*(n-2)-1):=by unfold Rk; rw [hK,hn]
 have hgle:Rk a.p b.p+5*K<=2*n*K:=by
  rw [hg,Zf K,<-Ji];exact Qw _ (by omega)
 have hKp:8<=K:=by omega
 refine Zio ha hb hne h2 h2' (31+w+2*n*K) (Sf a b) a b k k' ((2^(w+1):Nat):Rat) ?_ h1 h1' (by omega) (by omega) (Qe7 (by omega)) (Qe7 (by omega)) ?_
 ·rw [hsteps,Xu,Xo 4,Xo 2 n]; omega
 ·have e:2*(2^(w+1))*(2^(Rk a.p b.p+1))<=2^(31+w+2*n*K):=by
   rw [Zf 2,<-Zk,<-Xe];exact Zo (by decide) (by omega)
  have:=Zb.2 e
  push_cast at this ⊢
  exact this
theorem O5 {a b:Tm} (ha:Va a) (hb:Va b):∃ c,Qf4 a b=some c/\CmpOk a b c:=by
 unfold Qf4;by_cases pa:a.point=true
 ·rw [if_pos pa];exact ⟨_,rfl,Q4m hb (Qvb ha pa)⟩
 rw [if_neg pa];by_cases pb:b.point=true
 ·rw [if_pos pb];have:=(Q4m ha (Qvb hb pb)).symm;rw [Int.neg_neg] at this;exact ⟨_,rfl,this⟩
 rw [if_neg pb];have pa:a.point=false:=by simpa using pa
 have pb:b.point=false:=by simpa using pb
 obtain ⟨L,V⟩:=ha.iv pa;obtain ⟨L',V'⟩:=hb.iv pb;have eqa:∀ q,Up a q=cq (cz a.p) a.lo a.hi q:=Tc V.l;have eqb:∀ q,Up b q=cq (cz b.p) b.lo b.hi q:=Tc V'.l;obtain ⟨lo,hlo⟩:=nmE (if 0<U8 b.lo a.lo then b.lo else a.lo);obtain ⟨hi,hhi⟩:=nmE (if U8 b.hi a.hi<0 then b.hi else a.hi);show ∃ c,(if U8 (if 0<U8 b.lo a.lo then b.lo else a.lo) (if U8 b.hi a.hi<0 then b.hi else a.hi)<0 then _ else _)=some c/\_;rw [<-hlo,<-hhi];have e1:(0<U8 b.lo a.lo)=(a.lo<b.lo):=propext Pe;have e2:(U8 b.hi a.hi<0)=(b.hi<a.hi):=propext Bb;have e3:(U8 lo hi<0)=(lo<hi):=propext Bb;simp only [e1] at hlo;simp only [e2] at hhi;simp only [e3];obtain ⟨g,g1,g2,g3,g4⟩:=Q5q Zkc ha.tr hb.tr ha.n hb.n (ha.bi pa) (hb.bi pb) (by have:=ha.n2; omega);obtain ⟨U,W,hc⟩:=g2.c;obtain ⟨u,hu⟩:=g2.da;obtain ⟨u',hu'⟩:=g2.db;have key:=V.same V' (g:=cz g) (u:=u) (u':=u') (U:=U) (W:=W) (k:=1) (by decide) hu hu' (λt=>by rw [Ue,Ue,Ue,hc]; grind) (a:=lo) (b:=hi) (by rw [hlo]; split <;> grind) (by rw [hlo]; split <;> grind) (by rw [hlo]; split <;> simp) (by rw [hhi]; split <;> grind) (by rw [hhi]; split <;> grind) (by rw [hhi]; split <;> simp);have hTE:(∀ q,cq (cz a.p) a.lo a.hi q=cq (cz b.p) b.lo b.hi q)↔TEq a b:=by
  unfold TEq; constructor
  ·intro h q; rw [eqa,eqb]; exact h q
  ·intro h q; rw [<-eqa,<-eqb]; exact h q
 rw [hTE] at key;have fin:¬TEq a b->∃ c,((apF (Sf a b) a b).bind λr=>some r.2.2)=some c/\CmpOk a b c:=λhne=>by
  obtain ⟨r,r1,r2⟩:=Q2h ha hb pa pb hne;refine ⟨r.2.2,by rw [r1]; rfl,?_⟩;rcases r2 with h | h
  ·exact .inl h
  ·exact .inr (.inr h)
 by_cases hl:lo<hi
 ·rw [if_pos hl,g1];show ∃ c,(if 1<g.length/\Qcc g lo hi=true then some 0 else (apF (Sf a b) a b).bind λr=>some r.2.2)=some c/\_;by_cases hh:Qcc g lo hi=true
  ·have hq:=(Qcd g lo hi).1 hh;rw [if_pos ⟨Qqu g2.t g2.n hq,hh⟩];exact ⟨0,rfl,.inr (.inl ⟨rfl,key.1 ⟨hl,hq⟩⟩)⟩
  ·rw [if_neg λh=>hh h.2];exact fin λh=>hh ((Qcd g lo hi).2 (key.2 h).2)
 ·rw [if_neg hl];exact fin λh=>hl (key.2 h).1
def SgT (p:List Int) (a:Tm) (s:Int):Prop:=s=0/\Lz (cz p) (Up a)\/s≠0/\NZ (cz p) (Up a) s
theorem Zhl {p:List Int} {c:Rat->Int} (hc:Cut c) {x:Rat} (h:c x=0):U5 p x=0/\Lz (cz p) c\/U5 p x≠0/\NZ (cz p) c (U5 p x):=by
 rw [Tu,<-Ue];rcases Oy hc (cz p) with h1 | ⟨s,hs,h1⟩
 ·exact .inl ⟨Fa.2 (Qe6 hc h h1),h1⟩
 ·have:=Qrp hc h h1;rw [this]; exact .inr ⟨hs,h1⟩
theorem C7 {l:List (List Int)} {lo hi:Rat} (h:lo<=hi):Gx l lo hi=(vv (l.map cz) lo:Int)-(vv (l.map cz) hi:Int):=by
 unfold Gx;rw [if_neg λh'=>by have:=Bb.1 h'; grind,A0,A0]
theorem Zhm {p q:List Int} {L:List (List Rat)} (hp:Uf p) (np:p.length<=9) (lp:2<=p.length) (hS:Stm (cz q) L) (hpq:A6 (cz q) (cz p)) {a:Tm} (ha:Va a) {s:Int} (hnz:NZ (cz p) (Up a) s) {D M k:Nat} {x:Tm} (hx:Hv a D M k x) (hl:x.lo<x.hi) (hv:vv L x.lo≠vv L x.hi):1<(x.hi-x.lo)*((2^(Rk a.p p+1):Nat):Rat):=by
 rcases Uy ((x.hi-x.lo)*((2^(Rk a.p p+1):Nat):Rat)) 1 with hw | hw
 ·exfalso;have ca:=ha.cut;obtain ⟨d,dp,x1,y1,c1,c2,hn⟩:=hnz;obtain ⟨x2,x12,c3⟩:=ca.up x1 c1;obtain ⟨y2,y12,c4⟩:=ca.dn y1 c2;have hpow:(0:Rat)<=((2^(Rk a.p p+1):Nat):Rat):=Xn;obtain ⟨z,zp,z1,z2⟩:=min2 (a:=x2-x1) (b:=y1-y2) (by clear hn; grind) (by clear hn; grind);obtain ⟨R0,hR0,r1,r2⟩:=Qmn x.lo x.hi;obtain ⟨u,hu⟩:=hpq;refine Q5i (R:=R0+1) (d:=z) ha.tr hp ha.n np ha.n2 lp (by clear hn; grind) zp λe ep=>?_
  obtain ⟨q0,q1,q2,q3,q4,q5⟩:∃ q0,x.lo<=q0/\q0<=x.hi/\x2<=q0/\q0<=y2/\Uk (Ug a.p q0)<e:=by
   rcases hx.lo' with h1 | ⟨h1,h2⟩
   ·obtain ⟨x',y',hx',hy',hq⟩:=ha.van e ep;obtain ⟨m,m1,m2,m3,m4⟩:∃ m,Up a m=1/\x.lo<=m/\x2<=m/\x'<=m:=by
     rcases Uy x.lo x2 with e1 | e1
     ·rcases Uy x2 x' with e2 | e2
      ·exact ⟨x',hx',by clear hn hq; grind,e2,Qn⟩
      ·exact ⟨x2,c3,e1,Qn,Qo e2⟩
     ·rcases Uy x.lo x' with e2 | e2
      ·exact ⟨x',hx',e2,by clear hn hq; grind,Qn⟩
      ·exact ⟨x.lo,h1,Qn,Qo e1,Qo e2⟩
    refine ⟨m,m2,?_,m3,Qo (ca.lt m1 c4),by rw [<-Ue]; exact hq m m4 (Qo (ca.lt m1 hy'))⟩;rcases hx.hi' with h3 | h3
    ·rcases Uy m x.hi with e1 | e1
     ·exact e1
     ·have:=ca.mono x.hi m e1 (by omega); omega
    ·exact Qo (ca.lt m1 h3)
   ·exact absurd h2 (by clear hn; grind)
  obtain ⟨b,hb⟩:=nmE (evB R0 u);have hb0:0<=b:=by rw [hb]; exact Ag hR0 u
  obtain ⟨f,fp,_,hf⟩:=Fz (b:=b) (d:=if e<=d then e else d) hb0 (by split <;> assumption);obtain ⟨r,r3,r4,r5⟩:=Qo5 hS hl hv fp;have hrR:Uk r<=R0:=Qce r1 r2 r3 r4;have hpr:Uk (Ug p r)<(if e<=d then e else d):=by
   rw [<-Ue,hu];have:=Fw (Qo r5) (Qfg hrR u);rw [<-hb] at this;exact Jr.1 λh=>absurd (Q7 h this) (Jr.2 hf)
  have hpe:Uk (Ug p r)<e:=by split at hpr <;> (clear hn; grind)
  have hpd:Uk (Ug p r)<d:=by split at hpr <;> (clear hn; grind)
  have hrout:r<x1\/y1<r:=by
   rcases Uy x1 r with e1 | e1
   ·rcases Uy r y1 with e2 | e2
    ·have:=(hn r e1 e2).2;rw [Ue] at this;exact absurd this (Jr.2 hpd)
    ·exact .inr e2
   ·exact .inl e1
  have hqr:z<=Uk (q0-r):=by
   clear hn;rcases hrout with h | h
   ·have:Uk (q0-r)=q0-r:=by unfold Uk; split <;> grind
    rw [this]; grind
   ·have:Uk (q0-r)=r-q0:=by unfold Uk; split <;> grind
    rw [this]; grind
  have hq0R:Uk q0<=R0:=Qce r1 r2 q1 q2;refine ⟨q0,r,by clear hn; grind,by clear hn; grind,hqr,?_,q5,hpe⟩;have h1:Uk (q0-r)<=x.hi-x.lo:=by rw [Rm]; clear hn; constructor <;> grind
  exact Q7 (Q4 h1 hpow) hw
 ·exact hw
theorem Q79 {p q:List Int} {l:List (List Int)} (hp:Uf p) (np:p.length<=9) (lp:2<=p.length) (hS:Stm (cz q) (l.map cz)) (hpq:A6 (cz q) (cz p)) {a:Tm} (ha:Va a) {s:Int} (hnz:NZ (cz p) (Up a) s) {D M:Nat} (hM:0<M):∀ (j i:Nat) (x:Tm) (k:Nat) (W:Rat),i+1<=j->Hv a D M k x->Ul (D:Int)+Ul (M:Int)+(k+j)<=16777216->x.hi-x.lo<=W->W*((2^(Rk a.p p+1):Nat):Rat)<=((2^i:Nat):Rat)->∃ u k',sgF l j x=some u/\Hv a D M k' u/\(u.point=true\/Gx l u.lo u.hi=0)
 | 0,i,x,k,W,h,_,_,_,_=>by omega
 |
  j+1,i,x,k,W,hj,hx,hs,hW,hK=>by
  simp only [sgF];by_cases h:x.point=true\/Gx l x.lo x.hi=0
  ·rw [if_pos h]; exact ⟨x,k,rfl,hx,h⟩
  ·rw [if_neg h];obtain ⟨v,v1,v2,v3,_⟩:=Qnm hx hM (by omega);rw [v1];show ∃ u k',sgF l j v=some u/\_;have hpt:¬x.hi<=x.lo:=λh'=>h (.inl (Tz.2 h'))
   have hl:x.lo<x.hi:=by grind
   have hvv:vv (l.map cz) x.lo≠vv (l.map cz) x.hi:=λh'=>h (.inr (by rw [C7 (Qo hl)]; omega))
   have hg:=Zhm hp np lp hS hpq ha hnz hx hl hvv;have hpow:(0:Rat)<=((2^(Rk a.p p+1):Nat):Rat):=Xn;have hd:∀ x:Rat,x / 2*2=x:=λx=>Fb (by decide)
   cases i with
   |
    zero =>
    exfalso;rw [Yx] at hK;have:=Q4 hW hpow;have h7:((1:Nat):Rat)=1:=rfl;rw [h7] at hK;grind
   |
    succ i =>
    refine Q79 hp np lp hS hpq ha hnz hM j i v (k+1) (W / 2) (by omega) v2 (by omega) ?_ ?_
    ·have:=hd (x.hi-x.lo); have:=hd W; grind
    ·rw [Qly i] at hK;have:=hd W;have:W / 2*((2^(Rk a.p p+1):Nat):Rat)*2=W*((2^(Rk a.p p+1):Nat):Rat):=by grind
     grind
theorem Qrv {x y:Rat}:∀ {ws:List (List Rat)},(∀ w∈ws,Uo (ev w x)=Uo (ev w y))->Uo (ev (El ws) x)=Uo (ev (El ws) y)
 | [],_=>by simp only [El]; rw [Hu,Hu]
 |
  w::l,h=>by
  simp only [El];rw [Ui,Ui,Rw,Rw,h w (Qt ..),Qrv λv hv=>h v (Ql _ hv)]
theorem Q09 {p q o:List Int} (hpt:Parts p q o) (tp:Uf p) (hp:p.length≠0) {L:List (List Rat)} (hS:Stm (cz q) L) {x y:Rat} (hxy:x<y) (hv:vv L x=vv L y):∃ s,s≠0/\∀ z,x<z->z<=y->Uo (Ug p z)=s:=by
 obtain ⟨ws,w1,w2⟩:=hpt.ws;obtain ⟨_,_,_,_,_,p6,p7⟩:=Ru tp hp;have key:∀ z,x<z->z≤y->∀ w∈ws.map cz,Sm w x z:=λz h1 h2 w hw=>by
  obtain ⟨v,hv',rfl⟩:=Zg.1 hw;obtain ⟨u,hu⟩:=(w1 v hv').2;have a1:=Dx hS h1;have a2:vv L y<=vv L z:=by
   rcases Classical.em (z=y) with e | e
   ·rw [e]; exact Qj _
   ·exact Dx hS (by grind)
  exact Qa3 hS hu h1 (by omega)
 have hval:∀ z,Ug p z=(Fo p:Rat)*ev (El (ws.map cz)) z:=λz=>by rw [p7,w2]
 refine ⟨Uo (Ug p y),λh0=>?_,λz h1 h2=>?_⟩
 ·rw [hval,Rw] at h0;rcases Ya.1 h0 with h | h
  ·exact Al p6 (Fa.1 h)
  ·have:∀ l:List (List Rat),(∀ w∈l,Uo (ev w y)≠0)->Uo (ev (El l) y)≠0:=by
    intro l
    induction l with
    | nil=>intro _; simp only [El]; rw [Hu]; decide
    |
     cons w l ih =>
     intro h;simp only [El];rw [Ui,Rw];exact Jh (h w (Qt ..)) (ih λv hv=>h v (Ql _ hv))
   refine this _ (λw hw=>?_) h;have hs:=key y hxy Qn w hw;rw [hs.s]; exact hs.n
 ·rw [hval,hval,Rw,Rw,Qrv (y:=y) λw hw=>(key z h1 h2 w hw).s.trans (key y hxy Qn w hw).s.symm]
theorem Zgo {g p P:List Int} {c:Rat->Int} (hc:Cut c) (hg:Gc g p P):Lz (cz g) c↔Lz (cz p) c/\Lz (cz P) c:=by
 constructor
 ·intro h;obtain ⟨u,hu⟩:=hg.da;obtain ⟨v,hv⟩:=hg.db;exact ⟨Sp hc hu h,Sp hc hv h⟩
 ·rintro ⟨h1,h2⟩
  obtain ⟨U,V,hcc⟩:=hg.c;have a1:Lz (Fl U (cz p)) c:=Sp hc (p:=cz p) (q:=U) (λt=>by rw [Ui]; grind) h1;have a2:Lz (Fl V (cz P)) c:=Sp hc (p:=cz P) (q:=V) (λt=>by rw [Ui]; grind) h2;exact Qg8 (λt=>by rw [Ue,hcc,Ui,Ui,Ue,Ue]) a1 a2
theorem Q8f {p:List Int} (hp:Okp 9 900 p) {a:Tm} (ha:Va a):∃ s,Qjl p a=some s/\SgT p a s:=by
 unfold Qjl;rw [if_neg hp.nz];have ca:=ha.cut;by_cases pa:a.point=true
 ·rw [if_pos pa];exact ⟨_,rfl,Zhl ca (x:=a.lo) (by rw [Qvb ha pa,Np])⟩
 rw [if_neg pa];have pa:a.point=false:=by simpa using pa
 obtain ⟨L,V⟩:=ha.iv pa;have eqa:∀ q,Up a q=cq (cz a.p) a.lo a.hi q:=Tc V.l;obtain ⟨g,g1,g2,g3,g4⟩:=Q5q Zkc hp.t ha.tr hp.l ha.n (W9 hp.b (by omega)) (ha.bi pa) hp.nz;obtain ⟨u',hu'⟩:=g2.db;have hhas:=V.has hu' (a:=a.lo) (b:=a.hi) Qn V.l Qn;have hvan:=Zgo ca g2;rw [show cq (cz a.p) a.lo a.hi=Up a from (funext eqa).symm] at hhas;rw [g1];show ∃ s,(if 1<g.length/\Qcc g a.lo a.hi=true then some 0 else _)=some s/\_;by_cases hh:Qcc g a.lo a.hi=true
 ·have hq:=(Qcd g _ _).1 hh;rw [if_pos ⟨Qqu g2.t g2.n hq,hh⟩];exact ⟨0,rfl,.inl ⟨rfl,(hvan.1 (hhas.1 hq).1).1⟩⟩
 ·rw [if_neg λh=>hh h.2];have hnv:¬Lz (cz p) (Up a):=λh=>hh ((Qcd g _ _).2 (hhas.2 ⟨hvan.2 ⟨h,ha.van⟩,by rw [eqa]; exact Ni Qn,by rw [eqa]; exact V.hi1⟩))
  rcases Oy ca (cz p) with h | ⟨s,hs0,hnz⟩
  ·exact absurd h hnv
  obtain ⟨q,o,q1,q2,hpt⟩:=Quw hp;obtain ⟨q',l,r1,r2,hS,hl0⟩:=chain_ok hp;rw [q1] at r1;injection r1 with r1;subst r1;rw [r2];show ∃ s,((sgF (q::l) (64+2*(Ul a.lo.num+Ul a.hi.num)+4*(a.p.length+p.length)*(Fq a.p+Fq p+(a.p.length+p.length)+8)) a).bind λx=>some (U5 p x.hi))=some s/\_;obtain ⟨w,hw⟩:=nmE (Ul a.lo.num+Ul a.hi.num);obtain ⟨K,hK⟩:=nmE (Fq a.p+Fq p+(a.p.length+p.length)+8);obtain ⟨n,hn⟩:=nmE (a.p.length+p.length);rw [<-hw,<-hK,<-hn];obtain ⟨gg,sq⟩:=hpt.sq;obtain ⟨_,_,_,_,_,pf0,pfe⟩:=Ru hp.t hp.nz;have hpq:A6 (cz q) (cz p):=⟨Pq (Fo p) (cz gg),λt=>by rw [Ue,Ue,Uw,Ue,pfe,sq.e]; grind⟩;obtain ⟨D,M,k,h1,h2,h3⟩:=ha.hv0;have b1:=ha.qs.1.1; have b2:=ha.qs.2.1;have l1:=ha.n; have l2:=hp.l; have l3:=ha.n2;have s1:=Eu (ha.bi pa); have s2:=Eu hp.b;have hst:4*n*K<=4*18*1926:=Zt (by omega) (by omega);have hend:∃ u k',sgF (q::l) (64+2*w+4*n*K) a=some u/\Hv a D M k' u/\(u.point=true\/Gx (q::l) u.lo u.hi=0):=by
   by_cases hpl:p.length<2
   ·have hq1:(Uh p)=[1]:=hp.pr.1.one (by have:=hp.pr.2.1; omega);have hql:q.length<2:=by
     have e:=sq.e;rw [hq1] at e;obtain ⟨p1,p2⟩:=Hd (c:=[1]) rfl (by simp) e;have:=Sk sq.pg.t sq.pq.t (c:=[1]) rfl e p1 p2;simp at this; omega
    have hbt:Gx (q::l) a.lo a.hi=0:=by
     rw [C7 (Qo V.l),hl0 hql,sq.pq.one hql];have hv1:∀ x:Rat,ev (cz [1]) x=1:=λx=>by rw [Ue,P8]
     simp only [Zv,Jg,vv,tc,hv1]; omega
    refine ⟨a,k,?_,h1,.inr hbt⟩;obtain ⟨m,hm⟩:∃ m,64+2*w+4*n*K=m+1:=⟨63+2*w+4*n*K,by omega⟩;rw [hm];simp only [sgF];rw [if_pos (.inr hbt)]
   ·have hg:Rk a.p p=K*(2*(n-2)-1):=by unfold Rk; rw [hK,hn]
    have hgle:Rk a.p p+5*K<=2*n*K:=by
     rw [hg,Zf K,<-Ji];exact Qw _ (by omega)
    have hKp:8<=K:=by omega
    have hnK:2*n*K<=4*n*K:=Qw _ (by omega);obtain ⟨u,k',u1,u2,u3⟩:=Q79 hp.t hp.l (by omega) hS hpq ha hnz h2 (64+2*w+4*n*K) (2+w+2*n*K) a k ((2^(w+1):Nat):Rat) (by omega) h1 (by omega) (Qe7 (by omega)) (by
     have e:(2^(w+1))*(2^(Rk a.p p+1))<=2^(2+w+2*n*K):=by
      rw [<-Xe];exact Zo (by decide) (by omega)
     have:=Zb.2 e
     push_cast at this ⊢
     exact this)
    exact ⟨u,k',u1,u2,u3⟩
  obtain ⟨u,k',u1,u2,u3⟩:=hend;rw [u1];refine ⟨_,rfl,.inr ?_⟩;have hfin:U5 p u.hi=s:=by
   rcases u2.hi' with hz | hz
   ·have:=Qrp ca hz hnz;rw [Tu,<-Ue]; exact this
   ·rcases u2.i with ⟨e,_⟩ | ⟨L',V'⟩
    ·have:=u2.c u.hi;rw [D6 e,e,Np] at this; omega
    ·have hup:u.point=false:=by
      have:¬u.point=true:=λh=>by have:=Tz.1 h; have:=V'.l; grind
      simpa using this
     rcases u3 with h | h
     ·rw [hup] at h; cases h
     ·rw [C7 (Qo V'.l)] at h;obtain ⟨s',hs',hps⟩:=Q09 hpt hp.t hp.nz hS V'.l (by omega);obtain ⟨d,dp,x,y,hx,hy,hq⟩:=hnz;have hlo1:Up a u.lo=1:=by
       rcases u2.lo' with h | ⟨_,h⟩
       ·exact h
       ·have:=V'.l; clear hps hq; grind
      obtain ⟨m,m1,m2,m3⟩:=Qhw ca hlo1 hx;have e1:=(hq m (Qo m3) (Qo (ca.lt m1 hy))).1;have e2:=hps m m2 (Qo (ca.lt m1 hz));have e3:=hps u.hi V'.l Qn;rw [Tu,e3,<-e2,<-Ue,e1]
  rw [hfin]; exact ⟨hs0,hnz⟩
structure Dp (p:List Int):Prop where
 t:Uf p
 l:p.length<=9
 b:Bd (860+4*(9-p.length)) p
theorem Qn8:Szz 9 973:=⟨by decide,by decide⟩
theorem Dp.ok {p:List Int} (h:Dp p) (h0:p.length≠0):Okp 9 900 p:=⟨Qn8,h.t,h0,h.l,W9 h.b (by omega)⟩
theorem Dp.der {p:List Int} (h:Dp p):Dp (U3 p):=by
 have hl:=Te p;have hl2:=h.l;refine ⟨Ut _ _,by omega,?_⟩;by_cases h0:p.length=0
 ·rw [Qh (l:=U3 p) (by omega)]; exact Im
 ·exact W9 (Qmq h.b (by omega)) (by omega)
def Re (a:Tm) (p:List Int):Int:=(Qjl p a).getD 0
theorem Q77 {p:List Int} (h:Dp p) {a:Tm} (ha:Va a):Qjl p a=some (Re a p)/\SgT p a (Re a p):=by
 by_cases h0:p.length=0
 ·have e:p=[]:=Qh h0;subst e;refine ⟨rfl,.inl ⟨rfl,λd dp=>?_⟩⟩;obtain ⟨x,y,h1,h2,_⟩:=ha.cut.near (e:=1) (by decide);exact ⟨x,y,h1,h2,λq _ _=>by simp only [cz,Jg,ev,G9]; exact dp⟩
 ·obtain ⟨s,h1,h2⟩:=Q8f (h.ok h0) ha;have e:Re a p=s:=by unfold Re; rw [h1]; rfl
  rw [e]; exact ⟨h1,h2⟩
theorem Zhi {c:Rat->Int} {p q:List Rat} {s:Int} (h:∀ t,ev p t=ev q t) (hp:RS p c s):RS q c s:=by
 obtain ⟨y,h1,h2⟩:=hp;exact ⟨y,h1,λz h3 h4=>by rw [<-h]; exact h2 z h3 h4⟩
theorem Qlc {a:Tm} (ha:Va a):∀ (k:Nat) (p:List Int),Dp p->p.length<=k->p.length≠0->RS (cz p) (Up a) (To (Re a) k p)/\To (Re a) k p≠0
 | 0,p,_,h1,h2=>by omega
 |
  k+1,p,h,h1,h2=>by
  simp only [To];rw [if_neg h2];obtain ⟨_,hs⟩:=Q77 h ha;rcases hs with ⟨e,hv⟩ | ⟨e,hn⟩
  ·rw [if_pos e];have hdn:(U3 p).length≠0:=λh0=>by
    by_cases h3:p.length=1
    ·obtain ⟨c,rfl⟩:∃ c,p=[c]:=Yp.1 h3;have hc:c≠0:=by have:=Gi h.t (by simp); simpa using this
     obtain ⟨q,hq,_⟩:=Qrl ha.cut (hv (Uk (c:Rat)) (M7 (Al hc)));rw [Ue] at hq;have:Ug [c] q=(c:Rat):=by simp only [Ug]; grind
     rw [this] at hq; grind
    ·have h4:=Ty p (p.length-2);rw [Qh h0,show p.length-2+1=p.length-1 by omega] at h4;have h5:p.getD (p.length-1) 0≠0:=Gi h.t (by omega);rcases Ya.1 (h4.symm.trans (by simp)) with h6 | h6
     ·exact h5 h6
     ·omega
   have hl:=Te p;obtain ⟨i1,i2⟩:=Qlc ha k (U3 p) h.der (by omega) hdn;exact ⟨Qos ha.cut hv (Zhi (λt=>by rw [Ue,Dn,Hp]) i1) i2,i2⟩
  ·rw [if_neg e]; exact ⟨Ql5 ha.cut hn,e⟩
theorem Qca {a:Tm} (ha:Va a) {p:List Int} (h:Dp p) (h0:p.length≠0):RS (cz p) (Up a) (B6 (Re a) p)/\B6 (Re a) p≠0:=Qlc ha _ p h (Qj _) h0
theorem Qim {a:Tm}:B6 (Re a) []=0:=rfl
theorem Zb6 {l:List Int}:∀ z∈l,z.natAbs≤most l:=by
 have key:∀ (l:List Int) (m:Nat),m≤l.foldl (λm z=>if m<z.natAbs then z.natAbs else m) m/\∀ z∈l,z.natAbs≤l.foldl (λm z=>if m<z.natAbs then z.natAbs else m) m:=by
  intro l
  induction l with
  | nil=>exact λm=>⟨Qj _,λz hz=>by cases hz⟩
  |
   cons y l ih =>
   intro m;obtain ⟨e,he⟩:=nmE (if m<y.natAbs then y.natAbs else m);have h1:m<=e/\y.natAbs<=e:=by rw [he]; split <;> omega
   obtain ⟨i1,i2⟩:=ih e;simp only [Xk];rw [<-he];refine ⟨by omega,λz hz=>?_⟩;rcases Qx.1 hz with rfl | hz
   ·omega
   ·exact i2 z hz
 exact (key l 0).2
theorem Qhe {p:List Int} (h:Un p≠0):Fp p*((Un p).natAbs:Rat)=((Un p).natAbs:Rat)+((most (p.take (p.length-1)):Nat):Rat):=by
 unfold Fp;rw [<-Gg];have hp:0<(Un p).natAbs:=by omega
 have:=nat_pos hp;rw [show ((((Un p).natAbs:Int)):Rat)=((Un p).natAbs:Rat) from rfl,Fb this];rw [V6]; rfl
theorem Qxy {m:Nat} {x:Rat} (hx:1≤Uk x):∀ (p:List Int) (lp:p.length≠0),(∀ z∈p.take (p.length-1),z.natAbs≤m)->Un p≠0->(m:Rat)≤(Uk x-1)*((Un p).natAbs:Rat)->((Un p).natAbs:Rat)≤Ug p x*(((Int.sign (Un p))*(if x<0/\p.length % 2=0 then -1 else 1):Int):Rat)
 | [],lp,_,_,_=>absurd rfl lp
 |
  [c],_,_,hc,_=>by
  have hl:Un [c]=c:=rfl;rw [hl] at hc ⊢;rw [if_neg (by simp),K8];have h1:Ug [c] x=(c:Rat):=by simp only [Ug]; grind
  rw [h1];have h2:c*Int.sign c=(c.natAbs:Int):=Int.mul_sign_self c;have:=congrArg (λz:Int=>(z:Rat)) h2;rw [Xz] at this;rw [this]; exact Qn
 |
  c::d::p,_,hm,hc,hb=>by
  have hl:Un (c::d::p)=Un (d::p):=by unfold Un; simp [List.getD_cons_succ]
  have ih:=Qxy hx (d::p) (by simp) (λz hz=>hm z (by
   have e:(c::d::p).take ((c::d::p).length-1)=c::(d::p).take ((d::p).length-1):=by simp
   rw [e]; exact Ql _ hz)) (by rw [<-hl]; exact hc) (by rw [<-hl]; exact hb)
  rw [hl] at hc hb ⊢;have hcm:=hm c (by simp);obtain ⟨s,hs⟩:∃ s:Int,s=Int.sign (Un (d::p)):=⟨_,rfl⟩;have hsv:s=1\/s=-1:=by
   rw [hs];rcases V7 hc with h | h
   ·exact .inr (X3 h)
   ·exact .inl (Jc h)
  rw [<-hs] at ih ⊢;obtain ⟨ld,hld⟩:∃ ld:Rat,ld=((Un (d::p)).natAbs:Rat):=⟨_,rfl⟩;rw [<-hld] at ih hb ⊢;have hcq:Uk (c:Rat)<=(m:Rat):=by rw [Ry]; exact Zb.2 hcm
  rw [Rm] at hcq;have e1:Ug (c::d::p) x=(c:Rat)+x*Ug (d::p) x:=rfl;rw [e1];have hlen:(c::d::p).length % 2=0↔¬(d::p).length % 2=0:=by simp only [Zc]; omega
  generalize Ug (d::p) x=y at *;generalize (m:Rat)=mm at *;generalize (c:Rat)=cc at *;have hx0:=hx;by_cases hneg:x<0
  ·have hq:Uk x=-x:=by unfold Uk; rw [if_pos hneg]
   rw [hq] at hx0 hb;by_cases hpar:(d::p).length % 2=0
   ·rw [if_pos ⟨hneg,hpar⟩] at ih;rw [if_neg λh=>(hlen.1 h.2) hpar];rcases hsv with rfl | rfl
    ·have ih:ld<=y*(-1):=by simpa using ih
     have:=Zl ih (show 0<=-x by grind);have e:(((1:Int)*1:Int):Rat)=1:=rfl;rw [e]; grind
    ·have ih:ld<=y*1:=by simpa using ih
     have:=Zl ih (show 0<=-x by grind);have e:(((-1:Int)*1:Int):Rat)=-1:=rfl;rw [e]; grind
   ·rw [if_neg λh=>hpar h.2] at ih;rw [if_pos ⟨hneg,hlen.2 hpar⟩];rcases hsv with rfl | rfl
    ·have ih:ld<=y*1:=by simpa using ih
     have:=Zl ih (show 0<=-x by grind);have e:(((1:Int)*-1:Int):Rat)=-1:=rfl;rw [e]; grind
    ·have ih:ld<=y*(-1):=by simpa using ih
     have:=Zl ih (show 0<=-x by grind);have e:(((-1:Int)*-1:Int):Rat)=1:=rfl;rw [e]; grind
  ·have hq:Uk x=x:=by unfold Uk; rw [if_neg hneg]
   rw [hq] at hx0 hb;rw [if_neg λh=>hneg h.1] at ih ⊢;rcases hsv with rfl | rfl
   ·have ih:ld<=y*1:=by simpa using ih
    have:=Zl ih (show 0<=x by grind);have e:(((1:Int)*1:Int):Rat)=1:=rfl;rw [e]; grind
   ·have ih:ld<=y*(-1):=by simpa using ih
    have:=Zl ih (show 0<=x by grind);have e:(((-1:Int)*1:Int):Rat)=-1:=rfl;rw [e]; grind
theorem Qtd {p:List Int} (tp:Uf p) (lp:p.length≠0) {x:Rat} (hx:Fp p<=Uk x):1<=Uk (Ug p x)/\(0<=x->U5 p x=Qb6 p)/\(x<0->U5 p x=If p):=by
 have hl:=Bf tp lp;have hpos:0<(Un p).natAbs:=by omega
 have h1:(1:Rat)<=((Un p).natAbs:Rat):=by
  have:((1:Nat):Rat)<=((Un p).natAbs:Rat):=Zb.2 hpos;exact this
 have hm0:(0:Rat)<=((most (p.take (p.length-1)):Nat):Rat):=Xn;have hb:=Qhe hl;have hx1:=Q4 hx (show (0:Rat)<=((Un p).natAbs:Rat) by grind);have hx2:1<=Uk x:=by
  rcases Uy 1 (Uk x) with h | h
  ·exact h
  ·exfalso;have:=Vq h (show (0:Rat)<((Un p).natAbs:Rat) by grind);grind
 have key:=Qxy (m:=most (p.take (p.length-1))) hx2 p lp (λz hz=>Zb6 z hz) hl (by grind);obtain ⟨s,hs⟩:∃ s:Int,s=Int.sign (Un p)*(if x<0/\p.length % 2=0 then -1 else 1):=⟨_,rfl⟩;rw [<-hs] at key;have hsv:s=1\/s=-1:=by
  rw [hs];rcases V7 hl with h | h
  ·rw [X3 h]; split <;> simp
  ·rw [Jc h]; split <;> simp
 have hsg:U5 p x=s/\1<=Uk (Ug p x):=by
  rw [Tu];rcases hsv with e | e
  ·rw [e] at key ⊢;have key:((Un p).natAbs:Rat)<=Ug p x:=by simpa using key
   exact ⟨Ha.2 (by grind),by unfold Uk; rw [if_neg (by grind)]; grind⟩
  ·rw [e] at key ⊢;have key:((Un p).natAbs:Rat)<=Ug p x*(-1):=by simpa using key
   exact ⟨Ti.2 (by grind),by unfold Uk; rw [if_pos (by grind)]; grind⟩
 refine ⟨hsg.2,λh=>?_,λh=>?_⟩
 ·rw [hsg.1,hs,if_neg λh'=>by have:=h'.1; grind]; unfold Qb6; omega
 ·rw [hsg.1,hs]; unfold If;by_cases he:p.length % 2=0
  ·rw [if_pos ⟨h,he⟩,if_pos he]; omega
  ·rw [if_neg λh'=>he h'.2,if_neg he]; omega
theorem Ow {f g:List Int->Int}:∀ {l:List (List Int)} (s:Nat×Int),(∀ p∈l,f p=g p)->l.foldl (Ht f) s=l.foldl (Ht g) s
 | [],s,_=>rfl
 |
  p::l,s,h=>by
  simp only [Xk];have e:Ht f s p=Ht g s p:=by unfold Ht; rw [h p (List.mem_cons_self ..)]
  rw [e]; exact Ow _ λq hq=>h q (Ql _ hq)
theorem Qxu:∀ (l:List (List Int)),(∀ p∈l,Uf p/\p.length≠0)->∃ X:Rat,0<X/\∀ x,X≤x->(∀ p∈l,U5 p x=Qb6 p)/\∀ p∈l,U5 p (-x)=If p
 | [],_=>⟨1,by decide,λx _=>⟨(λp hp=>by cases hp),(λp hp=>by cases hp)⟩⟩
 |
  p::l,h=>by
  obtain ⟨X,hX,hl⟩:=Qxu l λq hq=>h q (Ql _ hq)
  obtain ⟨tp,lp⟩:=h p (Qt ..);refine ⟨X+Uk (Fp p),by have:=Gj (Fp p); grind,λx hx=>?_⟩;have hb0:=Gj (Fp p);have hb1:Fp p<=Uk (Fp p):=by unfold Uk; split <;> grind
  obtain ⟨l1,l2⟩:=hl x (by grind);have e1:Uk x=x:=by unfold Uk; rw [if_neg (by grind)]
  have e2:Uk (-x)=x:=by rw [Co,e1]
  refine ⟨λq hq=>?_,λq hq=>?_⟩
  ·rcases Qx.1 hq with rfl | hq
   ·exact (Qtd tp lp (x:=x) (by rw [e1]; grind)).2.1 (by grind)
   ·exact l1 q hq
  ·rcases Qx.1 hq with rfl | hq
   ·exact (Qtd tp lp (x:=-x) (by rw [e2]; grind)).2.2 (by grind)
   ·exact l2 q hq
theorem Qv8 {q:List Int} {L:List (List Rat)} (hS:Stm (cz q) L) (tq:Uf q) (lq:q.length≠0) {x y:Rat} (hxy:x<y) (h:Fp q<=x\/y<=-Fp q) (hb:0<Fp q):vv L x=vv L y:=by
 rcases Classical.em (vv L x=vv L y) with e | e
 ·exact e
 ·exfalso;obtain ⟨r,r1,r2,r3⟩:=Qo5 hS hxy e (d:=1) (by decide);have:=(Qtd tq lq (x:=r) (by rcases h with h | h <;> (unfold Uk; split <;> grind))).1;rw [Ue] at r3; grind
theorem Qds {p:List Int} (h:Un p≠0):1<=Fp p:=by
 have hb:=Qhe h;have hp:=nat_pos (show 0<(Un p).natAbs by omega);have hm0:(0:Rat)<=((most (p.take (p.length-1)):Nat):Rat):=Xn;rcases Uy 1 (Fp p) with h' | h'
 ·exact h'
 ·have:=Vq h' hp; grind
theorem Q1l {q:List Int} {l:List (List Int)} (hS:Stm (cz q) ((q::l).map cz)) (hl:∀ p∈q::l,Uf p/\p.length≠0):On (q::l)=(vv ((q::l).map cz) (-Fp q):Int)-(vv ((q::l).map cz) (Fp q):Int):=by
 obtain ⟨tq,lq⟩:=hl q (Qt ..);have hb:=Qds (Bf tq lq);obtain ⟨X,hX,hx⟩:=Qxu (q::l) hl;obtain ⟨h1,h2⟩:=hx (X+Fp q) (by grind);have e1:P3 Qb6 (q::l)=vv ((q::l).map cz) (X+Fp q):=by
  rw [<-A0]; unfold So P3;rw [Ow (f:=Qb6) (g:=λp=>U5 p (X+Fp q)) (0,0) λp hp=>(h1 p hp).symm]
 have e2:P3 If (q::l)=vv ((q::l).map cz) (-(X+Fp q)):=by
  rw [<-A0]; unfold So P3;rw [Ow (f:=If) (g:=λp=>U5 p (-(X+Fp q))) (0,0) λp hp=>(h2 p hp).symm]
 unfold On;rw [e1,e2,Qv8 hS tq lq (x:=-(X+Fp q)) (y:=-Fp q) (by grind) (.inr Qn) (by grind),<-Qv8 hS tq lq (x:=Fp q) (y:=X+Fp q) (by grind) (.inl Qn) (by grind)]
theorem Zg2 {f:List Rat} {L:List (List Rat)} (hS:Stm f L) {x y:Rat} (hxy:x<y) (hv:vv L y+2<=vv L x):∃ m,x<m/\m<y/\vv L m<vv L x/\vv L y<vv L m/\ev f m≠0:=by
 obtain ⟨R,hR,hx,hy⟩:=Qmn x y;obtain ⟨e,ep,he⟩:=Q85 hS R hR;have key:∀ n:Nat,∀ x,Uk x<=R->x<y->vv L y+2<=vv L x->y-x<=(n:Rat)*e->∃ m,x<m/\m<y/\vv L m<vv L x/\vv L y<vv L m:=by
  intro n
  induction n with
  | zero=>intro x _ hxy _ hn; rw [show ((0:Nat):Rat)=0 from rfl] at hn; exfalso; clear he; grind
  |
   succ n ih =>
   intro x hx hxy hv hn;have hn':(((n+1:Nat):Rat))=(n:Rat)+1:=by push_cast; rfl
   rw [hn'] at hn;rcases Uy (y-x) e with h1 | h1
   ·have:=he x y hx hy hxy h1; omega
   ·have hm:Uk (x+e)<=R:=Qce hx hy (by clear he ih; grind) (by clear he ih; grind);have h2:=he x (x+e) hx hm (by clear he ih; grind) (by clear he ih; grind);have h3:=Dx hS (show x<x+e by clear he ih; grind);by_cases h4:vv L x=vv L (x+e)
    ·obtain ⟨m,m1,m2,m3,m4⟩:=ih (x+e) hm (by clear he ih; grind) (by omega) (by clear he ih; grind);exact ⟨m,by clear he ih; grind,m2,by omega,m4⟩
    ·exact ⟨x+e,by clear he ih; grind,by clear he ih; grind,by omega,by omega⟩
 obtain ⟨n,hn⟩:=Il (z:=y-x) ep;obtain ⟨m,m1,m2,m3,m4⟩:=key n x hx hxy hv hn;rcases Classical.em (ev f m=0) with h0 | h0
 ·-- a little farther on
  obtain ⟨e2,e2p,hl⟩:=loc hR hS (w:=f) (u:=[1]) (λt=>by rw [Hu]; grind);obtain ⟨d,dp,d1,d2⟩:=min2 (a:=e2) (b:=(y-m) / 2) e2p (Nq (by clear he key hl; grind) (by decide));have h2:(y-m) / 2*2=y-m:=Fb (by decide);have hmR:Uk m<=R:=Qce hx hy (Qo m1) (Qo m2);have hmR2:Uk (m+d)<=R:=Qce hx hy (by clear he key hl; grind) (by clear he key hl; grind);rcases hl m (m+d) hmR hmR2 (by clear he key hl; grind) (by clear he key hl; grind) with ⟨p1,p2,_⟩ | ⟨_,p1,_,p3,_⟩
  ·refine ⟨m+d,by clear he key hl; grind,by clear he key hl; grind,by omega,by omega,λh'=>?_⟩;have:=p2.s;rw [Fa.2 h'] at this; exact p2.n this.symm
  ·rw [Fa.2 h0] at p3; exact absurd p3.symm p1
 ·exact ⟨m,m1,m2,m3,m4,h0⟩
theorem Zdu {q:List Int} {L:List (List Rat)} (hS:Stm (cz q) L) (tq:Uf q) (nq:q.length<=9) (lq:2<=q.length) {lo hi:Rat} (hl:lo<hi) (hv:vv L hi+2<=vv L lo):1<(hi-lo)*((2^(Rk q q+1):Nat):Rat):=by
 rcases Uy ((hi-lo)*((2^(Rk q q+1):Nat):Rat)) 1 with hw | hw
 ·exfalso;have hpow:(0:Rat)<=((2^(Rk q q+1):Nat):Rat):=Xn;obtain ⟨m,m1,m2,m3,m4,m0⟩:=Zg2 hS hl hv;obtain ⟨R,hR,r1,r2⟩:=Qmn lo hi;have hd:=M7 m0;obtain ⟨d,dp,_,db⟩:=Fz (b:=dqB R (cz q)) (d:=Uk (ev (cz q) m) / 2) (Sx hR _) (Nq hd (by decide));have hd2:Uk (ev (cz q) m) / 2*2=Uk (ev (cz q) m):=Fb (by decide);have hmR:Uk m<=R:=Qce r1 r2 (Qo m1) (Qo m2);have hnear:∀ r,Uk r<=R->Uk (ev (cz q) r)<Uk (ev (cz q) m) / 2->d<Uk (r-m):=λr hr hs=>by
   rcases Uy (Uk (r-m)) d with h | h
   ·exfalso;have h1:=Sy (p:=cz q) hmR hr hR h db;have h2:=Rv (ev (cz q) m-ev (cz q) r) (ev (cz q) r);rw [show ev (cz q) m-ev (cz q) r+ev (cz q) r=ev (cz q) m by grind,Qy6] at h2;grind
   ·exact h
  refine Q5i (R:=R+1) (d:=d+d) tq tq nq nq lq lq (by grind) (by grind) λe ep=>?_
  obtain ⟨e',ep',e1,e2⟩:=min2 (a:=e) (b:=Uk (ev (cz q) m) / 2) ep (Nq hd (by decide));obtain ⟨x,x1,x2,x3⟩:=Qo5 hS m1 (by omega) ep';obtain ⟨y,y1,y2,y3⟩:=Qo5 hS m2 (by omega) ep';have hxR:Uk x<=R:=Qce r1 r2 x1 (by grind);have hyR:Uk y<=R:=Qce r1 r2 (by grind) y2;have nx:=hnear x hxR (by grind);have ny:=hnear y hyR (by grind);have ex:Uk (x-m)=m-x:=by unfold Uk; split <;> grind
  have ey:Uk (y-m)=y-m:=by unfold Uk; split <;> grind
  rw [ex] at nx;rw [ey] at ny;have exy:Uk (x-y)=y-x:=by unfold Uk; split <;> grind
  refine ⟨x,y,by grind,by grind,by rw [exy]; grind,?_,by rw [<-Ue]; grind,by rw [<-Ue]; grind⟩;rw [exy];exact Q7 (Q4 (show y-x<=hi-lo by grind) hpow) hw
 ·exact hw
theorem Q4g:∀ {k:Nat} {a b:List Int} {l:List (List Int)},chF k a b=some l->∀ p∈l,p.length≠0
 | 0,_,_,_,h=>by cases h
 |
  k+1,a,b,l,h=>by
  simp only [chF] at h
  split at h
  ·injection h with h; subst h; exact λp hp=>by cases hp
  ·rename_i h0;obtain ⟨r,_,h⟩:=Qe.1 h;obtain ⟨l',h1,h⟩:=Qe.1 h;injection h with h; subst h;intro p hp;rcases Qx.1 hp with rfl | hp
   ·exact h0
   ·exact Q4g h1 p hp
theorem Okp.pb {n s:Nat} {p:List Int} (h:Okp n s p) (hs:s<=16777216):Pb p:=⟨h.t,by have:=h.l; have:=h.z.1; omega,W9 h.b hs⟩
theorem Q0b {p:List Int} {q:List Int} {l:List (List Int)} (hp:Pb p) (h:chain p=some (q::l)) (hq:q.length≠0):∀ r∈q::l,Uf r/\r.length≠0:=by
 have h1:=(Orr.chain_ok hp h).2;unfold chain at h;obtain ⟨a,_,h⟩:=Qe.1 h
 split at h
 ·cases h
 ·obtain ⟨d,_,h⟩:=Qe.1 h;obtain ⟨l',h3,h⟩:=Qe.1 h;injection h with h;injection h with e1 e2;subst e1; subst e2;intro r hr;refine ⟨(h1 r hr).t,?_⟩;rcases Qx.1 hr with rfl | hr
  ·exact hq
  ·exact Q4g h3 r hr
inductive RI (q:List Int) (L:List (List Rat)):Rat->List Tm->Rat->Prop
 | nil {lo hi:Rat} (h:lo<=hi) (hv:vv L lo=vv L hi):RI q L lo [] hi
 | cons {lo hi:Rat} {t:Tm} {l:List Tm} (h:lo<=t.lo) (hv:vv L lo=vv L t.lo) (ht:Vt (cz q) L t.lo t.hi) (hp:t.p=q) (hl:RI q L t.hi l hi):RI q L lo (t::l) hi
theorem RI.app {q:List Int} {L:List (List Rat)} {lo m hi:Rat} {l l':List Tm} (h:RI q L lo l m) (h':RI q L m l' hi):RI q L lo (l++l') hi:=by
 induction h with
 |
  nil h hv =>
  cases h' with
  | nil h2 hv2=>exact .nil (by grind) (by omega)
  | cons h2 hv2 ht hp hl=>exact .cons (by grind) (by omega) ht hp hl
 | cons h hv ht hp _ ih=>exact .cons h hv ht hp (ih h')
theorem Q4i {D M k:Nat} {m:Rat} (h:Gr D M k m) (hM:0<M) (hs:Ul (D:Int)+Ul (M:Int)+k<=16777216):chq m=some m:=by
 have:=Qld h hM hs;unfold chq;rw [if_pos ⟨this.1,this.2⟩]
theorem Qgy {q:List Int} {c:List (List Int)} (hS:Stm (cz q) (c.map cz)) (tq:Uf q) (nq:q.length<=9) (hc1:q.length<2->c=[q]) {D M F:Nat} (hM:0<M):∀ (k j:Nat) (lo hi:Rat),lo<hi->Gr D M j lo->Gr D M j hi->Ul (D:Int)+Ul (M:Int)+(j+k)<=16777216->(hi-lo)*((2^(Rk q q+1):Nat):Rat)<=((2^k:Nat):Rat) ->
 ∃ l,Dq q c (F+k+1) lo hi ((vv (c.map cz) lo:Int)-(vv (c.map cz) hi:Int))=some l/\RI q (c.map cz) lo l hi/\∀ t∈l,∃ k',k'≤j+k/\Gr D M k' t.lo/\Gr D M k' t.hi:=by
 intro k
 induction k with
 |
  zero =>
  intro j lo hi hl g1 g2 hs hK;have hle:=Dx hS hl;have h2:vv (c.map cz) lo<vv (c.map cz) hi+2:=by
   rcases Q6 (vv (c.map cz) lo) (vv (c.map cz) hi+2) with h | h
   ·exact h
   ·exfalso;have lq:2<=q.length:=by
     rcases Q6 q.length 2 with e | e
     ·have hvv:∀ x,vv (c.map cz) x=vv (c.map cz) 0:=λx=>by
       rcases hS with ⟨c0,hc0,hcc,hl'⟩ | ⟨g',l',k',hk,hg,hsc,hl'⟩
       ·rw [hl']; simp only [vv,tc,hcc]
       ·rw [hc1 e] at hl'; cases hl'
      rw [hvv lo,hvv hi] at h; omega
     ·exact e
    have:=Zdu hS tq nq lq hl h;rw [Yx] at hK;have h7:((1:Nat):Rat)=1:=rfl;rw [h7] at hK; grind
  simp only [Dq];by_cases e0:vv (c.map cz) lo=vv (c.map cz) hi
  ·rw [if_pos (by omega)];exact ⟨[],rfl,.nil (Qo hl) e0,λt ht=>by cases ht⟩
  ·rw [if_neg (by omega),if_pos (by omega)];refine ⟨[⟨q,lo,hi⟩],rfl,.cons Qn rfl ⟨hS,hl,by show vv _ lo=vv _ hi+1; omega⟩ rfl (.nil Qn rfl),λt ht=>?_⟩;rw [Qp.1 ht]; exact ⟨j,by omega,g1,g2⟩
 |
  succ k ih =>
  intro j lo hi hl g1 g2 hs hK;have hle:=Dx hS hl;show ∃ l,(if (vv (c.map cz) lo:Int)-(vv (c.map cz) hi:Int)=0 then some [] else if (vv (c.map cz) lo:Int)-(vv (c.map cz) hi:Int)=1 then some [⟨q,lo,hi⟩] else (chq (A9 lo hi)).bind λm=>(Dq q c (F+k+1) lo m (Gx c lo m)).bind λl=>(Dq q c (F+k+1) m hi ((vv (c.map cz) lo:Int)-(vv (c.map cz) hi:Int)-Gx c lo m)).bind λr=>some (l++r))=some l/\_;by_cases e0:vv (c.map cz) lo=vv (c.map cz) hi
  ·rw [if_pos (by omega)];exact ⟨[],rfl,.nil (Qo hl) e0,λt ht=>by cases ht⟩
  by_cases e1:vv (c.map cz) lo=vv (c.map cz) hi+1
  ·rw [if_neg (by omega),if_pos (by omega)];refine ⟨[⟨q,lo,hi⟩],rfl,.cons Qn rfl ⟨hS,hl,e1⟩ rfl (.nil Qn rfl),λt ht=>?_⟩;rw [Qp.1 ht]; exact ⟨j,by omega,g1,g2⟩
  ·rw [if_neg (by omega),if_neg (by omega)];obtain ⟨m,hm⟩:=nmE ((lo+hi) / 2);have h2:(lo+hi) / 2*2=lo+hi:=Fb (by decide);rw [<-hm] at h2;have gm:Gr D M (j+1) m:=by rw [hm]; exact Qug g1 g2
   have l1:lo<m:=by grind
   have l2:m<hi:=by grind
   rw [Qbg,<-hm,Q4i gm hM (by omega)];show ∃ l,((Dq q c (F+k+1) lo m (Gx c lo m)).bind λl=>(Dq q c (F+k+1) m hi ((vv (c.map cz) lo:Int)-(vv (c.map cz) hi:Int)-Gx c lo m)).bind λr=>some (l++r))=some l/\_;rw [C7 (Qo l1),show (vv (c.map cz) lo:Int)-(vv (c.map cz) hi:Int)-((vv (c.map cz) lo:Int)-(vv (c.map cz) m:Int))=(vv (c.map cz) m:Int)-(vv (c.map cz) hi:Int) by omega];rw [Qly k] at hK;have hp:∀ x y:Rat,(y-x)*2=hi-lo->(y-x)*((2^(Rk q q+1):Nat):Rat)<=((2^k:Nat):Rat):=λx y h=>by
    have:(y-x)*((2^(Rk q q+1):Nat):Rat)*2=(hi-lo)*((2^(Rk q q+1):Nat):Rat):=by rw [<-h]; grind
    grind
   obtain ⟨la,a1,a2,a3⟩:=ih (j+1) lo m l1 (Qfk g1) gm (by omega) (hp lo m (by grind));obtain ⟨lb,b1,b2,b3⟩:=ih (j+1) m hi l2 gm (Qfk g2) (by omega) (hp m hi (by grind));rw [a1];show ∃ l,((Dq q c (F+k+1) m hi ((vv (c.map cz) m:Int)-(vv (c.map cz) hi:Int))).bind λr=>some (la++r))=some l/\_;rw [b1];refine ⟨la++lb,rfl,a2.app b2,λt ht=>?_⟩;rcases Q0.1 ht with ht | ht
   ·obtain ⟨k',h1,h2,h3⟩:=a3 t ht; exact ⟨k',by omega,h2,h3⟩
   ·obtain ⟨k',h1,h2,h3⟩:=b3 t ht; exact ⟨k',by omega,h2,h3⟩
theorem Zgt {D M k:Nat} {q:Rat} (h:Gr D M k q):Gr D M k (-q):=by
 obtain ⟨u,hu⟩:=h.u;exact ⟨⟨-u,by rw [Y8,<-hu]; grind⟩,by rw [Co]; exact h.b,h.d⟩
theorem Qq4 {m s:Nat} (h:m<2^s):Ul ((m+1:Nat):Int)<=s+1:=by
 rw [Rh,Zw,Zk]; omega
theorem Q0x {z:Int} {s:Nat} (h:Ul z<=s):Ul ((z.natAbs+1:Nat):Int)<=s+1:=Qq4 (Rh.1 h)
theorem Zdj {x:Rat} {m s g N:Nat} (hx:x<=2*((m+1:Nat):Rat)) (hm:m+1<=2^s) (hN:s+1+g<=N):x*((2^g:Nat):Rat)<=((2^N:Nat):Rat):=by
 have h3:=Zb.2 hm;have e:=Qly s;have h4:(0:Rat)<=((2^s:Nat):Rat):=Xn;have h1:x<=((2^(s+1):Nat):Rat):=by rw [e]; grind
 have h5:(0:Rat)<=((2^g:Nat):Rat):=Xn;refine Q7 (Q4 h1 h5) ?_;have h6:2^(s+1)*2^g<=2^N:=by
  rw [<-Xe]; exact Zo (by decide) hN
 have:=Zb.2 h6;rw [Rat.natCast_mul] at this;exact this
theorem Q9w {s:Nat} {l:List Int} (h:Bd s l):most l<2^s:=by
 have key:∀ (l:List Int) (m:Nat),m<2^s->Bd s l->l.foldl (λm z=>if m<z.natAbs then z.natAbs else m) m<2^s:=by
  intro l
  induction l with
  | nil=>exact λm h _=>h
  |
   cons y l ih =>
   intro m hm hb;simp only [Xk];refine ih _ ?_ λz hz=>hb z (Ql _ hz)
   have:=hb y (Qt ..);rw [Rh] at this
   split <;> assumption
 exact key l 0 (Zu (by decide)) h
theorem Zf5 {p q:List Int} (h:chk p=some q):q=p:=by
 unfold chk at h
 split at h
 ·injection h with h; exact h.symm
 ·cases h
theorem Qsf {s:Nat} {p:List Int} (hs9:s≤900) (h:Okp 9 s p):∃ q c l,Sl p=some q/\chain p=some c/\Qjf p=some l/\Stm (cz q) (c.map cz)/\RI q (c.map cz) (-Fp q) l (Fp q)/\(∀ t∈l,Va t)/\(∀ x y,x<y->Fp q≤x\/y≤-Fp q->vv (c.map cz) x=vv (c.map cz) y)/\q.length≤p.length/\∀ t∈l,t.p=q/\t.lo<t.hi/\Bd (s+69) q/\∃ D M k,Gr D M k t.lo/\Gr D M k t.hi/\0<M/\Ul (D:Int)≤s+69/\Ul (M:Int)≤s+70/\k≤63*s+5160:=by
 obtain ⟨pp,hpl,hpb⟩:=h.pr;obtain ⟨g,q',hq',sq⟩:=Qao h;obtain ⟨q,l,q1,q2,hS,hl0⟩:=chain_ok h;rw [hq'] at q1;injection q1 with q1;subst q1;have e1:∀ t,Ug (Uh p) t=Ug q' t*Ug g t:=λt=>by rw [sq.e]; grind
 obtain ⟨p1,p2⟩:=Hd pp.t pp.n e1;have hch:chF 66 q' (Uh (U3 q'))=some l:=by
  have h2:=q2;unfold chain at h2;rw [hq'] at h2;simp only [Je] at h2
  split at h2
  ·cases h2
  ·cases hd:chk (U3 q') with
   | none=>rw [hd] at h2; cases h2
   |
    some d =>
    rw [hd] at h2;simp only [Je] at h2;obtain rfl:d=U3 q':=Zf5 hd;cases hc:chF 66 q' (Uh (U3 q')) with
    | none=>rw [hc] at h2; cases h2
    | some l'=>rw [hc] at h2; simp at h2; rw [h2]
 have hll:=Sk sq.pq.t sq.pg.t pp.t e1 p1 p2;have hl9:=h.l;have bq:Bd (s+69) q':=Ah hpb (by omega) pp.t sq.pq.t sq.pg.t pp.n e1;have hall:=Q0b (h.pb (by omega)) q2 sq.pq.n;have hld:Un q'≠0:=by have:=sq.pq.l; omega
 have hb1:=Qds hld;obtain ⟨D,hD⟩:=nmE ((Un q').natAbs);obtain ⟨m,hm⟩:=nmE (most (q'.take (q'.length-1)));have hm2:m<2^(s+69):=by rw [hm]; exact Q9w (s:=s+69) λz hz=>bq z (Qk hz)
 have hD0:0<D:=by omega
 have hDs:Ul (D:Int)<=s+69:=by
  have:=Pw bq;rw [Rh] at this ⊢;rw [Zw,hD]; exact this
 have hbe:=Qhe hld;rw [<-hD,<-hm] at hbe;have hDq:=nat_pos hD0;have hbm:Fp q'<=((m+1:Nat):Rat):=by
  have hD1:(1:Rat)<=(D:Rat):=by
   have:((1:Nat):Rat)<=(D:Rat):=Zb.2 hD0;exact this
  have hm0:(0:Rat)<=(m:Rat):=Xn;have h3:=S0 (a:=(m:Rat)) (c:=1) hm0 Qn (by decide) hD1;rcases Uy (Fp q') ((m+1:Nat):Rat) with h' | h'
  ·exact h'
  ·exfalso;have:=Vq h' hDq
   push_cast at this; grind
 have gb:Gr D (m+1) 0 (Fp q'):=by
  refine ⟨⟨(D+m:Nat),?_⟩,?_,hD0⟩
  ·rw [Yx,Yq,hbe];rw [show ((((D+m:Nat):Int)):Rat)=((D+m:Nat):Rat) from rfl]; push_cast; rfl
  ·have:Uk (Fp q')=Fp q':=by unfold Uk; rw [if_neg (by grind)]
   rw [this]; exact hbm
 have hMs:Ul ((m+1:Nat):Int)<=s+69+1:=Qq4 (s:=s+69) hm2;have hK:(Fp q' - -Fp q')*((2^(Rk q' q'+1):Nat):Rat)<=((2^(63*s+5160):Nat):Rat):=by
  have hps:=Eu bq;have hg:Rk q' q'<=(2*s+164)*31:=by
   unfold Rk;exact Zt (by omega) (by omega)
  exact Zdj (s:=s+69) (g:=Rk q' q'+1) (N:=63*s+5160) (by grind) hm2 (by omega)
 have hN:Ul (D:Int)+Ul ((m+1:Nat):Int)+(0+(63*s+5160))<=16777216:=by omega
 obtain ⟨ls,r1,r2,r3⟩:=Qgy (F:=99999-(63*s+5160)) hS sq.pq.t (by omega) (λh=>by rw [hl0 h]) (Wv m) (63*s+5160) 0 (-Fp q') (Fp q') (by grind) (Zgt gb) gb hN hK;rw [show 99999-(63*s+5160)+(63*s+5160)+1=100000 by omega] at r1;have hchq:chq (Fp q')=some (Fp q'):=Q4i gb (Wv m) (by omega);have key:∀ t∈ls,Va t/\t.p=q'/\t.lo<t.hi/\Bd (s+69) q'/\∃ D M k,Gr D M k t.lo/\Gr D M k t.hi/\0<M/\Ul (D:Int)≤s+69/\Ul (M:Int)≤s+70/\k≤63*s+5160:=λt ht=>by
  obtain ⟨k',k1,k2,k3⟩:=r3 t ht;have hmem:∀ {lo hi:Rat} {ls:List Tm},RI q' ((q'::l).map cz) lo ls hi->t∈ls->Vt (cz q') ((q'::l).map cz) t.lo t.hi/\t.p=q':=λh=>by
   induction h with
   | nil=>intro ht; cases ht
   |
    cons h hv ht' hp hl ih =>
    intro ht;rcases Qx.1 ht with rfl | ht
    ·exact ⟨ht',hp⟩
    ·exact ih ht
  obtain ⟨v1,v2⟩:=hmem r2 ht;have lq2:2<=q'.length:=by
   rcases Q6 q'.length 2 with e | e
   ·exfalso;have hvv:∀ x,vv ((q'::l).map cz) x=0:=λx=>by
     rw [hl0 e,sq.pq.one e];have hv1:∀ x:Rat,ev (cz [1]) x=1:=λx=>by rw [Ue,P8]
     simp only [Zv,Jg,vv,tc,hv1];have:Uo 1=1:=by decide
     rw [this]; decide
    have:=v1.v;rw [hvv,hvv] at this; omega
   ·exact e
  exact ⟨⟨.inr ⟨_,by rw [v2]; exact v1⟩,by rw [v2]; exact sq.pq.t,by rw [v2]; omega,by rw [v2]; exact lq2,by rw [v2]; exact W9 bq (by omega),λ_=>by rw [v2]; exact W9 bq (by omega),λ_=>by rw [v2]; exact ⟨l,_,g,hch,sq,v1⟩,D,m+1,k',k2,k3,Wv m,by omega⟩,v2,v1.l,bq,D,m+1,k',k2,k3,Wv m,hDs,Qa hMs (Qj (s+70)),by rw [Zz] at k1; exact k1⟩
 refine ⟨q',q'::l,ls,hq',q2,?_,hS,r2,λt ht=>(key t ht).1,λx y hxy hb=>Qv8 hS sq.pq.t sq.pq.n hxy hb (by grind),by omega,λt ht=>(key t ht).2⟩
 ·unfold Qjf;rw [q2,hq'];show (chq (Fp q')).bind _=_;rw [hchq];show Dq q' (q'::l) 100000 (-Fp q') (Fp q') (On (q'::l))=_;rw [Q1l hS hall];exact r1
theorem Q7s {p:List Int} (h:Okp 9 900 p):∃ q c l,Sl p=some q/\chain p=some c/\Qjf p=some l/\Stm (cz q) (c.map cz)/\RI q (c.map cz) (-Fp q) l (Fp q)/\(∀ t∈l,Va t)/\(∀ x y,x<y->Fp q≤x\/y≤-Fp q->vv (c.map cz) x=vv (c.map cz) y):=by
 obtain ⟨q,c,l,h1,h2,h3,h4,h5,h6,h7,_⟩:=Qsf (Qj _) h;exact ⟨q,c,l,h1,h2,h3,h4,h5,h6,h7⟩
theorem Ce {q:List Int} {L:List (List Rat)} (hS:Stm (cz q) L) {c:Rat->Int} (hc:Cut c) {lo:Rat} (hH:∀ z,c z=-1->z<=lo->vv L z=vv L lo) {y0:Rat} (hy:c y0=-1) (hv:∀ z,lo<z->z<=y0->vv L z=vv L lo):∃ s,s≠0/\∀ z,c z=-1->z<=y0->Uo (ev (cz q) z)=s:=by
 have hall:∀ z,c z=-1->z<=y0->vv L z=vv L lo:=λz h1 h2=>by
  rcases Uy z lo with e | e
  ·exact hH z h1 e
  ·exact hv z e h2
 have hne:∀ z,c z=-1->z<=y0->Uo (ev (cz q) z)≠0:=λz h1 h2=>by
  obtain ⟨w,w1,w2⟩:=hc.dn z h1;have:=Qpe hS w1 (by rw [hall w w2 (by grind),hall z h1 h2]);rw [this.s]; exact this.n
 refine ⟨Uo (ev (cz q) y0),hne y0 hy Qn,λz h1 h2=>?_⟩;rcases Classical.em (z=y0) with e | e
 ·rw [e]
 ·have:=Qpe hS (x:=z) (y:=y0) (by grind) (by rw [hall z h1 h2,hall y0 hy Qn]);rw [this.s,Dk (hne z h1 h2)]
structure Fst (o:List Int) (a t:Tm):Prop where
 lt:Pj a t
 s:∃ s,s≠0/\(∀ z,Up a z=-1->Up t z=1->Uo (ev (cz o) z)=s)/\RS (cz o) (Up t) (-s)
def Non (o:List Int) (a:Tm):Prop:=∃ s,s≠0/\∀ z,Up a z=-1->Uo (ev (cz o) z)=s
theorem Q08 {q:List Int} {L:List (List Rat)} (hS:Stm (cz q) L) {a:Tm} (ha:Va a) {lo hi:Rat} {l:List Tm} (hR:RI q L lo l hi):(∀ t∈l,Va t)->(∀ z,hi<z->vv L z=vv L hi)->(∀ z,Up a z=-1->z≤lo->vv L z=vv L lo)->∃ r,Qax a l=some r/\match r with
 | none=>Non q a
 | some t=>t∈l/\Fst q a t:=by
 have ca:=ha.cut
 induction hR with
 |
  @nil lo hi h hv =>
  intro _ hhi hH;refine ⟨none,rfl,?_⟩;obtain ⟨y1,hy1⟩:=ca.hi;have hall:∀ z,lo<z->vv L z=vv L lo:=λz hz=>by
   rcases Uy z hi with e | e
   ·have h1:=Dx hS hz;have h2:vv L hi<=vv L z:=by
     rcases Classical.em (z=hi) with e' | e'
     ·rw [e']; exact Qj _
     ·exact Dx hS (by grind)
    omega
   ·rw [hhi z e,hv]
  obtain ⟨s,s0,hs⟩:=Ce hS ca hH hy1 λz h1 _=>hall z h1
  refine ⟨s,s0,λz hz=>?_⟩;rcases Uy z y1 with e | e
  ·exact hs z hz e
  ·obtain ⟨s',s0',hs'⟩:=Ce hS ca hH hz λz h1 _=>hall z h1
   rw [hs' z hz Qn,<-hs' y1 hy1 (Qo e),hs y1 hy1 Qn]
 |
  @cons lo hi t l h hv ht hp hl ih =>
  intro hV hhi hH;have hvt:=hV t (Qt ..);have ct:=hvt.cut;have ht':=ht;rw [<-hp] at ht';have ect:∀ z,Up t z=cq (cz t.p) t.lo t.hi z:=Tc ht.l;obtain ⟨c,c1,c2⟩:=O5 hvt ha;show ∃ r,((Qf4 t a).bind λc=>if 0<c then some (some t) else Qax a l)=some r/\_;rw [c1];show ∃ r,(if 0<c then some (some t) else Qax a l)=some r/\_;have hlo1:Up t t.lo=1:=by rw [ect]; exact Ni Qn
  have hlow:∀ z,lo<z->Up t z=1->vv L z=vv L lo:=λz h1 h2=>by
   rcases Uy z t.lo with e | e
   ·have a1:=Dx hS h1;have a2:vv L t.lo<=vv L z:=by
     rcases Classical.em (z=t.lo) with e' | e'
     ·rw [e']; exact Qj _
     ·exact Dx hS (by grind)
    omega
   ·rw [ect] at h2;have hz:z<=t.hi:=by
     rcases Uy z t.hi with e' | e'
     ·exact e'
     ·rw [A8 ht.l e'] at h2; omega
    rw [ht'.eq_lo e hz h2,hv]
  by_cases hc:0<c
  ·rw [if_pos hc];refine ⟨some t,rfl,Qt ..,?_⟩;have hlt:Pj a t:=by
    rcases c2 with ⟨e,_⟩ | ⟨e,_⟩ | ⟨_,h⟩
    ·omega
    ·omega
    ·exact h
   refine ⟨hlt,?_⟩;obtain ⟨m,m1,m2⟩:=hlt;obtain ⟨s,s0,hs⟩:=Ce hS ca hH m1 λz h1 h2=>hlow z h1 (by
    rcases Classical.em (z=m) with e | e
    ·rw [e]; exact m2
    ·exact ct.mono' (q:=z) (r:=m) (by grind) (by omega))
   have hall:∀ z,Up a z=-1->Up t z=1->Uo (ev (cz q) z)=s:=λz h1 h2=>by
    rcases Uy z m with e | e
    ·exact hs z h1 e
    ·obtain ⟨s',s0',hs'⟩:=Ce hS ca hH h1 λw w1 w2=>hlow w w1 (by
      rcases Classical.em (w=z) with e | e
      ·rw [e]; exact h2
      ·exact ct.mono' (q:=w) (r:=z) (by grind) (by omega))
     rw [hs' z h1 Qn,<-hs' m m1 (Qo e),hs m m1 Qn]
   refine ⟨s,s0,hall,?_⟩;obtain ⟨w,w1,w2,w3⟩:=Qhw ct m2 hlo1;have hwa:Up a w=-1:=ca.mono m w w2 (by omega);have hsw:=hall w hwa w1;have hwh:w<t.hi:=by
    rw [ect] at w1;rcases Uy t.hi w with e | e
    ·have:=ht'.hi1;rcases Classical.em (t.hi=w) with e' | e'
     ·rw [<-e'] at w1; exact absurd w1 this
     ·rw [A8 ht.l (by grind)] at w1; omega
    ·exact e
   have hww:vv L w=vv L t.lo:=ht'.eq_lo w3 (Qo hwh) (by rw [<-ect]; exact w1);have hvv:=ht.v;have hone:=Qpd hS hwh (by omega);have hlw:Tj (cz q) w=s:=by rw [Dk (by rw [hsw]; exact s0),hsw]
   rw [hlw] at hone;have hd:∀ z,w<z->z<=t.hi->Up t z=-1->Uo (ev (cz q) z)=-s:=λz z1 z2 z3=>by
    rw [ect] at z3;have e1:=ht'.eq_hi (by grind) z2 (by omega);have e2:=Qpd hS z1 (by omega);rw [hlw] at e2;have hz0:Uo (ev (cz q) z)≠0:=by
     rw [Mq (by grind) z2,hp] at z3;intro h0;rw [if_pos h0] at z3; omega
    rw [Dk hz0] at e2; exact e2.2
   rcases ct.val t.hi with e | e | e
   ·rw [ect] at e; exact absurd e ht'.hi1
   ·obtain ⟨d,dp,hd'⟩:=Zjk (p:=cz q) (x:=t.hi) (by rw [hone.2]; omega);refine ⟨t.hi+d,ct.mono t.hi _ (by grind) (by omega),λz h1 h2=>?_⟩;have hz:t.hi<z:=by
     rcases Uy z t.hi with e' | e'
     ·rcases Classical.em (z=t.hi) with e'' | e''
      ·rw [e''] at h1; omega
      ·have:=ct.mono z t.hi (by grind) (by omega); omega
     ·exact e'
    rw [hd' z hz (by grind),hone.2]
   ·exact ⟨t.hi,e,λz h1 h2=>hd z (ct.lt w1 h1) h2 h1⟩
  ·rw [if_neg hc];have hle:¬Pj a t:=λh=>by
    rcases c2 with ⟨e,h'⟩ | ⟨e,h'⟩ | ⟨e,_⟩
    ·exact Oa ct ca h' h
    ·obtain ⟨z,z1,z2⟩:=h;have:=h' z; omega
    ·omega
   obtain ⟨r,r1,r2⟩:=ih (λx hx=>hV x (Ql _ hx)) hhi λz z1 z2=>by
    have hz:Up t z≠1:=λh=>hle ⟨z,z1,h⟩
    have hzl:t.lo<z:=by
     rcases Uy z t.lo with e | e
     ·refine absurd ?_ hz;rw [ect]; exact Ni e
     ·exact e
    exact ht'.eq_hi hzl z2 (by rw [<-ect]; exact hz)
   refine ⟨r,r1,?_⟩;cases r with
   | none=>exact r2
   | some x=>exact ⟨Ql _ r2.1,r2.2⟩
theorem Ze2 {c:Rat->Int} (hc:Cut c):∀ (n:Nat) (f:List Rat),HD f n->∃ s,s≠0/\RS f c s
 |
  n,f,h=>by
  rcases Oy hc f with hv | ⟨s,hs,hn⟩
  ·cases n with
   |
    zero =>
    exfalso;obtain ⟨q,hq,_⟩:=Qrl hc (hv (Uk (f.getD 0 0)) (M7 h.1));cases f with
    | nil=>exact h.1 (by simp)
    |
     cons a l =>
     have:=Bp (p:=l) λk=>by have:=h.2 (k+1) (by omega); rwa [Q3] at this
     simp only [ev,this,Zp] at hq; grind
   |
    succ n =>
    have hd:HD (Md f) n:=by
     have key:∀ (f:List Rat) (k:Nat),(Md f).getD k 0=((k+1:Nat):Rat)*f.getD (k+1) 0:=by
      intro f
      induction f with
      | nil=>intro k; simp only [Md,Kg]; grind
      |
       cons a f ih =>
       intro k;simp only [Md];rw [G5,Q3];cases k with
       | zero=>rw [Zp]; push_cast; grind
       | succ k=>rw [Q3,ih]; push_cast; grind
     refine ⟨λh0=>?_,λk hk=>by rw [key,h.2 (k+1) (by omega)]; grind⟩;rw [key] at h0;rcases Jq.1 h0 with h1 | h1
     ·have:=nat_pos (show 0<n+1 by omega); grind
     ·exact h.1 h1
    obtain ⟨s,hs,h1⟩:=Ze2 hc n (Md f) hd;exact ⟨s,hs,Qos hc hv h1 hs⟩
  ·exact ⟨s,hs,Ql5 hc hn⟩
theorem Q7v {c:Rat->Int} (hc:Cut c) {f p q:List Rat} {s s':Int} (hf:∀ t,ev f t=ev p t*ev q t) (h:RS p c s) (h':RS q c s'):RS f c (s*s'):=by
 obtain ⟨y,h1,h2⟩:=h;obtain ⟨y',h3,h4⟩:=h';refine ⟨if y<=y' then y else y',by split <;> assumption,λz z1 z2=>?_⟩;rw [hf,Rw,h2 z z1 (by clear h2 h4; grind),h4 z z1 (by clear h2 h4; grind)]
theorem Q7w {c:Rat->Int} (hc:Cut c) {f o S:List Rat} {k:Rat} (hk:k≠0) (hf:∀ t,ev f t=k*(ev o t*(ev S t*ev S t))) (hnz:¬∀ t,ev f t=0) {s:Int} (h:RS o c s):RS f c (Uo k*s):=by
 obtain ⟨n,_,hn⟩:∃ n,n<S.length/\HD S n:=by
  rcases Qfl S with h1 | h1
  ·exact absurd (λt=>by rw [hf,h1]; grind) hnz
  ·exact h1
 obtain ⟨s',hs',h'⟩:=Ze2 hc n S hn;have h1:=Q7v hc (f:=Fl S S) (λt=>Ui t _ _) h' h';have h2:=Q7v hc (f:=Fl o (Fl S S)) (λt=>Ui t _ _) h h1;have hsq:s'*s'=1:=by
  obtain ⟨y,y1,y2⟩:=h';have:=y2 y y1 Qn;rcases Ff (ev S y) with ⟨e,_⟩ | ⟨e,_⟩ | ⟨e,_⟩
  ·rw [<-this,e]; rfl
  ·omega
  ·rw [<-this,e]; rfl
 rw [hsq,K8] at h2;obtain ⟨y,y1,y2⟩:=h2;exact ⟨y,y1,λz z1 z2=>by
  have:=y2 z z1 z2;rw [Ui,Ui] at this;rw [hf,Rw,this]⟩
structure Cp (p:List Int):Prop where
 t:Uf p
 l:p.length<=9
 b:Bd 800 p
theorem Cp.dp {p:List Int} (h:Cp p):Dp p:=⟨h.t,h.l,W9 h.b (by omega)⟩
theorem Cp.ok {p:List Int} (h:Cp p) (h0:p.length≠0):Okp 9 900 p:=h.dp.ok h0
def Leq (a:Tm) (c:Rat->Int):Prop:=∀ q,c q=-1->Up a q=-1
def Td (p:List Int) (a:Tm):Option Tm->Prop
 | none=>p=[]\/∃ s,s≠0/\∀ c,Cut c->Leq a c->RS (cz p) c s
 | some t=>p≠[]/\Va t/\Pj a t/\∃ s,s≠0/\(∀ c,Cut c->Leq a c->(∃ m,c m=-1/\Up t m=1)->RS (cz p) c s)/\RS (cz p) (Up t) (-s)
theorem RI.len {q:List Int} {L:List (List Rat)} {lo hi:Rat} {l:List Tm} (h:RI q L lo l hi):l.length+vv L hi<=vv L lo:=by
 induction h with
 | nil h hv=>simp; omega
 | cons h hv ht hp hl ih=>have:=ht.v; simp only [Zc]; omega
theorem Q8u (x:Rat):∀ (L:List (List Rat)) (s:Int),tc x s L<=L.length
 | [],_=>Qj _
 |
  f::l,s=>by
  have h1:=Q8u x l;simp only [tc,Zc]
  repeat' split
  all_goals (first | (have:=h1 s; omega) | (have:=h1 (Uo (ev f x)); omega))
theorem Zia (L:List (List Rat)) (x:Rat):vv L x<=L.length:=Q8u x L 0
theorem Ox {p:List Int} (h:Cp p):∃ l,Lx p=some l/\l.length≤67/\(∀ t∈l,Va t)/\∀ a,Va a->∃ r,Qax a l=some r/\Td p a r/\∀ t,r=some t->t∈l:=by
 unfold Lx;by_cases h0:p.length=0
 ·have e:p=[]:=Qh h0;subst e;exact ⟨[],rfl,by decide,(λt ht=>by cases ht),λa _=>⟨none,rfl,.inl rfl,λt ht=>by cases ht⟩⟩
 ·obtain ⟨qp,o,q1,o1,hpt⟩:=Quw (n:=9) (s:=800) (p:=p) ⟨⟨by decide,by decide⟩,h.t,h0,h.l,h.b⟩;obtain ⟨g,sq⟩:=hpt.sq;obtain ⟨S,hS⟩:=hpt.os;obtain ⟨p1,p2,p3,p4,p5,p6,p7⟩:=Ru h.t h0;have hpl:=h.l;obtain ⟨hh,th,eh⟩:=hpt.oh;have bo:Bd 869 o:=Ah (p5 800 h.b) (by omega) p1 hpt.ot th (by omega) eh;obtain ⟨lo1,lo2⟩:=Hd p1 (by omega) eh;have hlen:=Sk hpt.ot th p1 eh lo1 lo2;have oko:Okp 9 900 o:=⟨Qn8,hpt.ot,by omega,by omega,W9 bo (by omega)⟩;obtain ⟨q,c,l,r1,r2,r3,hSt,hRI,hVa,hout⟩:=Q7s oko;obtain ⟨g',q',s1,s2⟩:=Qao oko;rw [r1] at s1;injection s1 with s1;subst s1;obtain ⟨_,_,_,_,_,o6,o7⟩:=Ru hpt.ot (by omega);have hg1:g'=[1]:=by
   refine s2.pg.one ?_;obtain ⟨E,hE⟩:=hpt.oq;have hE:∀ t,Ug qp t=Ug o t*ev E t:=λt=>by have:=hE t; rwa [Ue,Ue] at this
   obtain ⟨z,hz⟩:=s2.d;have hd1:∀ t,Ug o t=Ug g' t*(Fo o*Ug q t):=λt=>by rw [o7,s2.e]; grind
   have hdo:∀ t,dv (cz o) t=Ug g' t*(Fo o*ev z t):=λt=>by
    have:=Q40 (p:=cz o) (q:=Pq (Fo o) (cz (Uh o))) (λt=>by rw [Ue,Uw,Ue,o7]) t;rw [this,Qd2,hz]; grind
   obtain ⟨k,hk,hkk⟩:=sq.num (d:=cz g') ⟨Fl (Pq (Fo o) (cz q)) E,λt=>by rw [Ue,Ue,hE,hd1,Ui,Uw,Ue]; grind⟩ ⟨H3 (Fl (Pq (Fo o) z) E) (Fl (Pq (Fo o) (cz q)) (Md E)),λt=>by
    have:=Af (f:=cz qp) (w:=cz o) (u:=E) (λt=>by rw [Ue,Ue,hE]) t;rw [Hp,this,hdo,Ue,Ue,hd1,U6,Ui,Ui,Uw,Uw,Hp,Ue]; grind⟩
   rcases Q6 g'.length 2 with e | e
   ·exact e
   ·exfalso;have h1:=(Qaw s2.pg.t (by omega)).1;have h2:=Mt (p:=cz g') (q:=[k]) (λt=>by rw [hkk]; simp only [ev]; grind) (g'.length-1);rw [h2,Qg,Qr (by simp; omega)] at h1;exact h1 rfl
  have hpq:∀ t,ev (cz p) t=((Fo p:Rat)*(Fo o:Rat))*(ev (cz q) t*(ev S t*ev S t)):=λt=>by
   rw [Ue,Ue,p7,hS,o7,s2.e,hg1,P8]; grind
  have hk0:(Fo p:Rat)*(Fo o:Rat)≠0:=λh=>(Jq.1 h).elim (Al p6) (Al o6)
  have hpz:¬∀ t,ev (cz p) t=0:=λh'=>Qff h.t (by omega) λt=>by rw [<-Ue]; exact h' t
  obtain ⟨k,hk⟩:=nmE (Uo ((Fo p:Rat)*(Fo o:Rat)));have hkn:k≠0:=λh=>hk0 (Fa.1 (by rw [<-hk]; exact h))
  have ho:o.length≠0:=by omega
  rw [o1];show ∃ l,(if o.length=0 then some [] else Qjf o)=some l/\l.length<=67/\_;rw [if_neg ho];have hb1:=Qds (Bf s2.pq.t s2.pq.n);have hll:=hRI.len;have hlv:=Zia (c.map cz) (-Fp q);have hcl:=(Orr.chain_ok (p:=o) ⟨hpt.ot,by omega,W9 bo (by omega)⟩ r2).1;rw [Zd] at hlv;refine ⟨l,r3,by omega,hVa,λa ha=>?_⟩;obtain ⟨r,n1,n2⟩:=Q08 hSt ha hRI hVa (λz hz=>(hout _ _ hz (.inl Qn)).symm) λz _ hz=>by
   rcases Classical.em (z=-Fp q) with e | e
   ·rw [e]
   ·exact hout z _ (by grind) (.inr Qn)
  refine ⟨r,n1,?_,λt ht=>by subst ht; exact n2.1⟩;cases r with
  |
   none =>
   obtain ⟨s,hs,hz⟩:=n2;refine .inr ⟨k*s,Jh hkn hs,λc hc hac=>?_⟩;obtain ⟨y,hy⟩:=hc.hi;have h1:RS (cz q) c s:=⟨y,hy,λz z1 _=>hz z (hac z z1)⟩;rw [hk]; exact Q7w hc hk0 hpq hpz h1
  |
   some t =>
   obtain ⟨hm,hlt,s,hs,hz,hrs⟩:=n2;refine ⟨λe=>h0 (by rw [e]; rfl),hVa t hm,hlt,k*s,Jh hkn hs,λc hc hac ⟨m,m1,m2⟩=>?_,?_⟩
   ·have h1:RS (cz q) c s:=⟨m,m1,λz z1 z2=>hz z (hac z z1) (by
     rcases Classical.em (z=m) with e | e
     ·rw [e]; exact m2
     ·exact (hVa t hm).cut.mono' (q:=z) (r:=m) (by grind) (by omega))⟩
    rw [hk]; exact Q7w hc hk0 hpq hpz h1
   ·have:=Q7w (hVa t hm).cut hk0 hpq hpz hrs;rw [<-hk] at this;rw [show -(k*s)=k*-s by rw [Vy]]; exact this
structure Sz (s n:Nat) (t:Tm):Prop where
 n:t.p.length<=n
 b:Bd (s+138) t.p
 g:∃ D M k,Gr D M k t.lo/\Gr D M k t.hi/\0<M/\Ul (D:Int)<=s+138/\Ul (M:Int)<=s+139/\k<=63*s+9507
theorem Q81 {p:List Int} (h:Cp p) {s:Nat} (hs:s≤800) (hb:Bd s p) {l:List Tm} (hl:Lx p=some l):∀ t∈l,t.point=false/\Sz s p.length t:=by
 unfold Lx at hl;by_cases h0:p.length=0
 ·have e:p=[]:=Qh h0;subst e;injection hl with hl;intro t ht; rw [<-hl] at ht; cases ht
 ·obtain ⟨qp,o,q1,o1,hpt⟩:=Quw (n:=9) (s:=800) (p:=p) ⟨⟨by decide,by decide⟩,h.t,h0,h.l,h.b⟩;obtain ⟨p1,p2,p3,p4,p5,p6,p7⟩:=Ru h.t h0;have hpl:=h.l;obtain ⟨hh,th,eh⟩:=hpt.oh;have bo:Bd (s+69) o:=Ah (p5 s hb) (by omega) p1 hpt.ot th (by omega) eh;obtain ⟨lo1,lo2⟩:=Hd p1 (by omega) eh;have hlen:=Sk hpt.ot th p1 eh lo1 lo2;have ho:o.length≠0:=by omega
  have oko:Okp 9 (s+69) o:=⟨Zhz Qn8 (by omega),hpt.ot,by omega,by omega,bo⟩;obtain ⟨q,c,l',r1,r2,r3,_,_,_,_,hlq,hz⟩:=Qsf (by omega) oko;rw [o1,Je,if_neg ho,r3] at hl;have hl:=Option.some.inj hl;subst hl;intro t ht;obtain ⟨e,hlh,bq,D,M,k,g1,g2,g3,g4,g5,g6⟩:=hz t ht;have e6:63*(s+69)+5160=63*s+9507:=by rw [Xu,J7]
  rw [e6] at g6;refine ⟨?_,⟨by rw [e]; omega,by rw [e]; exact W9 bq (by omega),D,M,k,g1,g2,g3,by clear g6 e6; omega,by clear g6 e6; omega,g6⟩⟩;cases hp:t.point with
  | false=>rfl
  |
   true =>
   have:=Tz.1 hp;grind
theorem Q6n {p:List Int} (h:Cp p) {a:Tm} (ha:Va a):∃ r,Qfr p a=some r/\Td p a r:=by
 obtain ⟨l,l1,_,_,l3⟩:=Ox h;obtain ⟨r,r1,r2,_⟩:=l3 a ha;refine ⟨r,?_,r2⟩;unfold Qfr;rw [l1]; exact r1
theorem Qek:∀ (l:List Tm) (b:Tm),(∀ t∈b::l,Va t)->∃ m,Ao b l=some m/\m∈b::l/\∀ t∈b::l,¬Pj t m
 |
  [],b,h=>⟨b,rfl,Qt ..,λt ht h'=>by
  rw [Qp.1 ht] at h';have hb:=(h b (Qt ..)).cut;exact Oa hb hb h' h'⟩
 |
  a::l,b,h=>by
  have ha:=h a (by simp);have hb:=h b (by simp);obtain ⟨c,c1,c2⟩:=O5 ha hb;obtain ⟨m,m1,m2,m3⟩:=Qek l (if c<0 then a else b) λt ht=>by
   rcases Qx.1 ht with rfl | ht
   ·split <;> assumption
   ·exact h t (by simp [ht])
  refine ⟨m,by simp only [Ao]; rw [c1]; exact m1,?_,λt ht=>?_⟩
  ·rcases Qx.1 m2 with e | e
   ·rw [e]; split <;> simp
   ·simp [e]
  ·have hm:Va m:=by
    rcases Qx.1 m2 with e | e
    ·rw [e]; split <;> assumption
    ·exact h m (by simp [e])
   have hfst:=m3 _ (Qt ..);have tr:∀ x y:Tm,Va x->Va y->¬Pj x y->¬Pj y m->¬Pj x m:=λx y hx hy h1 h2 h3=>by
    rcases tri hy.cut hm.cut with h4 | h4 | h4
    ·exact h2 h4
    ·obtain ⟨q,q1,q2⟩:=h3;exact h1 ⟨q,q1,by rw [h4]; exact q2⟩
    ·obtain ⟨q,q1,q2⟩:=h3;obtain ⟨r,r1,r2⟩:=h4;have:=hm.cut.lt q2 r1;exact h1 ⟨q,q1,hy.cut.mono' this (by omega)⟩
   rcases Qx.1 ht with rfl | ht
   ·by_cases hc:c<0
    ·rw [if_pos hc] at hfst;refine tr _ a hb ha ?_ hfst;rcases c2 with ⟨_,h'⟩ | ⟨e,_⟩ | ⟨e,_⟩
     ·exact λh''=>Oa ha.cut hb.cut h' h''
     ·omega
     ·omega
    ·rw [if_neg hc] at hfst; exact hfst
   ·rcases Qx.1 ht with rfl | ht
    ·by_cases hc:c<0
     ·rw [if_pos hc] at hfst; exact hfst
     ·rw [if_neg hc] at hfst;refine tr _ b ha hb ?_ hfst;rcases c2 with ⟨e,_⟩ | ⟨_,h'⟩ | ⟨_,h'⟩
      ·omega
      ·rintro ⟨q,q1,q2⟩
       have:=h' q; omega
      ·exact λh''=>Oa ha.cut hb.cut h'' h'
    ·exact m3 t (by simp [ht])
end Orq
namespace Orr
open Go Go.Proofs Orq
set_option maxRecDepth 10000
theorem Dp.pb {p:List Int} (h:Dp p):Pb p:=⟨h.t,by have:=h.l; omega,W9 h.b (by have:=h.l; omega)⟩
theorem Zix {p:List Int} {a:Tm} (hp:Dp p) (ha:Va a):Ub Tryz.prog 228 [pr p,.agg (ta a)] [.one (.int .i64 (Re a p))]:=Q90 (Dp.pb hp) ha.tb (Q77 hp ha).1
theorem Ziq {p:List Int} {a:Tm} (hp:Dp p) (ha:Va a):Ub Tryz.prog 227 [pr p,.one (.sh (ta a))] [.one (.int .i64 (Re a p))]:=w tt Tryz.func227 rfl [.c [] (Zix hp ha)] rfl rfl trivial
theorem Zal {p:List Int} {fid:Nat} {l1:List LV} {sgn:List Int->Int} (hp:Dp p) (h:∀ p,Dp p->Ub Tryz.prog fid [pr p,.one (.sh l1)] [.one (.int .i64 (sgn p))]):Ub Tryz.prog 226 [pr p,.one (.fn fid [] [.sh l1])] [.one (.int .i64 (To sgn p.length p))]:=by
 have hpb:=Dp.pb hp;refine Gk Tryz.func226 rfl ?_;refine go tt [.c [] (Hk hpb.t hpb.ln hpb.bd)] rfl trivial ?_;refine lp (S:=List Int) 0 (λL1 s=>(0,.v (pr s))::L1) (λ_=>[]) (λs=>s.length) (λs=>Dp s/\To sgn s.length s=To sgn p.length p) p ⟨hp,rfl⟩ rfl (λ_ _=>rfl) rfl λr ⟨j1,j4⟩=>?_
 rw [<-j4];have jb:=Dp.pb j1;by_cases h0:r.length=0
 ·have e:=Qfj sgn h0;rw [e];exact en tt [.f (by simp; exact Qh h0)] rfl rfl trivial
 ·have hs:=h r j1;by_cases hz:sgn r=0
  ·have hlp:=Te r;refine go tt [.t (by simp; omega),.c [] hs,.f (by simpa using hz),.c [] (Ea jb.ln jb.bd)] rfl trivial ?_;exact rd (U3 r) (by omega) ⟨j1.der,by rw [<-Qfi sgn (by omega) hz]⟩ rfl
  ·rw [Qfh sgn (by omega) hz];exact en tt [.t (by simp; omega),.c [] hs,.t (by simpa using hz)] rfl rfl trivial
abbrev gmA (a:Tm) (p:List Int):Int:=B6 (Re a) p
theorem Zee {p:List Int} {a:Tm} (hp:Dp p) (ha:Va a):Ub Tryz.prog 176 [pr p,.agg (ta a)] [.one (.int .i64 (gmA a p))] :=
 w tt Tryz.func176 rfl [.c [] (Zal (sgn:=Re a) hp λ_ h=>Ziq h ha)] rfl rfl trivial
theorem Q3w {t:Tm} {a b:Pt} {ps:List (List Int)} (hps:∀ p∈ps,Dp p) (ht:Va t) (hl:ps.length<1000):Ub Tryz.prog 284 [.agg (ta t),.agg (Hw a),.agg (Hw b),.one (.row (Tg ps))] [.one (.bool (Lt (Re t) a b ps))]:=by
 refine Gk Tryz.func284 rfl ?_;have hpl:(Tg ps).length=ps.length:=by simp [Tg]
 refine go tt [] rfl trivial ?_;refine lp (S:=Nat) 3 (λL1 i=>(13,.v (.one (.int .i64 (i:Int))))::L1) (λ_=>[.blk 74 (ta t),.blk 135 (Hw a),.blk 135 (Hw b)]) (λi=>ps.length-i) (λi=>i<=ps.length/\Lt (Re t) a b (ps.drop i)=Lt (Re t) a b ps) 0 ⟨Qi _,rfl⟩ rfl (λ_ _=>rfl) rfl λi ⟨hi,he⟩=>?_
 rw [<-he];by_cases hlt:i<ps.length
 ·obtain ⟨p,hp⟩:=gxE (l:=ps) (i:=i) hlt;have hd:ps.drop i=p::ps.drop (i+1):=by
   rw [Zn hlt];rw [Qd hlt] at hp; injection hp with hp; rw [hp]
  have hpb:=hps p (Qc hp);rw [hd] at he ⊢;by_cases h0:0<p.length
  ·exact en tt [.t (by simp [hpl]; omega),.x (Hb hp),.t (by simp; omega),.c [] (Zee hpb ht)] rfl (by simp only [Lt]; rw [if_pos h0]) trivial
  ·refine go tt [.t (by simp [hpl]; omega),.x (Hb hp),.f (by simp; exact Qh (by omega))] rfl (by simp [Ua]; omega) ?_;exact rd (i+1) (by omega) ⟨hlt,by simp only [Lt]; rw [if_neg h0]⟩ rfl
 ·have hd:ps.drop i=[]:=Yo (by omega);rw [hd];exact en tt [.f (by simp [hpl]; omega)] rfl rfl trivial
structure Sc (k:Crv):Prop where
 n:Nml k
 c:Cs 90 3 k
theorem Sc.cb {k:Crv} (h:Sc k):Cb k:=h.c.mono (by omega) (by omega)
theorem Iw {a b:Crv} (ha:Sc a) (hb:Sc b):Cp (He a b):=by
 refine ⟨Ut _ _,?_,W9 (Dy (U9 hb.c.x ha.c.d) (U9 ha.c.x hb.c.d)) (by omega)⟩;have:=Mv (Uu b.x a.d) (Uu a.x b.d);have:=Uz b.x a.d; have:=Uz a.x b.d; have:=ha.c.lx; have:=hb.c.lx;unfold He; omega
theorem Iv {a b:Crv} (ha:Sc a) (hb:Sc b):Cp (Gw a b):=by
 refine ⟨Ut _ _,?_,W9 (Dy (U9 hb.c.y ha.c.d) (U9 ha.c.y hb.c.d)) (by omega)⟩;have:=Mv (Uu b.y a.d) (Uu a.y b.d);have:=Uz b.y a.d; have:=Uz a.y b.d; have:=ha.c.ly; have:=hb.c.ly;unfold Gw; omega
theorem Qwn {a b:Pt} {t:Tm} (ha:Sc a.c) (hb:Sc b.c) (ht:Va t):Ub Tryz.prog 239 [.agg (Hw a),.agg (Hw b),.agg (ta t)] [.one (.bool (Pu (Re t) a b))] :=
 w tt Tryz.func239 rfl [.c [] (Qwm hb.n ha.n hb.cb ha.cb),.c [] (Qwv hb.n ha.n hb.cb ha.cb),.c [] (Q3w (t:=t) (a:=a) (b:=b) (ps:=[Gw b.c a.c,He b.c a.c]) (λp hp=>by
  simp at hp;rcases hp with rfl | rfl
  ·exact (Iv hb ha).dp
  ·exact (Iw hb ha).dp) ht (show 2<1000 by decide))] rfl rfl trivial
theorem Ze8 (q:Rat) {P:Prop} (h:(tq q).point=false):P:=by
 have e:(tq q).point=true:=Tz.2 Qn;rw [e] at h; cases h
theorem Q10 {q:Rat} (hq:Qs 400000 q):Va (tq q):=by
 have hd:=q.den_nz;refine ⟨.inl ⟨rfl,?_⟩,Qo2 q,by show 2<=9; omega,by show 2<=2; omega,Zip (hq.mono (by omega)),Ze8 q,Ze8 q,q.den,q.num.natAbs+1,0,?_,?_,by omega,?_⟩
 ·have e:(q.num:Rat)=q*(q.den:Rat):=by
   have:(q.num:Rat) / (((q.den:Int)):Rat)=q:=by rw [Gg,Zq]
   have h2:(q.num:Rat) / (q.den:Rat)*(q.den:Rat)=q.num:=Zi (by have:=Orq.nat_pos q.den_pos; grind);rw [show (q.num:Rat) / (q.den:Rat)=q from this] at h2; exact h2.symm
  show Ug [-q.num,(q.den:Int)] q=0;simp only [Ug];rw [Y8,e,show (((q.den:Int)):Rat)=(q.den:Rat) from rfl]; grind
 all_goals first | (have h1:Ul (q.den:Int)<=400000:=hq.2; have h2:Ul ((q.num.natAbs+1:Nat):Int)<=400001:=Q0x hq.1; omega) | skip
 all_goals
  refine ⟨⟨q.num,?_⟩,?_,q.den_pos⟩
  ·rw [Yx,Yq];have:(q.num:Rat) / (((q.den:Int)):Rat)=q:=by rw [Gg,Zq]
   have h2:(q.num:Rat) / (q.den:Rat)*(q.den:Rat)=q.num:=Zi (by have:=Orq.nat_pos q.den_pos; grind);rw [show (q.num:Rat) / (q.den:Rat)=q from this] at h2; exact h2
  ·have h1:Uk q<=Uk (q.num:Rat):=by
    have e:(q.num:Rat)=q*(q.den:Rat):=by
     have:(q.num:Rat) / (((q.den:Int)):Rat)=q:=by rw [Gg,Zq]
     have h2:(q.num:Rat) / (q.den:Rat)*(q.den:Rat)=q.num:=Zi (by have:=Orq.nat_pos q.den_pos; grind);rw [show (q.num:Rat) / (q.den:Rat)=q from this] at h2; exact h2.symm
    rw [e,Cn];have hd1:(1:Rat)<=(q.den:Rat):=by
     have:((1:Nat):Rat)<=(q.den:Rat):=Zb.2 q.den_pos;exact this
    have e2:Uk (q.den:Rat)=(q.den:Rat):=by unfold Uk; rw [if_neg (by grind)]
    rw [e2];have:=S0 (a:=Uk q) (c:=1) (Gj q) Qn (by decide) hd1;grind
   rw [Ry] at h1;refine Q7 h1 (Zb.2 (by omega))
theorem Qkt {p q:List Int} (hp:Cp p) (hq:Cp q):Cp (Lm p q):=by unfold Lm; split <;> assumption
end Orr
namespace Orr
variable {α:Type}
def S6 (lt:α->α->Bool) (out:List α) (x:α):Nat->Nat
 | 0=>0
 |
  k+1=>match out[k]? with
  | some y=>if lt x y=true then S6 lt out x k else k+1
  | none=>k+1
theorem Qoe (lt:α->α->Bool) (out:List α) (x:α):∀ k,S6 lt out x k<=k
 | 0=>Qj _
 |
  k+1=>by
  simp only [S6]
  split
  ·split
   ·exact Nat.le_succ_of_le (Qoe lt out x k)
   ·exact Qj _
  ·exact Qj _
theorem Qcv {lt:α->α->Bool} {out:List α} {x y:α} {k:Nat} (hx:out[k]? = some y) (h:lt x y=true):S6 lt out x (k+1)=S6 lt out x k:=by
 simp only [S6,hx,h,if_true]
theorem Of {lt:α->α->Bool} {out:List α} {x y:α} {k:Nat} (hx:out[k]? = some y) (h:lt x y=false):S6 lt out x (k+1)=k+1:=by
 simp [S6,hx,h]
def Ns (lt:α->α->Bool) (out:List α) (x:α):List α:=out.take (S6 lt out x out.length)++x::out.drop (S6 lt out x out.length)
theorem Q50 (lt:α->α->Bool) (out:List α) (x:α):(Ns lt out x).length=out.length+1:=by
 have:=Qoe lt out x out.length;simp [Ns]; omega
theorem Qio {lt:α->α->Bool} {out:List α} {x y:α}:y∈Ns lt out x↔y=x\/y∈out:=by
 have h:y∈out↔y∈out.take (S6 lt out x out.length)\/y∈out.drop (S6 lt out x out.length):=by
  rw [<-Q0,Q9]
 simp only [Ns,Q0,Qx,h];constructor
 ·rintro (h | h | h)
  ·exact .inr (.inl h)
  ·exact .inl h
  ·exact .inr (.inr h)
 ·rintro (h | h | h)
  ·exact .inr (.inl h)
  ·exact .inl h
  ·exact .inr (.inr h)
def Gn (lt:α->α->Bool) (l:List α):List α:=l.foldl (Ns lt) []
theorem Qvz (lt:α->α->Bool) (l:List α) (x:α):Gn lt (l++[x])=Ns lt (Gn lt l) x:=by simp [Gn,Vg]
theorem Qbo {lt:α->α->Bool} {l:List α} {i:Nat} {x:α} (h:l[i]? = some x):Gn lt (l.take (i+1))=Ns lt (Gn lt (l.take i)) x:=by
 rw [Xa,h]; exact Qvz _ _ _
theorem Qih (lt:α->α->Bool):∀ (l acc:List α),(l.foldl (Ns lt) acc).length=acc.length+l.length
 | [],acc=>by simp
 | c::l,acc=>by simp only [Xk]; rw [Qih lt l (Ns lt acc c),Q50]; simp; omega
theorem Pi (lt:α->α->Bool) (l:List α):(Gn lt l).length=l.length:=by unfold Gn; rw [Qih]; simp
theorem Qii (lt:α->α->Bool):∀ (l acc:List α) {y:α},y∈l.foldl (Ns lt) acc↔y∈l\/y∈acc
 | [],acc,y=>by simp
 |
  c::l,acc,y=>by
  simp only [Xk];rw [Qii lt l,Qio,Qx];constructor
  ·rintro (h | h | h)
   ·exact .inl (.inr h)
   ·exact .inl (.inl h)
   ·exact .inr h
  ·rintro ((h | h) | h)
   ·exact .inr (.inl h)
   ·exact .inl h
   ·exact .inr (.inr h)
theorem Qan {lt:α->α->Bool} {l:List α} {y:α}:y∈Gn lt l↔y∈l:=by
 unfold Gn; rw [Qii]; simp
end Orr
namespace Orr
open Go Orq
structure Wt where
 c:Ct
 known:Bool
 fails:Option Tm
def f0:Option Tm->LV | none=>.row [] | some t=>pl t.p
def f1:Option Tm->LV | none=>.bool false | some t=>sg t.lo.num
def f2:Option Tm->LV | none=>.row [] | some t=>mg t.lo.num
def f3:Option Tm->LV | none=>.bool false | some t=>sg (t.lo.den:Int)
def f4:Option Tm->LV | none=>.row [] | some t=>mg (t.lo.den:Int)
def f5:Option Tm->LV | none=>.bool false | some t=>sg t.hi.num
def f6:Option Tm->LV | none=>.row [] | some t=>mg t.hi.num
def f7:Option Tm->LV | none=>.bool false | some t=>sg (t.hi.den:Int)
def f8:Option Tm->LV | none=>.row [] | some t=>mg (t.hi.den:Int)
abbrev fl (o:Option Tm):List LV:=[f0 o,f1 o,f2 o,f3 o,f4 o,f5 o,f6 o,f7 o,f8 o]
abbrev wl (w:Wt):List LV:=[.int .i64 w.c.kind,.int .i64 w.c.i0,.int .i64 w.c.i1,.int .i64 w.c.i2,.int .i64 w.c.i3,pl w.c.p,.int .i64 w.c.want,.bool w.known,.bool w.fails.isSome,f0 w.fails,f1 w.fails,f2 w.fails,f3 w.fails,f4 w.fails,f5 w.fails,f6 w.fails,f7 w.fails,f8 w.fails]
def A3 (l:List Wt):List (List LV):=l.map λw=>wl w
theorem Rx {l:List Wt} {i:Nat} {w:Wt} (h:l[i]? = some w):(A3 l)[i]? = some (wl w):=Ga h
theorem Nc (l:List Wt):(A3 l).length=l.length:=by simp [A3]
structure Cr where
 now:Tm
 l:List Wt
 ev:Int
structure WtOk (w:Wt):Prop where
 p:Cp w.c.p
 f:∀ t,w.fails=some t->Va t
structure CrOk (c:Cr):Prop where
 n:Va c.now
 l:∀ w∈c.l,WtOk w
 k:c.l.length<=1000
def Q75 (a b:Ct):Bool:=decide ([a.kind,a.i0,a.i1,a.i2,a.i3]=[b.kind,b.i0,b.i1,b.i2,b.i3])
def fresh (x:Ct):Wt:=⟨x,false,none⟩
def Dh:List Wt->Ct->Tm->Option Wt
 | [],x,_=>some (fresh x)
 |
  w::l,x,at_=>if Q75 w.c x=true/\w.known=true/\w.c.p=x.p then
   match w.fails with
   | none=>some ⟨x,true,none⟩
   | some t=>(Qf4 t at_).bind λc=>if 0<c then some ⟨x,true,some t⟩ else Dh l x at_
  else Dh l x at_
def Qcf (old:List Wt) (at_:Tm):List Ct->Option (List Wt)
 | []=>some []
 | x::l=>(Dh old x at_).bind λw=>(Qcf old at_ l).bind λr=>some (w::r)
end Orr
namespace Orr
open Go Go.Proofs Orq
set_option maxRecDepth 10000
theorem Qcg {old:List Wt} {at_:Tm}:∀ {l:List Ct} {ws:List Wt},Qcf old at_ l=some ws->ws.length=l.length/\∀ (i:Nat) (x:Ct),l[i]? = some x->∃ w,Dh old x at_=some w/\ws[i]? = some w
 | [],ws,h=>by injection h with h; subst h; exact ⟨rfl,λi x hx=>by simp at hx⟩
 |
  y::l,ws,h=>by
  simp only [Qcf] at h;obtain ⟨w,hw,h⟩:=Qe.1 h;obtain ⟨r,hr,h⟩:=Qe.1 h;injection h with h; subst h;obtain ⟨a,b⟩:=Qcg hr;refine ⟨by simp [a],λi x hx=>?_⟩;cases i with
  | zero=>injection hx with hx; subst hx; exact ⟨w,hw,rfl⟩
  | succ i=>exact b i x (by simpa using hx)
theorem Qe8 {l:List Wt} {i:Nat} {w:Wt} (h:l[i]? = some w):A3 (l.take (i+1))=A3 (l.take i)++[wl w]:=by
 rw [Xa,h]; simp [A3]
theorem eB {a b:Bool} (h:a=b):TV.one (LV.bool a)=.one (.bool b):=h ▸ rfl
theorem Qgr:∀ {k:Nat} {g:List Int} {l:List (List Int)},Pb g->Qej k g=some l->l.length≤k/\∀ p∈l,Pb p
 | 0,_,_,_,h=>by cases h
 |
  k+1,g,l,hg,h=>by
  simp only [Qej] at h
  split at h
  ·injection h with h; subst h; exact ⟨by simp,λp hp=>by cases hp⟩
  ·obtain ⟨d,hd,h⟩:=Qe.1 h;obtain ⟨rfl,hdp⟩:=Qi5 hd;obtain ⟨x,hx,h⟩:=Qe.1 h;obtain ⟨q,hq,h⟩:=Qe.1 h;obtain ⟨r,hr,h⟩:=Qe.1 h;injection h with h; subst h;obtain ⟨i1,i2⟩:=Qgr (Qes hg hdp hx) hr;refine ⟨by simp; exact i1,λp hp=>?_⟩;rcases Qx.1 hp with rfl | hp
   ·exact Qu0 hq
   ·exact i2 p hp
theorem Q3s {a:List Int} {l:List (List Int)} (ha:Pb a) (h:Qej 66 (Uh a)=some l):Ub Tryz.prog 332 [pr a] [.one (.row (Tg l))]:=by
 have hp:=Hn ha;refine Gk Tryz.func332 rfl ?_;refine go tt [.o 3 48 1,.c [] (D3 ha)] rfl trivial ?_;refine lp (S:=Nat×List (List Int)×List Int) 1 (λL1 s=>(4,.v (pr s.2.2))::(3,.v (.one (.orow 0 1 none)))::L1) (λs=>[.row false 48 1 (Tg s.2.1)]) (λs=>s.1) (λs=>Pb s.2.2/\s.2.1.length+s.1<=66/\∃ m,Qej s.1 s.2.2=some m/\s.2.1++m=l) (66,[],Uh a) ⟨hp,Qj _,l,h,rfl⟩ rfl (λ_ _=>rfl) rfl λ⟨k,out,g⟩ ⟨j1,j2,m,j3,j4⟩=>?_
 dsimp only at j1 j2 j3 j4 ⊢;cases k with
 | zero=>cases j3
 |
  succ k =>
  simp only [Qej] at j3
  split at j3
  ·rename_i h0;injection j3 with j3; subst j3;rw [Xj] at j4;subst j4;exact en tt [.c [] (Mg _),.f (by simp; omega)] rfl rfl trivial
  ·rename_i h0;obtain ⟨d,hd,j3⟩:=Qe.1 j3;obtain ⟨rfl,hdp⟩:=Qi5 hd;obtain ⟨x,hx,j3⟩:=Qe.1 j3;obtain ⟨q,hq,j3⟩:=Qe.1 j3;obtain ⟨r,hr,j3⟩:=Qe.1 j3;injection j3 with j3; subst j3;have hxp:=Qes j1 hdp hx;refine go tt [.c [] (Mg _),.t (by simp; omega),.c [] (Ea j1.ln j1.bd),.c [] (Qxa j1 hdp hx),.c [] (Q34 j1 hxp hq),.s (sz:=1) (l:=[[pl q]]) (λc hc=>by rw [Qp.1 hc]; rfl)] rfl (by simp [Ua,Cz]; omega) ?_;exact rd (k,out++[q],x) (by dsimp only; omega) ⟨hxp,by simp; omega,r,hr,by rw [<-j4]; simp⟩ (by rw [Qi8]; rfl)
theorem Qib:∀ {l r:List (List Int)},Qj4 l=some r->r.length=l.length/\∀ i w,l[i]? = some w->(match l[i+1]? with | some v=>∃ f,Og w v=some f/\r[i]? = some f | none=>r[i]? = some w)
 | [],r,h=>by injection h with h; subst h; exact ⟨rfl,λi w hw=>by simp at hw⟩
 |
  [w],r,h=>by
  injection h with h; subst h;refine ⟨rfl,λi x hx=>?_⟩;cases i with
  | zero=>simpa using hx
  | succ i=>simp at hx
 |
  w::v::l,r,h=>by
  simp only [Qj4] at h;obtain ⟨f,hf,h⟩:=Qe.1 h;obtain ⟨s,hs,h⟩:=Qe.1 h;injection h with h; subst h;obtain ⟨i1,i2⟩:=Qib hs;refine ⟨by simp [i1],λi x hx=>?_⟩;cases i with
  |
   zero =>
   injection hx with hx; subst hx;exact ⟨f,hf,rfl⟩
  |
   succ i =>
   have:=i2 i x (by simpa using hx);simpa using this
theorem Qng:∀ {l r:List (List Int)},(∀ p∈l,Pb p)->Qj4 l=some r->∀ p∈r,Pb p
 | [],r,_,h=>by injection h with h; subst h; exact λp hp=>by cases hp
 | [w],r,hl,h=>by injection h with h; subst h; exact hl
 |
  w::v::l,r,hl,h=>by
  simp only [Qj4] at h;obtain ⟨f,hf,h⟩:=Qe.1 h;obtain ⟨s,hs,h⟩:=Qe.1 h;injection h with h; subst h;intro p hp;rcases Qx.1 hp with rfl | hp
  ·exact Qu0 hf
  ·exact Qng (λp hp=>hl p (Ql _ hp)) hs p hp
theorem Qzx {a:List Int} {l r:List (List Int)} (ha:Pb a) (h:Qej 66 (Uh a)=some l) (hr:Qj4 l=some r):Ub Tryz.prog 302 [pr a] [.one (.row (Tg r))]:=by
 obtain ⟨i1,i2⟩:=Qgr (Hn ha) h;obtain ⟨j1,j2⟩:=Qib hr;have hw:=Cz l;refine Gk Tryz.func302 rfl ?_;refine go tt [.c [] (Q3s ha h),.i (Tg l).length,.i (Tg l).length] rfl (by simp [Ua,hw]; omega) ?_;rw [hw,Dd λi=>[pl (r.getD i [])]];refine lp (S:=Nat) 1 (λL1 k=>(14,.v (.one (.int .i64 (k:Int))))::L1) (λk=>[.row false 48 1 (fil (λi=>[pl (r.getD i [])]) [.nils] l.length k)]) (λk=>l.length-k) (λk=>k<=l.length) 0 (Qi _) rfl (λ_ _=>rfl) rfl λk hk=>?_
 by_cases hlt:k<l.length
 ·obtain ⟨w,hx⟩:=gxE (l:=l) (i:=k) hlt;have e:=Aj (λi=>[pl (r.getD i [])]) [.nils] hlt;have hg:=j2 k w hx;by_cases h2:k+1<l.length
  ·obtain ⟨v,hv⟩:=gxE (l:=l) (i:=k+1) h2;rw [hv] at hg;obtain ⟨f,f1,f2⟩:=hg;have e2:r.getD k []=f:=by rw [Qg,f2]; rfl
   rw [e2] at e;refine go tt [.t (by simp [hw]; omega),.x (Hb hx),.i k,.t (by simp [hw]; omega),.x (i:=k+1) (Hb hv),.c [] (Q34 (i2 w (Qc hx)) (i2 v (Qc hv)) f1),.i k] rfl (by simp [Ua,Lc,hw]; omega) ?_;rw [List.set_set,e];exact rd (k+1) (by omega) hlt rfl
  ·have hv:l[k+1]? = none:=Qr (by omega);rw [hv] at hg;have e2:r.getD k []=w:=by rw [Qg,hg]; rfl
   rw [e2] at e;refine go tt [.t (by simp [hw]; omega),.x (Hb hx),.i k,.f (by simp [hw]; omega)] rfl (by simp [Ua,Lc,hw]; omega) ?_;rw [e];exact rd (k+1) (by omega) hlt rfl
 ·obtain rfl:k=l.length:=by omega
  have e:fil (λi=>[pl (r.getD i [])]) [.nils] l.length l.length=Tg r:=by
   rw [Ai,<-j1];refine Xs λi=>?_
   simp only [Tg,Q5];by_cases hi:i<r.length
   ·rw [X2 hi]; simp [Qg,Qd hi]
   ·rw [Qr (by simpa using hi),Qr (by simpa using hi)]; rfl
  rw [e];exact en tt [.f (by simp [hw])] rfl rfl trivial
theorem Qu7 {p:List Int} (tp:Uf p):Uh (Uh p)=Uh p:=by
 by_cases h:p.length=0
 ·have e:Uh p=[]:=by unfold Uh; rw [if_pos h]
  rw [e]; rfl
 ·obtain ⟨h1,h2,h3,h4,_⟩:=Ru tp h;have hc:H7 (Uh p)=1:=by
   have h5:H7 (Uh p)∣1:=h3 _ λk=>by
    by_cases hk:k<(Uh p).length
    ·rw [Qg,Qd hk]; exact Cx _ (Xv hk)
    ·rw [Qg,Qr (by omega)]; exact Int.dvd_zero _
   have h6:0<=H7 (Uh p):=by unfold H7; omega
   exact Int.eq_one_of_dvd_one h6 h5
  have hf:∀ q:List Int,0<Un q->Fo q=H7 q:=λq hq=>by unfold Fo; rw [if_neg (by omega)]
  have hf:=(hf _ h4).trans hc;have e0:∀ q:List Int,q.length≠0->Uh q=Nl q (Fo q):=λq hq=>by unfold Uh; rw [if_neg hq]
  have e:=e0 (Uh p) (by omega);rw [hf] at e;rw [e];unfold Nl;have e2:(Uh p).map (· / (1:Int))=Uh p:=by
   conv=>rhs; rw [<-List.map_id (Uh p)]
   exact Yy λz _=>by simp
  rw [e2];exact h1
theorem Qzi (i:Nat):(i:Int).tmod 2=((i % 2:Nat):Int):=rfl
theorem Zfu {a:List Int} (ha:Pb a) (h:(Uh a).length=0):Ub Tryz.prog 262 [pr a] [pr []] :=
 w tt Tryz.func262 rfl [.c [] (D3 ha),.t (by simp [Qh h])] rfl rfl trivial
theorem Qae:∀ {l:List (List Int)} {i:Nat} {p o:List Int},Pb p->(∀ f∈l,Pb f)->Qcp i p l=some o->Pb o
 | [],i,p,o,hp,_,h=>by simp only [Qcp] at h; injection h with h; subst h; exact hp
 |
  f::l,i,p,o,hp,hl,h=>by
  simp only [Qcp] at h
  split at h
  ·obtain ⟨q,hq,h⟩:=Qe.1 h;obtain ⟨rfl,hq'⟩:=E9 (Gd _ _) hq;exact Qae hq' (λf hf=>hl f (Ql _ hf)) h
  ·exact Qae hp (λf hf=>hl f (Ql _ hf)) h
theorem Q6y:Pb [1]:=⟨rfl,by decide,λz hz=>by rw [Qp.1 hz]; decide⟩
theorem Ziu {a o:List Int} (ha:Pb a) (h:Qu4 a=some o):Ub Tryz.prog 262 [pr a] [pr o]:=by
 unfold Qu4 at h
 split at h
 ·rename_i h0;injection h with h; subst h;exact Zfu ha h0
 rename_i h0;obtain ⟨l,hl,h⟩:=Qe.1 h;obtain ⟨fs,hf,h⟩:=Qe.1 h;have hpa:=Hn ha;have hl':Qej 66 (Uh (Uh a))=some l:=by rw [Qu7 ha.t]; exact hl
 obtain ⟨i1,i2⟩:=Qgr (Hn ha) hl;have i3:=Qng i2 hf;obtain ⟨j1,_⟩:=Qib hf;have hw:=Cz fs;have co:=Q26 (p:=[1]) (by decide) (λz hz=>by rw [Qp.1 hz]; decide);rw [show trim [1]=[1] from rfl] at co;refine Gk Tryz.func262 rfl ?_;refine go tt [.c [] (D3 ha),.f (by simpa using h0),.c [] co,.c [] (Qzx hpa hl' hf)] rfl (by simp [Ua]) ?_;refine lp (S:=Nat×List Int) 0 (λL1 s=>(16,.v (.one (.int .i64 (s.1:Int))))::(3,.v (pr s.2))::L1) (λ_=>[]) (λs=>fs.length-s.1) (λs=>s.1<=fs.length/\Pb s.2/\Qcp s.1 s.2 (fs.drop s.1)=some o) (0,[1]) ⟨Qi _,Q6y,h⟩ rfl (λ_ _=>rfl) rfl λ⟨i,p⟩ ⟨k1,k2,k3⟩=>?_
 dsimp only at k1 k2 k3 ⊢;by_cases hlt:i<fs.length
 ·obtain ⟨f,hx⟩:=gxE (l:=fs) (i:=i) hlt;have hdr:fs.drop i=f::fs.drop (i+1):=by
   rw [Zn hlt]; congr 1;have:=Qd hlt; rw [hx] at this; injection this with this; exact this.symm
  rw [hdr] at k3;simp only [Qcp] at k3;have pf:=i3 f (Qc hx);by_cases h2:i % 2=0
  ·rw [if_pos h2] at k3;obtain ⟨q,hq,k3⟩:=Qe.1 k3;obtain ⟨rfl,hq'⟩:=E9 (Gd _ _) hq;refine go tt [.t (by simp [hw]; omega),.x (Hb hx),.t (by rw [Qzi,h2]; rfl),.c [] (Zfw k2.t pf.t (Zx k2.l (by decide)) (Zx pf.l (by decide)) k2.b pf.b (by decide))] rfl (by simp [Ua]; omega) ?_;exact rd (i+1,Fv p f) (by dsimp only; omega) ⟨hlt,hq',k3⟩ rfl
  ·rw [if_neg h2] at k3;refine go tt [.t (by simp [hw]; omega),.x (Hb hx),.f (by rw [Qzi,show i % 2=1 by omega]; rfl)] rfl (by simp [Ua]; omega) ?_;exact rd (i+1,p) (by dsimp only; omega) ⟨hlt,k2,k3⟩ rfl
 ·obtain rfl:i=fs.length:=by omega
  rw [Vr] at k3;simp only [Qcp] at k3;injection k3 with k3; subst k3;exact en tt [.f (by simp [hw])] rfl rfl trivial
theorem Am (z:Int):Ul (z.natAbs:Int)=Ul z:=by unfold Ul; simp
theorem Q3k {x y:LV} {z:Int} (hi:Ho x y z) (hs:Ul z<=4294967295):Ub Tryz.prog 328 [.agg [x,y]] [.agg (Gb (z.natAbs:Int))]:=by
 obtain ⟨b,l,rfl,rfl,hl,rfl⟩:=hi;have e:(Uj false (val l))=((Uj b (val l)).natAbs:Int):=by rw [Hj]; rfl
 rw [<-e];exact w tt Tryz.func328 rfl [.c [] (Qa4 hl (Qa (Tx hs) (by decide))),.c [] (Sa _ _)] rfl rfl trivial
theorem Zat {n d:Int} (h0:d≠0) (hn:Ul n<=4294967295) (hd:Ul d<=4294967295):Ub Tryz.prog 329 [.agg (Gb n),.agg (Gb d)] [.agg (rl (Rat.divInt n d)),.one (.int .i64 0)] :=
 w tt Tryz.func329 rfl [.c [] (Cg (Ud d) hd),.c [] Ll,.f (by simpa using h0),.c [] (Cg (Ud n) hn),.c [] (Io h0 hn hd)] rfl rfl trivial
theorem Q04 (l:List Int) (z:Int):most (l++[z])=if most l<z.natAbs then z.natAbs else most l:=by unfold most; rw [List.foldl_append]; rfl
theorem Qyn {s:Nat}:∀ {l:List Int},Bd s l->Ul (most l:Int)<=s:=λ{l}=>by
 suffices h:∀ (l:List Int) (m:Nat),Bd s l->Ul (m:Int)<=s->Ul ((l.foldl (λm z=>if m<z.natAbs then z.natAbs else m) m:Nat):Int)<=s from λhb=>h l 0 hb (by simp [Ul,sz])
 intro l
 induction l with
 | nil=>exact λm _ h=>h
 |
  cons z l ih =>
  intro m hb hm;refine ih _ (λy hy=>hb y (Ql _ hy)) ?_;show Ul ((if m<z.natAbs then z.natAbs else m:Nat):Int)<=s
  split
  ·rw [Am]; exact hb z (Qt ..)
  ·exact hm
def ozi:Option Nat->List LV
 | none=>[.bool false,.nils]
 | some m=>Gb (m:Int)
def ozr:Option Nat->List LV
 | none=>[.bool false,.row []]
 | some m=>Gb (m:Int)
theorem Q91 {p:List Int} (hp:Pb p) (h0:p.length≠0):Ub Tryz.prog 299 [pr p] [.agg (rl (Fp p)),.one (.int .i64 0)]:=by
 have hl:=hp.l;have hll:(p.take (p.length-1)).length=p.length-1:=by simp
 have hbt:Bd 16777216 (p.take (p.length-1)):=λz hz=>hp.b z (Qk hz)
 refine Gk Tryz.func299 rfl ?_;refine go tt [.c [] (Hk hp.t hp.ln hp.bd),.f (by simpa using h0),.r 18 (eI (b:=((p.length-1:Nat):Int)) (by simp; omega)),.i (p.length-1)] rfl (by simp [Ua]; omega) ?_;rw [<-Jo];refine lp (S:=Nat×Option Nat) 2 (λL1 s=>(21,.v (.one (.int .i64 (s.1:Int))))::L1) (λs=>[.blk 72 [.bool false,.nils,.bool false,.nils],.blk 51 (ozi s.2)]) (λs=>p.length-1-s.1) (λs=>s.1<=p.length-1/\most ((p.take (p.length-1)).take s.1)=s.2.getD 0) (0,none) ⟨Qi _,rfl⟩ rfl (λ_ _=>rfl) rfl λ⟨i,o⟩ ⟨j1,j2⟩=>?_
 dsimp only at j1 j2 ⊢;by_cases hlt:i<p.length-1
 ·obtain ⟨z,hz⟩:=gxE (l:=(p.take (p.length-1))) (i:=i) (by omega);have bz:Ul z<=16777216:=hbt z (Qc hz);have hst:most ((p.take (p.length-1)).take (i+1))=if o.getD 0<z.natAbs then z.natAbs else o.getD 0:=by
   rw [Xa,hz]; show most (_++[z])=_; rw [Q04,j2]
  have ca:=Q3k (Ud z) (Qa bz (by decide));have hl1:decide ((i:Int)<(((p.take (p.length-1)).map Gb).length:Int))=true:=by simp; omega
  have bm:Ul ((o.getD 0:Nat):Int)<=16777216:=by rw [<-j2]; exact Qyn λy hy=>hbt y (Qk hy)
  have hcm:Mm (z.natAbs:Int) ((o.getD 0:Nat):Int)>0↔o.getD 0<z.natAbs:=by unfold Mm; split <;> (try split) <;> omega
  have cc:Ub Tryz.prog 214 [.agg (Gb (z.natAbs:Int)),.agg (ozr o)] [.one (.int .i64 (Mm (z.natAbs:Int) ((o.getD 0:Nat):Int)))]:=by
   cases o with
   | none=>exact Qhl (Ud _) Nt (by rw [Am]; omega) (by decide)
   | some m=>exact Qhl (Ud _) (Ud _) (by rw [Am]; omega) (Qa bm (by decide))
  by_cases hc:o.getD 0<z.natAbs
  ·rw [if_pos hc] at hst;have hd:decide (Mm (z.natAbs:Int) ((o.getD 0:Nat):Int)>0)=true:=by simpa using hcm.2 hc
   cases o <;> (refine go tt [.t hl1,.x (Ga (f:=Gb) hz),.c [] ca,.c [] cc,.t hd] rfl (by simp [Ua]; omega) ?_; exact rd (i+1,some z.natAbs) (by dsimp only; omega) ⟨hlt,hst⟩ rfl)
  ·rw [if_neg hc] at hst;have hd:decide (Mm (z.natAbs:Int) ((o.getD 0:Nat):Int)>0)=false:=by
    have:=mt hcm.1 hc; simpa using this
   cases o with
   | none=>refine go tt [.t hl1,.x (Ga (f:=Gb) hz),.c [] ca,.c [] cc,.f hd] rfl (by simp [Ua]; omega) ?_; exact rd (i+1,none) (by dsimp only; omega) ⟨hlt,hst⟩ rfl
   | some m=>refine go tt [.t hl1,.x (Ga (f:=Gb) hz),.c [] ca,.c [] cc,.f hd] rfl (by simp [Ua]; omega) ?_; exact rd (i+1,some m) (by dsimp only; omega) ⟨hlt,hst⟩ rfl
 ·obtain rfl:i=p.length-1:=by omega
  rw [Qm (by omega)] at j2;have bl:Ul (Un p)<=16777216:=hp.b _ (Qiv h0);have ln:((Un p).natAbs:Int)≠0:=by have:=Bf hp.t h0; omega
  have cl:=Ba hp.t hp.ln hp.bd;have ca:=Q3k (Ud (Un p)) (Qa bl (by decide));have bm:Ul ((o.getD 0:Nat):Int)<=16777216:=by rw [<-j2]; exact Qyn hbt
  have cd:Ub Tryz.prog 286 [.agg (Gb ((Un p).natAbs:Int)),.agg (ozr o)] [.agg (Gb (((Un p).natAbs:Int)+(most (p.take (p.length-1)):Int)))]:=by
   rw [j2];cases o with
   | none=>exact Qa5 (Ud _) Nt (by rw [Am]; omega) (by decide)
   | some m=>exact Qa5 (Ud _) (Ud _) (by rw [Am]; omega) (Qa bm (by decide))
  have cm:=Zat (n:=((Un p).natAbs:Int)+(most (p.take (p.length-1)):Int)) ln (Qa (An _ _) (by rw [Am,j2]; omega)) (by rw [Am]; omega);have hf:decide (((p.length-1:Nat):Int)<(((p.take (p.length-1)).map Gb).length:Int))=false:=by simp
  cases o <;> exact en tt [.f hf,.c [] cl,.c [] ca,.c [] cd,.c [] cm] rfl rfl trivial
theorem Zeb {z:Int}:Ub Tryz.prog 344 [.agg (Gb z)] [.one (.int .i64 (Int.sign z))]:=by
 by_cases h0:z=0
 ·subst h0;exact w tt Tryz.func344 rfl [.t (by simp [Uc,Fu])] rfl rfl trivial
 ·have hl:(Ux z.natAbs).length≠0:=λh=>h0 (Q0z.1 h)
  have hl':decide (((lm (Ux z.natAbs)).length:Int)=0)=false:=by simpa [Uc] using hl
  by_cases h1:z<0
  ·rw [X3 h1];exact w tt Tryz.func344 rfl [.f hl',.t (by simpa using h1)] rfl rfl trivial
  ·rw [Jc (by omega)];exact w tt Tryz.func344 rfl [.f hl',.f (by simpa using h1)] rfl rfl trivial
theorem Q2s {p:List Int} (hp:Pb p):Ub Tryz.prog 342 [pr p] [.one (.int .i64 (If p)),.one (.int .i64 (Qb6 p))]:=by
 have hb:-1<=(Un p).sign/\(Un p).sign<=1:=by rcases Dv (Un p) with h | h | h <;> omega
 by_cases h:p.length % 2=0
 ·have e:If p=-(Un p).sign:=by unfold If; rw [if_pos h]
  rw [e];exact w tt Tryz.func342 rfl [.c [] (Hk hp.t hp.ln hp.bd),.c [] (Ba hp.t hp.ln hp.bd),.c [] Zeb,.t (by rw [Qzi]; simp [h])] rfl rfl (by simp [Ua,Un] at hb ⊢; omega)
 ·have e:If p=(Un p).sign:=by unfold If; rw [if_neg h]
  rw [e];exact w tt Tryz.func342 rfl [.c [] (Hk hp.t hp.ln hp.bd),.c [] (Ba hp.t hp.ln hp.bd),.c [] Zeb,.f (by rw [Qzi]; simp; omega)] rfl rfl (by simp [Ua])
theorem Q3u {p:List Int} (hp:Pb p):Ub Tryz.prog 341 [pr p] [.one (.int .i64 (If p))]:=w tt Tryz.func341 rfl [.c [] (Q2s hp)] rfl rfl trivial
theorem Zap {p:List Int} (hp:Pb p):Ub Tryz.prog 343 [pr p] [.one (.int .i64 (Qb6 p))]:=w tt Tryz.func343 rfl [.c [] (Q2s hp)] rfl rfl trivial
theorem Zf4 {q:Rat} (hq:Qs 4294967295 q):Ub Tryz.prog 183 [.agg (rl q)] [.agg (rl (-q))]:=by
 exact w tt Tryz.func183 rfl [.c [] (Qhs hq),.c [] (Qhh (Ud _) hq.1)] rfl rfl trivial
theorem Qp2 {l:List (List Int)} {fid:Nat} {sg:List Int->Int} (hl:l.length≤1000) (hs:∀ p,-1≤sg p/\sg p≤1) (h:∀ p∈l,Ub Tryz.prog fid [pr p] [.one (.int .i64 (sg p))]):Ub Tryz.prog 334 [.one (.sh [.row (Tg l)]),.one (.fn fid [] [])] [.one (.int .i64 (P3 sg l:Nat))]:=by
 have hpl:=Cz l;refine Gk Tryz.func334 rfl ?_;refine go tt [] rfl trivial ?_;refine lp (S:=Nat) 0 (λL1 i=>(15,.v (.one (.int .i64 (i:Int))))::(5,.v (.one (.int .i64 ((C6 sg l i).1:Int))))::(6,.v (.one (.int .i64 (C6 sg l i).2)))::L1) (λ_=>[]) (λi=>l.length-i) (λi=>i<=l.length) 0 (Qi _) rfl (λ_ _=>rfl) rfl λi hi=>?_
 by_cases hlt:i<l.length
 ·obtain ⟨p,hp⟩:=gxE (l:=l) (i:=i) hlt;have hst:C6 sg l (i+1)=Ht sg (C6 sg l i) p:=P6 _ _ _ hp;obtain ⟨b1,b2,b3⟩:=Qjs hs l i;have b4:=hs p;by_cases h0:sg p=0
  ·refine go tt [.t (by simp [hpl]; omega),.x (Hb hp),.c [] (h p (Qc hp)),.t (by simpa using h0)] rfl (by simp [Ua]; omega) ?_;exact rd (i+1) (by omega) hlt (by rw [hst,show Ht sg (C6 sg l i) p=C6 sg l i from by unfold Ht; rw [if_pos h0]]; rfl)
  ·by_cases h1:(C6 sg l i).2=-(sg p)
   ·refine go tt [.t (by simp [hpl]; omega),.x (Hb hp),.c [] (h p (Qc hp)),.f (by simpa using h0),.t (by simpa using h1)] rfl (by simp [Ua]; omega) ?_;exact rd (i+1) (by omega) hlt (by rw [hst,show Ht sg (C6 sg l i) p=((C6 sg l i).1+1,sg p) from by unfold Ht; rw [if_neg h0,if_pos h1]]; rfl)
   ·refine go tt [.t (by simp [hpl]; omega),.x (Hb hp),.c [] (h p (Qc hp)),.f (by simpa using h0),.f (by simpa using h1)] rfl (by simp [Ua]; omega) ?_;exact rd (i+1) (by omega) hlt (by rw [hst,show Ht sg (C6 sg l i) p=((C6 sg l i).1,sg p) from by unfold Ht; rw [if_neg h0,if_neg h1]]; rfl)
 ·obtain rfl:i=l.length:=by omega
  refine en tt [.f (by simp [hpl])] rfl ?_ trivial;unfold C6 P3; rw [List.take_length]
theorem Qd3 (p:List Int):(-1<=If p/\If p<=1)/\-1<=Qb6 p/\Qb6 p<=1:=by
 have hb:-1<=(Un p).sign/\(Un p).sign<=1:=by rcases Dv (Un p) with h | h | h <;> omega
 unfold If Qb6
 split <;> omega
theorem Q92 {l:List (List Int)} (hl:l.length≤1000) (hp:∀ p∈l,Pb p):Ub Tryz.prog 301 [.one (.sh [.row (Tg l)])] [.one (.int .i64 (On l))]:=by
 have c1:Ub Tryz.prog 330 [.one (.sh [.row (Tg l)])] [.one (.int .i64 (P3 If l:Nat))] :=
  w tt Tryz.func330 rfl [.c [] (Qp2 hl (λp=>(Qd3 p).1) λp h=>Q3u (hp p h))] rfl rfl trivial
 have c2:Ub Tryz.prog 331 [.one (.sh [.row (Tg l)])] [.one (.int .i64 (P3 Qb6 l:Nat))] :=
  w tt Tryz.func331 rfl [.c [] (Qp2 hl (λp=>(Qd3 p).2) λp h=>Zap (hp p h))] rfl rfl trivial
 have b1:P3 If l<=l.length:=P4 (λp=>(Qd3 p).1) l;have b2:P3 Qb6 l<=l.length:=P4 (λp=>(Qd3 p).2) l;exact w tt Tryz.func301 rfl [.c [] c1,.c [] c2] rfl rfl (by simp [Ua]; omega)
theorem Qtc {l:List (List Int)} {lo hi:Rat} (hl:l.length<=1000):-1000<=Gx l lo hi/\Gx l lo hi<=1000:=by
 have b1:So l lo<=l.length:=P4 (λp=>M5 p lo) l;have b2:So l hi<=l.length:=P4 (λp=>M5 p hi) l;unfold Gx; split <;> omega
abbrev tal (l:List Tm):List (List LV):=l.map λt=>ta t
theorem Qgy {p:List Int} {c:List (List Int)} (hp:Pb p):∀ {k:Nat} {lo hi:Rat} {n:Int} {r:List Tm},Qb lo->Qb hi->Dq p c k lo hi n=some r->∀ t∈r,Tb t
 | 0,_,_,_,_,_,_,h=>by cases h
 |
  k+1,lo,hi,n,r,hl,hh,h=>by
  simp only [Dq] at h
  split at h
  ·injection h with h; subst h; exact λt ht=>by cases ht
  ·split at h
   ·injection h with h; subst h;intro t ht; rw [Qp.1 ht]; exact ⟨hp,hl,hh⟩
   ·obtain ⟨m,hm,h⟩:=Qe.1 h;obtain ⟨rfl,qm⟩:=Qht hm;obtain ⟨x,hx,h⟩:=Qe.1 h;obtain ⟨y,hy,h⟩:=Qe.1 h;injection h with h; subst h;intro t ht;rcases Q0.1 ht with ht | ht
    ·exact Qgy hp hl qm hx t ht
    ·exact Qgy hp qm hh hy t ht
theorem Zh0 (l:List Tm):∀ c∈tal l,c.length=9:=λc hc=>by obtain ⟨t,_,rfl⟩:=Zg.1 hc; rfl
theorem Qty {p:List Int} {c:List (List Int)} (hp:Pb p) (hcl:c.length≤1000) (hc:∀ q∈c,Pb q):∀ {k:Nat} {lo hi:Rat} {n:Int} {r:List Tm},Qb lo->Qb hi->k≤100000->-(1000*(100001-k:Nat))≤n/\n≤1000*(100001-k:Nat)->Dq p c k lo hi n=some r->r.length≤1000000->G6 Tryz.prog 300 [pr p,.one (.sh [.row (Tg c)]),.agg (rl lo),.agg (rl hi),.one (.int .i64 n)] [] [.one (.orow 0 9 none)] [.row false 74 9 (tal r)]
 | 0,_,_,_,_,_,_,_,_,h,_=>by cases h
 |
  k+1,lo,hi,n,r,hl,hh,hk,hn,h,hr=>by
  simp only [Dq] at h
  split at h
  ·rename_i h0;injection h with h; subst h;refine Gk Tryz.func300 rfl ?_;exact ed tt [] [2] [.t (by simpa using h0),.o 10 74 9] rfl trivial
  ·rename_i h0
   split at h
   ·rename_i h1;injection h with h; subst h;refine Gk Tryz.func300 rfl ?_;exact ed tt [] [2] [.f (by simpa using h0),.t (by simpa using h1),.c [] (Hk hp.t hp.ln hp.bd),.c [] (E8 hl.s32),.c [] (E8 hh.s32),.lo] rfl trivial
   ·rename_i h1;obtain ⟨m,hm,h⟩:=Qe.1 h;obtain ⟨rfl,qm⟩:=Qht hm;obtain ⟨x,hx,h⟩:=Qe.1 h;obtain ⟨y,hy,h⟩:=Qe.1 h;injection h with h; subst h;have hb:=Qtc (l:=c) (lo:=lo) (hi:=A9 lo hi) hcl;rw [Q8] at hr;have c1:=Qty hp hcl hc hl qm (by omega) (by omega) hx (by omega);have c2:=Qty hp hcl hc qm hh (by omega) (by omega) hy (by omega);rw [show tal (x++y)=tal x++tal y from Yc];refine Gk Tryz.func300 rfl ?_;exact ed tt [] [3] [.f (by simpa using h0),.f (by simpa using h1),.c [] (Zd9 hl hh),.c [] (Qkg hcl hc hl qm),.c [3] c1,.c [4] c2,.s (Zh0 y)] rfl (by simp [Ua]; omega)
theorem Q98 {p:List Int} {r:List Tm} (hp:Pb p) (h:Qjf p=some r) (hr:r.length<=1000000):Ub Tryz.prog 261 [pr p] [.one (tas r),.one (.int .i64 0)]:=by
 unfold Qjf at h;obtain ⟨c,h1,h⟩:=Qe.1 h;obtain ⟨q,h2,h⟩:=Qe.1 h;obtain ⟨b,h3,h⟩:=Qe.1 h;obtain ⟨rfl,hb⟩:=Qht h3;obtain ⟨k1,k2⟩:=chain_ok hp h1;have hq:=Qer hp h2;have q0:q.length≠0:=by
  unfold chain at h1;obtain ⟨a,a1,h1⟩:=Qe.1 h1;rw [h2] at a1; injection a1 with a1; subst a1
  split at h1
  ·cases h1
  ·assumption
 have qn:Qb (-Fp q):=⟨by rw [Rat.neg_num,Fx]; exact hb.1,by rw [Rat.neg_den]; exact hb.2⟩;have bb1:P3 If c<=c.length:=P4 (λp=>(Qd3 p).1) c;have bb2:P3 Qb6 c<=c.length:=P4 (λp=>(Qd3 p).2) c;have hn:-(1000*(100001-100000:Nat):Int)<=On c/\On c<=1000*(100001-100000:Nat):=by unfold On; omega
 have cr:=Qty hq (by omega) k2 qn hb (Qj _) hn h hr;refine Gk Tryz.func261 rfl ?_;exact ed tt [1] [] [.c [] (Q3b hp h1),.f rfl,.c [] (Qhj hp h2),.c [] (Q91 hq q0),.c [] (Zf4 hb.s32),.c [] (Q92 (by omega) k2),.c [1] cr] rfl trivial
def Uq (l:List Pt):List (List LV):=l.map Hw
theorem Oo {l:List Pt} {i:Nat} {c:Pt} (h:l[i]? = some c):(Uq l)[i]? = some (Hw c):=Ga h
theorem Du (l:List Pt):(Uq l).length=l.length:=by simp [Uq]
theorem Qzb (l:List Pt):∀ c∈Uq l,c.length=5:=λc hc=>by
 obtain ⟨x,_,rfl⟩:=Zg.1 hc; rfl
theorem Q99:Ub Tryz.prog 275 [pr []] [.one .nilp,.one (.int .i64 2)]:=by
 have h:Sl []=some []:=rfl;exact w tt Tryz.func275 rfl [.c [] (Qhj Qeq h),.t rfl] rfl rfl trivial
theorem Q3a:Ub Tryz.prog 261 [pr []] [.one (.row []),.one (.int .i64 2)] :=
 w tt Tryz.func261 rfl [.c [] Q99,.t rfl] rfl rfl trivial
theorem Zg7 {a o:List Int} (ha:Pb a) (h:Qu4 a=some o):Pb o:=by
 unfold Qu4 at h
 split at h
 ·injection h with h; subst h; exact Qeq
 ·obtain ⟨l,hl,h⟩:=Qe.1 h;obtain ⟨fs,hf,h⟩:=Qe.1 h;exact Qae Q6y (Qng (Qgr (Hn ha) hl).2 hf) h
theorem Q2v {p:List Int} {l:List Tm} (hp:Pb p) (h:Lx p=some l) (hl:l.length<=1000000):Ub Tryz.prog 210 [pr p] [.one (tas l)]:=by
 unfold Lx at h;obtain ⟨q,hq,h⟩:=Qe.1 h;have qp:=Zg7 hp hq;have co:=Ziu hp hq
 split at h
 ·rename_i h0;injection h with h; subst h;obtain rfl:=Qh h0;exact w tt Tryz.func210 rfl [.c [] co,.c [] Q3a,.t rfl] rfl rfl trivial
 ·exact w tt Tryz.func210 rfl [.c [] co,.c [] (Q98 qp h hl),.f rfl] rfl rfl trivial
def ota:Option Tm->List LV
 | none=>zTr
 | some t=>ta t
theorem Q94 {p:List Int} {a:Tm} {l:List Tm} {r:Option Tm} (hp:Pb p) (ha:Tb a) (h:Lx p=some l) (hl:l.length≤1000000) (ht:∀ t∈l,Tb t) (hr:Qax a l=some r):Ub Tryz.prog 154 [pr p,.agg (ta a)] [.agg (ota r),.one (.bool r.isSome)]:=by
 have hll:(l.map λt=>ta t).length=l.length:=by simp
 refine Gk Tryz.func154 rfl ?_;refine go tt [.c [] (Q2v hp h hl)] rfl trivial ?_;refine lp (S:=Nat) 2 (λL1 i=>(11,.v (.one (.int .i64 (i:Int))))::L1) (λ_=>[.blk 74 (ta a),.blk 74 zTm]) (λi=>l.length-i) (λi=>i<=l.length/\Qax a (l.drop i)=some r) 0 ⟨Qi _,hr⟩ rfl (λ_ _=>rfl) rfl λi ⟨hi,hf⟩=>?_
 by_cases hlt:i<l.length
 ·obtain ⟨t,hx⟩:=gxE (l:=l) (i:=i) hlt;have hdr:l.drop i=t::l.drop (i+1):=by
   rw [Zn hlt]; congr 1;have:=Qd hlt; rw [hx] at this; injection this with this; exact this.symm
  rw [hdr] at hf;simp only [Qax] at hf;obtain ⟨c,c1,hf⟩:=Qe.1 hf;have cc:=Qhf (ht t (Qc hx)) ha c1;by_cases hc:0<c
  ·rw [if_pos hc] at hf;injection hf with hf; subst hf;exact en tt [.t (by simp; omega),.x (Qg7 hx),.c [] cc,.t (by simpa using hc)] rfl rfl trivial
  ·rw [if_neg hc] at hf;refine go tt [.t (by simp; omega),.x (Qg7 hx),.c [] cc,.f (by simpa using hc)] rfl (by simp [Ua]; omega) ?_;exact rd (i+1) (by omega) ⟨hlt,hf⟩ rfl
 ·obtain rfl:i=l.length:=by omega
  rw [Vr] at hf;simp only [Qax] at hf;injection hf with hf; subst hf;exact en tt [.f (by simp)] rfl rfl trivial
def Nk (now:Tm):List Wt->Option (List Wt)
 | []=>some []
 | w::l=>(if w.known=true then some w else (Qfr w.c.p now).bind λr=>some ⟨w.c,true,r⟩).bind λw'=>(Nk now l).bind λr=>some (w'::r)
theorem Qab {now:Tm}:∀ {l ws:List Wt},Nk now l=some ws->ws.length=l.length/\∀ (i:Nat) (w:Wt),l[i]? = some w->∃ v,ws[i]? = some v/\(w.known=true/\v=w\/w.known=false/\∃ r,Qfr w.c.p now=some r/\v=⟨w.c,true,r⟩)
 | [],ws,h=>by injection h with h; subst h; exact ⟨rfl,λi x hx=>by simp at hx⟩
 |
  y::l,ws,h=>by
  simp only [Nk] at h;obtain ⟨v,hv,h⟩:=Qe.1 h;obtain ⟨r,hr,h⟩:=Qe.1 h;injection h with h; subst h;obtain ⟨a,b⟩:=Qab hr;refine ⟨by simp [a],λi x hx=>?_⟩;cases i with
  |
   zero =>
   injection hx with hx; subst hx;refine ⟨v,rfl,?_⟩
   split at hv
   ·rename_i hk; injection hv with hv; exact .inl ⟨hk,hv.symm⟩
   ·rename_i hk;obtain ⟨q,hq,hv⟩:=Qe.1 hv;injection hv with hv;exact .inr ⟨by simpa using hk,q,hq,hv.symm⟩
  | succ i=>exact b i x (by simpa using hx)
theorem Q2u {p:List Int} {a:Tm} {r:Option Tm} (hp:Cp p) (ha:Va a) (h:Qfr p a=some r):Ub Tryz.prog 154 [pr p,.agg (ta a)] [.agg (ota r),.one (.bool r.isSome)]:=by
 obtain ⟨l,l1,l2,l3,_⟩:=Ox hp;unfold Qfr at h;rw [l1] at h;exact Q94 (Dp.pb hp.dp) ha.tb l1 (by omega) (λt ht=>(l3 t ht).tb) h
def Qi1 (ws:List Wt):Option (Option Tm):=match ws.filterMap (·.fails) with
 | []=>some none
 | b::l=>(Ao b l).map some
theorem Qac {c:Cr} {ws:List Wt} (hc:CrOk c) (h:Nk c.now c.l=some ws):CrOk { c with l:=ws }:=by
 obtain ⟨h1,h2⟩:=Qab h;refine ⟨hc.n,λv hv=>?_,by show ws.length<=1000; rw [h1]; exact hc.k⟩;obtain ⟨i,hi⟩:=Jn hv;have hil:i<c.l.length:=by rw [<-h1]; exact (Qf.1 hi).1
 obtain ⟨v',h3,h4⟩:=h2 i _ (Qd hil);rw [hi] at h3; injection h3 with h3; subst h3;have hw:=hc.l _ (Xv hil);rcases h4 with ⟨_,rfl⟩ | ⟨_,r,k2,rfl⟩
 ·exact hw
 ·obtain ⟨r',r1,r2⟩:=Q6n hw.p hc.n;rw [k2] at r1; injection r1 with r1; subst r1;refine ⟨hw.p,λt ht=>?_⟩;have ht:r=some t:=ht;subst ht;exact r2.2.1
theorem Qiu {at_:Tm} {x:Ct}:∀ {l:List Wt} {w:Wt},Dh l x at_=some w->w=fresh x\/∃ v∈l,v.known=true/\v.c.p=x.p/\w=⟨x,true,v.fails⟩/\∀ t,v.fails=some t->∃ c,Qf4 t at_=some c/\0<c
 | [],w,h=>by simp only [Dh] at h; injection h with h; exact .inl h.symm
 |
  v::l,w,h=>by
  simp only [Dh] at h;have tl:Dh l x at_=some w->w=fresh x\/∃ v'∈v::l,v'.known=true/\v'.c.p=x.p/\w=⟨x,true,v'.fails⟩/\∀ t,v'.fails=some t->∃ c,Qf4 t at_=some c/\0<c:=λh=>by
   rcases Qiu h with h | ⟨v',h1,h2⟩
   ·exact .inl h
   ·exact .inr ⟨v',Ql _ h1,h2⟩
  split at h
  ·rename_i hk;cases hf:v.fails with
   |
    none =>
    rw [hf] at h;injection h with h;exact .inr ⟨v,Qt ..,hk.2.1,hk.2.2,by rw [hf]; exact h.symm,λt ht=>by rw [hf] at ht; cases ht⟩
   |
    some t =>
    rw [hf] at h;obtain ⟨c,c1,h⟩:=Qe.1 h
    split at h
    ·rename_i h0;injection h with h;exact .inr ⟨v,Qt ..,hk.2.1,hk.2.2,by rw [hf]; exact h.symm,λu hu=>by rw [hf] at hu; injection hu with hu; subst hu; exact ⟨c,c1,h0⟩⟩
    ·exact tl h
  ·exact tl h
theorem lay_ok {c:Cr} {at_:Tm} {l:List Ct} {ws:List Wt} (ev:Int) (hc:CrOk c) (ha:Va at_) (hl:∀ x∈l,Cp x.p) (hn:l.length≤1000) (h:Qcf c.l at_ (Gm l)=some ws):CrOk ⟨at_,ws,ev⟩:=by
 obtain ⟨h1,h2⟩:=Qcg h;refine ⟨ha,λw hw=>?_,by show ws.length<=1000; rw [h1,C4]; exact hn⟩;obtain ⟨i,hi⟩:=Jn hw;have hil:i<(Gm l).length:=by rw [<-h1]; exact (Qf.1 hi).1
 obtain ⟨v,h3,h4⟩:=h2 i _ (Qd hil);rw [hi] at h4; injection h4 with h4; subst h4;have hx:=hl _ (Qe1 (Xv hil));rcases Qiu h3 with e | ⟨v,v1,_,v3,e,_⟩
 ·rw [e]; exact ⟨hx,λt ht=>by cases ht⟩
 ·rw [e]; exact ⟨hx,λt ht=>(hc.l v v1).f t ht⟩
def goF {β:Type} (Bc:Tm->List Ct) (Br:Tm->β) (t:Rat):Nat->Cr->β->Int->Option (Cr×β×Int)
 | 0,_,_,_=>none
 |
  k+1,c,r,n=>(Nk c.now c.l).bind λws=>(Qi1 ws).bind λo=>match o with
  | none=>some (⟨tq t,ws,c.ev⟩,r,n)
  | some a=>if 0<Up a t then some (⟨tq t,ws,c.ev⟩,r,n) else (Qcf ws a (Gm (Bc a))).bind λw2=>goF Bc Br t k ⟨a,w2,c.ev+1⟩ (Br a) (n+1)
theorem Q6q {ws:List Wt} {a:Tm} (h:Qi1 ws=some (some a)) (hv:∀ t∈ws.filterMap (·.fails),Va t):a∈ws.filterMap (·.fails)/\∀ t∈ws.filterMap (·.fails),¬Pj t a:=by
 unfold Qi1 at h;cases hf:ws.filterMap (·.fails) with
 | nil=>rw [hf] at h; injection h with h; cases h
 |
  cons b l =>
  rw [hf] at h hv;obtain ⟨m,m1,m2⟩:=Vd.1 h;injection m2 with m2; subst m2;obtain ⟨m',n1,n2,n3⟩:=Qek l b hv;rw [m1] at n1; injection n1 with n1; subst n1;exact ⟨n2,n3⟩
theorem Zg6 {c:Cr} {ws:List Wt} {a:Tm} (hc:CrOk c) (h:Nk c.now c.l=some ws) (hr:Qi1 ws=some (some a)):Va a:=by
 have hc':=Qac hc h;have hv:∀ t∈ws.filterMap (·.fails),Va t:=λt ht=>by
  obtain ⟨w,w1,w2⟩:=Jj.1 ht;exact (hc'.l w w1).f t w2
 exact hv a (Q6q hr hv).1
structure BuildOk (Bc:Tm->List Ct):Prop where
 p:∀ a,Va a->∀ x∈Bc a,Cp x.p
 n:∀ a,Va a->(Bc a).length<=1000


abbrev idl (l:List Int):List (List LV):=l.map λ(z:Int)=>[.int .i64 z]
theorem Zbm {l:List Int} {i:Nat} {z:Int} (h:l[i]? = some z):(idl l)[i]? = some [.int .i64 z]:=Ga h
def Ih (v n:Int):Int:=if n<1 then 0 else v.emod n
theorem Q1y {v n:Int} (h:0<n):(if v.tmod n<0 then v.tmod n+n else v.tmod n)=v % n:=by
 have h3:=V1 v (show n≠0 by omega);have h4:=Y3 v h;have h1:=Int.tmod_eq_emod (a:=v) (b:=n);have hn:((n.natAbs:Nat):Int)=n:=by omega
 split at h1
 ·rw [h1]; simp; omega
 ·rename_i hc;rw [h1,hn];have:v % n≠0:=λe=>hc (.inr (Yh e))
  rw [if_pos (by omega)]; omega
theorem Qbz {v n:Int} (hv:-9223372036854775808<=v/\v<=9223372036854775807) (hn:n<=1000000000):Ub Tryz.prog 53 [.one (.int .i64 v),.one (.int .i64 n)] [.one (.int .i64 (Ih v n))]:=by
 unfold Ih;by_cases h:n<1
 ·rw [if_pos h];exact w tt Tryz.func53 rfl [.t (by simpa using h)] rfl rfl trivial
 ·rw [if_neg h];have e:=Q1y (v:=v) (n:=n) (by omega);have h3:=V1 v (show n≠0 by omega);have h4:=Y3 v (show 0<n by omega);show Ub Tryz.prog 53 [.one (.int .i64 v),.one (.int .i64 n)] [.one (.int .i64 (v % n))];by_cases h0:v.tmod n<0
  ·rw [if_pos h0] at e;have b:-n<=v.tmod n:=by omega
   exact w tt Tryz.func53 rfl [.f (by simpa using h),.t (by simpa using h0)] rfl (by rw [e]) (by simp [Ua]; omega)
  ·rw [if_neg h0] at e;exact w tt Tryz.func53 rfl [.f (by simpa using h),.f (by simpa using h0)] rfl (by rw [e]) (by simp [Ua]; omega)
end Orr
