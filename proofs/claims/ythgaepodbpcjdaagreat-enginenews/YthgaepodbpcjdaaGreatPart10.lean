/- EnO EnQ W24 EnN ReadN LastN LastR LastS ArgR -/
import Derived.Test.YthgaepodbpcjdaaGreatPart09
import Derived.Test.YthgaepodbpcjdaaGreatPart00
import Derived.Test.YthgaepodbpcjdaaGreatPart08
import Derived.Deep.Slices
import Derived.ProofKit
import Derived.OpenShut
import Derived.WideKeyArgs
import Derived.SizedLaws
set_option linter.all false
namespace Orr
open Go Go.Proofs Orq
set_option maxRecDepth 10000
def Em.ins (A:Em) (p:Pt):Em×Int:=(if S5 A.np A.nd A.M p=0 then { A with M:=put A.M p } else A,S5 A.np A.nd A.M p)
open Classical in
noncomputable def Em.adv (A:Em) (t:Rat):Em×Int:=if Qs 128 t then (if t<A.q then (A,8) else ({ A with q:=t,s:=A.s+(cnt (bcS A.M) A.q t:Nat),t:=A.t+(cnt (bcT A.M) A.q t:Nat),h:=A.h+(cnt (bcH A.M) A.q t:Nat),p:=A.p+(cnt (bcP A.M) A.q t:Nat),d:=A.d+(cnt (bcD A.M) A.q t:Nat) },0)) else (A,1)
theorem Zkg {np nd:Int} {k:Crv} (hn:Nml k) (hnd:nd<=2) (h1:Ax k=true) (h2:¬nd<Qef k):Sc k:=by
 obtain ⟨s1,s2,s3⟩:=Qjs.1 h1;unfold Qef at h2;exact ⟨hn,s1,s2,s3,by omega,by omega⟩
theorem Zhb {p:Pt} (h:Qew p=true):(0<=p.id/\p.id<=1048576)/\Ax p.c=true:=by
 simp only [Qew,Zi,decide_eq_true_iff] at h;exact ⟨⟨h.1,h.2.1⟩,h.2.2⟩
abbrev EnD (f:Nat) (args:List TV) (E:Es) (res:List TV) (E':Es):Prop:=W6 Tryz.prog f args (enB 0 E) res (enB 0 E')
theorem Qqa {E:Es} {b:Int} (h:EOk b E) {lx ly:List (List LV)} {px py:List Int} {x y:LV} {d id:Int} (hx:IsInts lx px) (hy:IsInts ly py) (hd:Fc x y d) (hk:Cs 4294967294 1073741824 (Crv.mk px py d)) :
 ∃ E',EOk b E'/\E'.m=(E.m.ins ⟨Crv.norm (Crv.mk px py d),id⟩).1/\EnD 28 [.one (.ow 0 0),.one (.int .i64 id),.agg [.row lx,.row ly,x,y]] E [.one (.int .i64 (E.m.ins ⟨Crv.norm (Crv.mk px py d),id⟩).2)] E':=by
 have hM:=h.m.m;have hl6:=hM.ln;have ct:=Zf9 (np:=E.np) (nd:=E.nd) (l:=E.M) (id:=id) hx hy hd hk (by omega);obtain ⟨p,hp⟩:=nmE (Pt.mk (Crv.norm (Crv.mk px py d)) id);have hpn:Nml p.c:=by rw [hp]; exact Crv.nml _
 by_cases e:S5 E.np E.nd E.M p=0
 ·have e0:Qew p=true/\has E.M p.id=false/\¬E.nd<Qef p.c/\¬E.np<=(E.M.length:Int):=by
   unfold S5 at e;by_cases a1:Qew p=false
   ·rw [if_pos a1] at e; cases e
   rw [if_neg a1] at e;by_cases a2:has E.M p.id=true
   ·rw [if_pos a2] at e; cases e
   rw [if_neg a2] at e;by_cases a3:E.nd<Qef p.c
   ·rw [if_pos a3] at e; cases e
   rw [if_neg a3] at e;by_cases a4:E.np<=(E.M.length:Int)
   ·rw [if_pos a4] at e; cases e
   exact ⟨by simpa using a1,by simpa using a2,a3,a4⟩
  obtain ⟨f1,f2,f3,f4⟩:=e0;obtain ⟨g1,g2⟩:=Zhb f1;have hsc:=Zkg (np:=E.np) hpn h.nd.2 g2 f3;have hpl:(put E.M p).length<=6:=by rw [Qza]; have:=h.np.2; omega
  have hM':MOk (put E.M p):=⟨λz hz=>by rcases Qg2 hz with rfl | hz; exact hsc; exact hM.sc z hz,hpl,Qjm hM.so f2⟩;have hME:MEn E.np E.nd (put E.M p):=⟨hM',by rw [Qza]; have:=h.np.2; omega,λz hz=>by rcases Qg2 hz with rfl | hz; omega; exact h.m.deg z hz,λz hz=>by rcases Qg2 hz with rfl | hz; exact g1; exact h.m.id z hz⟩;have hpe:Qbw E.M p=0:=by unfold Qbw; rw [if_neg (by rw [f2]; decide),if_neg (by have:=h.np.2; omega)]
  rw [hp] at e hpe hM' hME hpl;rw [e,if_pos rfl] at ct;obtain ⟨w1,l1,a1⟩:=h.s.again okS hM';obtain ⟨w2,l2,a2⟩:=h.t.again okT hM';obtain ⟨w3,l3,a3⟩:=h.h.again okH hM';obtain ⟨w4,l4,a4⟩:=h.p.again okP hM';obtain ⟨w5,l5,a5⟩:=h.d.again okD hM';have c1:=Zfy (c:=E.s) (l:=E.M) (r1:=brS E.M (tq E.q)) hx hy hd hk (by omega) hpe h.s.st.inv.ok hM'.sc (by omega) l1;have c2:=Zaf (c:=E.t) (l:=E.M) (r1:=brT E.M (tq E.q)) hx hy hd hk (by omega) hpe h.t.st.inv.ok hM'.sc (by omega) l2;have c3:=Q9y (c:=E.h) (l:=E.M) (r1:=brH E.M (tq E.q)) hx hy hd hk (by omega) hpe h.h.st.inv.ok hM'.sc (by omega) l3;have c4:=Q95 (c:=E.p) (l:=E.M) (r1:=brP E.M (tq E.q)) hx hy hd hk (by omega) hpe h.p.st.inv.ok hM'.sc (by omega) l4;have c5:=Q9v (c:=E.d) (l:=E.M) (r1:=brD E.M (tq E.q)) hx hy hd hk (by omega) hpe h.d.st.inv.ok hM'.sc (by omega) l5;rw [h.s.now] at c1;rw [h.t.now] at c2;rw [h.h.now] at c3;rw [h.p.now] at c4;rw [h.d.now] at c5;obtain ⟨b1,r,rfl,rfl,_⟩:=hd;refine ⟨⟨E.np,E.nd,put E.M ⟨Crv.norm (Crv.mk px py d),id⟩,E.q,⟨tq E.q,w1,E.s.ev⟩,⟨tq E.q,w2,E.t.ev⟩,⟨tq E.q,w3,E.h.ev⟩,⟨tq E.q,w4,E.p.ev⟩,⟨tq E.q,w5,E.d.ev⟩⟩,⟨h.np,h.nd,hME,h.q,a1,a2,a3,a4,a5,h.es,h.et,h.eh,h.ep,h.ed⟩,?_,?_⟩
  ·unfold Em.ins;show _=if S5 E.np E.nd E.M _=0 then _ else _
   rw [if_pos e]; rfl
  ·have e2:(E.m.ins ⟨Crv.norm (Crv.mk px py d),id⟩).2=0:=e;rw [e2];exact Q2v ct c1 c2 c3 c4 c5
 ·rw [hp] at e;rw [if_neg e] at ct;obtain ⟨b1,r,rfl,rfl,_⟩:=hd;refine ⟨E,h,?_,Qz8 e ct⟩;unfold Em.ins;show _=if S5 E.np E.nd E.M _=0 then _ else _
  rw [if_neg e]
theorem Q0q {E:Es} {b:Int} (h:EOk b E) (hb:b<=900000000000000000) {x0 x1 x2 x3:LV} {n m:Int} {t:Rat} (ha:Fc x0 x1 n) (hc:Fc x2 x3 m) (sa:Ug n<=4294967295) (sb:Ug m<=4294967295) (ht:Rj n m=t) :
 ∃ E',EOk (b+67000000) E'/\E'.m=(E.m.adv t).1/\((E.m.adv t).2≠0->E'=E)/\EnD 31 [.one (.ow 0 0),.agg [x0,x1,x2,x3]] E [.one (.int .i64 (E.m.adv t).2)] E':=by
 have hM:=h.m.m;have hl6:=hM.ln;by_cases hs:Qs 128 t
 ·by_cases hp:t<E.q
  ·have e2:E.m.adv t=(E.m,8):=by unfold Em.adv; rw [if_pos hs]; exact if_pos hp
   rw [e2];exact ⟨E,h.mono (by omega),rfl,λ_=>rfl,Qj5 ha hc sa sb ht hs h.q hp⟩
  ·have hqt:E.q<=t:=Rat.not_lt.1 hp;have e2:E.m.adv t=(({ E.m with q:=t,s:=E.s.ev+(cnt (bcS E.M) E.q t:Nat),t:=E.t.ev+(cnt (bcT E.M) E.q t:Nat),h:=E.h.ev+(cnt (bcH E.M) E.q t:Nat),p:=E.p.ev+(cnt (bcP E.M) E.q t:Nat),d:=E.d.ev+(cnt (bcD E.M) E.q t:Nat) }:Em),0):=by unfold Em.adv; rw [if_pos hs]; exact if_neg hp
   rw [e2];have hq:Qs 1640000 t:=hs.mono (by decide);obtain ⟨K1,d1,k1,g1,a1,v1,u1,_⟩:=h.s.adv okS hM hq hqt;obtain ⟨K2,d2,k2,g2,a2,v2,u2,_⟩:=h.t.adv okT hM hq hqt;obtain ⟨K3,d3,k3,g3,a3,v3,u3,_⟩:=h.h.adv okH hM hq hqt;obtain ⟨K4,d4,k4,g4,a4,v4,u4,_⟩:=h.p.adv okP hM hq hqt;obtain ⟨K5,d5,k5,g5,a5,v5,u5,_⟩:=h.d.adv okD hM hq hqt;have hcm:∀ {c:Cr},c.now=tq E.q->Ue c.now t<=0:=λ{c} hn=>by
    rw [hn,Qsr]; exact Qgp.2 hqt
   have c1:=Zfw hq hM.sc (by omega) h.s.st.inv.ok (by have:=h.es; omega) (hcm h.s.now) g1;have c2:=Zae hq hM.sc (by omega) h.t.st.inv.ok (by have:=h.et; omega) (hcm h.t.now) g2;have c3:=Zfo hq hM.sc (by omega) h.h.st.inv.ok (by have:=h.eh; omega) (hcm h.h.now) g3;have c4:=Q94 hq hM.sc (by omega) h.p.st.inv.ok (by have:=h.ep; omega) (hcm h.p.now) g4;have c5:=Zfm hq hM.sc (by omega) h.d.st.inv.ok (by have:=h.ed; omega) (hcm h.d.now) g5;refine ⟨⟨E.np,E.nd,E.M,t,d1,d2,d3,d4,d5⟩,⟨h.np,h.nd,h.m,hs,a1,a2,a3,a4,a5,?_,?_,?_,?_,?_⟩,?_,λh=>absurd rfl h,Qz4 ha hc sa sb ht hs h.q hqt c1 c2 c3 c4 c5⟩
   ·have:=h.es; show 0<=d1.ev/\d1.ev<=_; omega
   ·have:=h.et; show 0<=d2.ev/\d2.ev<=_; omega
   ·have:=h.eh; show 0<=d3.ev/\d3.ev<=_; omega
   ·have:=h.ep; show 0<=d4.ev/\d4.ev<=_; omega
   ·have:=h.ed; show 0<=d5.ev/\d5.ev<=_; omega
   ·unfold Es.m;simp only [v1,v2,v3,v4,v5]
 ·have e2:E.m.adv t=(E.m,1):=by unfold Em.adv; exact if_neg hs
  rw [e2];exact ⟨E,h.mono (by omega),rfl,λ_=>rfl,Qmp ha hc sa sb ht hs⟩
end Orr
namespace Orr
open Go Go.Proofs Orq
set_option maxRecDepth 10000
theorem Qpb {β:Type} {k:Knd β} {M:List Pt} {q:Rat} {c:Cr} (h:At k M q c):Lp c.l=Ui (Ui (k.bc M (tq q))):=by
 unfold Lp; rw [h.st.cs,h.now]
def Q31 (M:List Pt) (q:Rat):List Ct:=Ui (Ui (bcS M (tq q)))++Ui (Ui (bcT M (tq q)))++Ui (Ui (bcH M (tq q)))++Ui (Ui (bcP M (tq q)))++Ui (Ui (bcD M (tq q)))
theorem Q4q {E:Es} {b:Int} (h:EOk b E):EnD 14 [.one (.ow 0 0)] E [.one (.row (W3 (Q31 E.M E.q)))] E:=by
 have hc:=Q9s (np:=E.np) (nd:=E.nd) (M:=E.M) (q:=E.q) h.s.st.inv.ok h.t.st.inv.ok h.h.st.inv.ok h.p.st.inv.ok h.d.st.inv.ok;have e:Lp E.s.l++Lp E.t.l++Lp E.h.l++Lp E.p.l++Lp E.d.l=Q31 E.M E.q:=by
  rw [Qpb h.s,Qpb h.t,Qpb h.h,Qpb h.p,Qpb h.d]; rfl
 rw [e] at hc;exact hc
abbrev Zlx (A:Em):List LV:=[.int .i64 A.s,.int .i64 A.t,.int .i64 A.h,.int .i64 A.p,.int .i64 A.d]
theorem Q4r {E:Es}:EnD 12 [.one (.ow 0 0)] E [.agg (Zlx E.m)] E:=Qpj
theorem Zgl {E:Es} {b:Int} (h:EOk b E):EnD 7 [.one (.ow 0 0)] E [.agg (Q2c E.M E.q)] E:=Qtw h.m.m.ln
theorem Qpc {b:Int} (h:0<=b):0<=(0:Int)/\(0:Int)<=b:=⟨Jw _,h⟩
def El (np nd:Int):Es:=⟨np,nd,[],0,Q9o [] (tq 0),Zi4 [] (tq 0),Zi2 [] (tq 0),Zi3 [] (tq 0),Zi1 [] (tq 0)⟩
theorem O8:MOk []:=⟨λp h=>(by cases h),by decide,List.Pairwise.nil⟩
theorem Quy {np nd:Int} (h1:1<=np/\np<=6) (h2:0<=nd/\nd<=2):EOk 0 (El np nd):=by
 have hq:Qs 1640000 (0:Rat):=⟨by decide,by decide⟩;exact ⟨h1,h2,⟨O8,by show ((0:Nat):Int)<=np; omega,λp h=>(by cases h),λp h=>(by cases h)⟩,(show Qs 128 (0:Rat) from ⟨by decide,by decide⟩),At.begin okS O8 hq,At.begin okT O8 hq,At.begin okH O8 hq,At.begin okP O8 hq,At.begin okD O8 hq,Qpc (Jw _),Qpc (Jw _),Qpc (Jw _),Qpc (Jw _),Qpc (Jw _)⟩
theorem Q2x {np nd:Int} (h1:1<=np/\np<=6) (h2:0<=nd/\nd<=2):W6 Tryz.prog 5 [.one (.int .i64 np),.one (.int .i64 nd)] [] [.one (.ow 0 0),.one (.int .i64 0)] (enB 0 (El np nd)):=Zfn h1 h2
theorem Zil:(goF (bcS wkP) (brS wkP) 3 600 (Q9o wkP (tq 0)) (brS wkP (tq 0)) 0).map (λx=>x.2.2)=some 1:=by decide +kernel
theorem Zdf:(Hy (tq 3) wkP).map (·.id)=[2,1]:=by decide +kernel
theorem Q6a:MOk wkP:=⟨Zkw,by decide,by unfold Qb9 wkP; decide⟩
theorem Zik:cnt (bcS wkP) 0 3=1:=by
 have hq:Qs 1640000 (0:Rat):=⟨by decide,by decide⟩;have ht:Qs 1640000 (3:Rat):=⟨by decide,by decide⟩;have S:=okS.st wkP Q6a;have hv:=Qkg hq;have hP:=okS.cp wkP Q6a;have hm:=Qop hP;have hmu:=Zes ((kS.al wkP).flatMap tms) (tq 0);have hl:(Cj wkP).length=8:=by rw [Qpa]; rfl
 have hc:¬S7 (tq 3) (tq 0):=λh'=>by
  have:=(Qec hv.cut).2 h';rw [Qsr] at this;exact absurd this (by decide +kernel)
 have hl2:(kS.al wkP).length=8:=hl;obtain ⟨c',r',E,g1,g2,g3,g4,g5,g6⟩:=Zek S ht hP (λa _=>okS.al wkP a) 599 ⟨tq 0,(Ui (bcS wkP (tq 0))).map fresh,0⟩ (brS wkP (tq 0)) 0 (Qd hmu (by omega)) (Q2j S hv) hc;have h1:=Zil;have g1:goF (bcS wkP) (brS wkP) 3 600 (Q9o wkP (tq 0)) (brS wkP (tq 0)) 0=some (c',r',0+((E.length:Nat):Int)):=g1;rw [g1] at h1;have h1:some (0+((E.length:Nat):Int))=some 1:=h1;injection h1 with h1;rw [Q39 S hv g6];omega
theorem Q6h:Crv.norm (Crv.mk [0,1] [] 0)=run1:=by
 have e:Crv.norm (Crv.mk [0,1] [] 1)=Crv.norm (Crv.mk [0,1] [] 0):=by simp only [Crv.norm,Crv.g,Crv.d']; rfl
 rw [<-e]; exact Crv.norm_of Qi3
theorem Zjm:W0 Tryz.prog 29 [.one (.row [[.bool false,.row []],[.bool false,.row [[.int .u32 1]]]]),.one (.row [])] [.agg (cl run1)]:=by
 have i01:IsInts [[.bool false,.row []],[.bool false,.row [[.int .u32 1]]]] [0,1]:=by
  refine ⟨⟨_,_,rfl,false,[],rfl,rfl,(λx hx=>by cases hx),rfl⟩,⟨_,_,rfl,false,[1],rfl,rfl,(λx hx=>by rw [Qk.1 hx]; decide),rfl⟩,trivial⟩
 have h:=Zd4 (lx:=[[.bool false,.row []],[.bool false,.row [[.int .u32 1]]]]) (ly:=[]) (px:=[0,1]) (py:=[]) i01 trivial ⟨Wx cs_run1.x (by decide),Qa8,by show Ug 0<=_; decide,by show 2<=1073741824; decide,by show 0<=1073741824; decide⟩;rw [Q6h] at h; exact h
theorem Zck:S5 2 1 [] ⟨run1,1⟩=0:=by decide +kernel
theorem Zcl:S5 2 1 [⟨run1,1⟩] ⟨E7 1 0,2⟩=0:=by decide +kernel
theorem Zin:∃ E1 E2:Es,EOk 0 E2/\E2.m=⟨2,1,wkP,0,0,0,0,0,0⟩/\EnD 28 [.one (.ow 0 0),.one (.int .i64 1),.agg (cl run1)] (El 2 1) [.one (.int .i64 0)] E1/\EnD 28 [.one (.ow 0 0),.one (.int .i64 2),.agg (cl (E7 1 0))] E1 [.one (.int .i64 0)] E2:=by
 have h0:=Quy (np:=2) (nd:=1) (by decide) (by decide);have hst:=Qsf (x:=1) (y:=0) (by decide) (by decide);have e1:Crv.norm (Crv.mk run1.x run1.y run1.d)=run1:=Crv.norm_of Qi3;have e2:Crv.norm (Crv.mk (E7 1 0).x (E7 1 0).y (E7 1 0).d)=E7 1 0:=Crv.norm_of hst.n;obtain ⟨E1,a1,a2,a3⟩:=Qqa h0 (id:=1) (Ga run1.x) (Ga run1.y) (Wy run1.d) (cs_run1.up (by decide) (by decide));rw [e1] at a2 a3;have i1:(El 2 1).m.ins ⟨run1,1⟩=((⟨2,1,[⟨run1,1⟩],0,0,0,0,0,0⟩:Em),0):=by
  unfold Em.ins;rw [show S5 (El 2 1).m.np (El 2 1).m.nd (El 2 1).m.M ⟨run1,1⟩=0 from Zck,if_pos rfl]; rfl
 rw [i1] at a2 a3;obtain ⟨E2,b1,b2,b3⟩:=Qqa a1 (id:=2) (Ga (E7 1 0).x) (Ga (E7 1 0).y) (Wy (E7 1 0).d) (hst.c.mono (by decide) (by decide));rw [e2,a2] at b2 b3;have i2:((⟨2,1,[⟨run1,1⟩],0,0,0,0,0,0⟩:Em),(0:Int)).1.ins ⟨E7 1 0,2⟩=((⟨2,1,wkP,0,0,0,0,0,0⟩:Em),0):=by
  unfold Em.ins;dsimp only;rw [Zcl,if_pos rfl]; rfl
 rw [i2] at b2 b3;exact ⟨E1,E2,b1,b2,a3,b3⟩
theorem Zeq {E:Es} {A:Em} (h:E.m=A):E.np=A.np/\E.nd=A.nd/\E.M=A.M/\E.q=A.q/\E.s.ev=A.s/\E.t.ev=A.t/\E.h.ev=A.h/\E.p.ev=A.p/\E.d.ev=A.d:=by subst h; exact ⟨rfl,rfl,rfl,rfl,rfl,rfl,rfl,rfl,rfl⟩
theorem Q19 {A:Em} {t:Rat} (h1:Qs 128 t) (h2:¬t<A.q):A.adv t=(({ A with q:=t,s:=A.s+(cnt (bcS A.M) A.q t:Nat),t:=A.t+(cnt (bcT A.M) A.q t:Nat),h:=A.h+(cnt (bcH A.M) A.q t:Nat),p:=A.p+(cnt (bcP A.M) A.q t:Nat),d:=A.d+(cnt (bcD A.M) A.q t:Nat) }:Em),0):=by
 unfold Em.adv; rw [if_pos h1]; exact if_neg h2
theorem Eb:W0 Tryz.prog 6 [] [.one (.bool true)]:=by
 obtain ⟨E1,E2,h2,m2,i1,i2⟩:=Zin;have ht:Qs 128 (3:Rat):=⟨by decide,by decide⟩;obtain ⟨E3,h3,m3,_,a3⟩:=Q0q h2 (by decide) (Wy (3:Rat).num) (Wy ((3:Rat).den:Int)) (by decide) (by decide) (Tf 3);rw [m2,Q19 ht (by show ¬(3:Rat)<0; decide)] at m3 a3;obtain ⟨_,_,e1,e2,e3,_⟩:=Zeq m2;obtain ⟨_,_,f1,f2,f3,_⟩:=Zeq m3;dsimp only at e1 e2 e3 f1 f2 f3;rw [Zik] at f3;have t2:=Qtw (np:=E2.np) (nd:=E2.nd) (M:=E2.M) (q:=E2.q) (s:=E2.s) (t:=E2.t) (h:=E2.h) (p:=E2.p) (d:=E2.d) h2.m.m.ln;have t3:=Qtw (np:=E3.np) (nd:=E3.nd) (M:=E3.M) (q:=E3.q) (s:=E3.s) (t:=E3.t) (h:=E3.h) (p:=E3.p) (d:=E3.d) h3.m.m.ln;obtain ⟨A2,hA2⟩:=nmE (Q2c E2.M E2.q);obtain ⟨A3,hA3⟩:=nmE (Q2c E3.M E3.q);rw [<-hA2] at t2;rw [<-hA3] at t3;have g2:∃ a b c d,A2=[ids [1,2],.row a,.row b,.row c,.row d]:=by
  rw [hA2,e1,e2];show ∃ a b c d,[ids ((Hy (tq 0) wkP).map (·.id)),_,_,_,_]=_;rw [Zim];exact ⟨_,_,_,_,rfl⟩
 have g3:∃ a b c d,A3=[ids [2,1],.row a,.row b,.row c,.row d]:=by
  rw [hA3,f1,f2];show ∃ a b c d,[ids ((Hy (tq 3) wkP).map (·.id)),_,_,_,_]=_;rw [Zdf];exact ⟨_,_,_,_,rfl⟩
 obtain ⟨a,b,c,d,rfl⟩:=g2;obtain ⟨a',b',c',d',rfl⟩:=g3;have cs:=Q27 (a:=[1,2]) (b:=[1,2]) (by decide) (by decide);have cs2:=Q27 (a:=[2,1]) (b:=[2,1]) (by decide) (by decide);have co:=Zfv (n:=3) (by decide);have ct:=Zji (q:=3) ⟨by decide,by decide⟩;have cst:=Q99 (x:=1) (y:=0) (by decide) (by decide);have ce:=Qpj (np:=E3.np) (nd:=E3.nd) (M:=E3.M) (q:=E3.q) (s:=E3.s) (t:=E3.t) (h:=E3.h) (p:=E3.p) (d:=E3.d);rw [f3] at ce;refine U4 Tryz.func6 rfl ?_;exact en tt [.c [0,1,2,3,4,5,6] (Q2x (by decide) (by decide)),.f rfl,.f rfl,.z 16,.c [] Zjm,.c [0,1,2,3,4,5,6] i1,.f rfl,.c [] cst,.c [0,1,2,3,4,5,6] i2,.f rfl,.c [0,1,2,3,4,5,6] t2,.c [] co,.c [] ct,.c [0,1,2,3,4,5,6] a3,.t rfl,.c [] cs,.t rfl,.c [0,1,2,3,4,5,6] t3,.c [] cs2,.t rfl,.c [0,1,2,3,4,5,6] ce,.i 0] rfl rfl (by simp [Wv])
def Qm5 (M:List Pt):Int:=M.foldl (λd p=>max d (Qef p.c)) 0
theorem Qkt {M:List Pt} {i:Nat} {p:Pt} (h:M[i]? = some p):Qm5 (M.take (i+1))=max (Qm5 (M.take i)) (Qef p.c):=by
 unfold Qm5; rw [List.take_succ,h,Option.toList_some,List.foldl_append]; rfl
theorem Za4 {k:Crv} (hk:Cs 128 3 k):0<=Qef k/\Qef k<=2:=by
 have:=hk.lx; have:=hk.ly; unfold Qef; omega
theorem Qxf {M:List Pt} (h:∀ p∈M,Sc p.c):∀ i,0≤Qm5 (M.take i)/\Qm5 (M.take i)≤2
 | 0=>by unfold Qm5; simp
 |
  i+1=>by
  have ih:=Qxf h i;cases hi:M[i]? with
  |
   none =>
   rw [Qr (by have:=Xo.1 hi; omega)];rw [Qr (Xo.1 hi)] at ih;exact ih
  |
   some p =>
   rw [Qkt hi];have:=Za4 (h p (Qa hi)).c;omega
theorem Zf7 {np nd:Int} {l:List Pt} (hs:∀ p∈l,Sc p.c) (hl:l.length≤1000000):W6 Tryz.prog 43 [.one (.ow 0 0)] [tB np nd l] [.one (.int .i64 (Qm5 l))] [tB np nd l]:=by
 have hll:(l.map W8).length=l.length:=by simp
 refine U4 Tryz.func43 rfl ?_;refine go tt [] rfl trivial ?_;refine lp (S:=Nat) 1 (λL1 i=>(11,.v (.one (.int .i64 (i:Int))))::(3,.v (.one (.int .i64 (Qm5 (l.take i)))))::L1) (λ_=>[tB np nd l]) (λi=>l.length-i) (λi=>i<=l.length) 0 (Qi _) rfl (λ_ _=>rfl) (by rw [Yv]; rfl) λi hi=>?_
 by_cases h:i<l.length
 ·obtain ⟨p,hp⟩:=gxE (l:=l) (i:=i) h;have hsc:=hs p (Qa hp);have cd:=Q3h hsc.n (hsc.c.mono (by decide) (by decide));refine go tt [.t (by simp; omega),.x (Ho hp),.c [] cd] rfl (by simp [Wv]; omega) ?_;exact rd (i+1) (by omega) h (by rw [Qkt hp]; rfl)
 ·obtain rfl:i=l.length:=by omega
  rw [Q4];exact ed tt [] [0] [.f (by simp)] rfl trivial
theorem Q2l {E:Es} {b:Int} (h:EOk b E) {n d:Int} (hn:n=E.M.length) (hd:d=Qm5 E.M):EnD 13 [.one (.ow 0 0)] E [.agg [.int .i64 (n*n*d),.int .i64 (n*n*d),.int .i64 (2*(n*n*n*d)+n*n*d),.int .i64 (2*(n*n*n*n*d)),.int .i64 (2*(n*n*n*d)+4*(n*n*n*n*d))]] E:=by
 have hl6:=h.m.m.ln;have hb:=Qxf h.m.m.sc E.M.length;rw [Q4] at hb;have c1:=Q3w (np:=E.np) (nd:=E.nd) (l:=E.M);have c2:=Zf7 (np:=E.np) (nd:=E.nd) h.m.m.sc (by omega);rw [<-hn] at c1;rw [<-hd] at c2 hb;have hn6:0<=n/\n<=6:=by omega
 have m2:0<=n*n/\n*n<=36:=⟨Vg hn6.1 hn6.1,by have:=Vf hn6.2 hn6.2 hn6.1 (by decide); omega⟩;have m3:0<=n*n*n/\n*n*n<=216:=⟨Vg m2.1 hn6.1,by have:=Vf m2.2 hn6.2 hn6.1 (by decide); omega⟩;have m4:0<=n*n*n*n/\n*n*n*n<=1296:=⟨Vg m3.1 hn6.1,by have:=Vf m3.2 hn6.2 hn6.1 (by decide); omega⟩;have d2:0<=n*n*d/\n*n*d<=72:=⟨Vg m2.1 hb.1,by have:=Vf m2.2 hb.2 hb.1 (by decide); omega⟩;have d3:0<=n*n*n*d/\n*n*n*d<=432:=⟨Vg m3.1 hb.1,by have:=Vf m3.2 hb.2 hb.1 (by decide); omega⟩;have d4:0<=n*n*n*n*d/\n*n*n*n*d<=2592:=⟨Vg m4.1 hb.1,by have:=Vf m4.2 hb.2 hb.1 (by decide); omega⟩;refine U4 Tryz.func13 rfl ?_;exact ed tt [] [0,1,2,3,4,5,6] [.lo,.c [1] c1,.lo,.c [1] c2] rfl (by simp only [Wv]; omega)
theorem Q2p {np nd:Int} (h1:1<=np/\np<=6) (h2:0<=nd/\nd<=2):EnD 8 [.one (.ow 0 0)] (El np nd) [.agg zTr,.one (.bool false)] (El np nd):=by
 have h:=Quy h1 h2;have k1:=La (T:=156) (r0:=Ww []) (r1:=brS [] (tq 0)) (ws:=[]) (r:=none) h.s.st.inv.ok rfl rfl;have k2:=Qwu (T:=162) (r0:=Ww []) (r1:=brT [] (tq 0)) (ws:=[]) (r:=none) h.t.st.inv.ok rfl rfl;have k3:=La (T:=164) (r0:=Ww []) (r1:=brH [] (tq 0)) (ws:=[]) (r:=none) h.h.st.inv.ok rfl rfl;have k4:=La (T:=166) (r0:=Ww []) (r1:=brP [] (tq 0)) (ws:=[]) (r:=none) h.p.st.inv.ok rfl rfl;have k5:=La (T:=168) (r0:=Ww []) (r1:=brD [] (tq 0)) (ws:=[]) (r:=none) h.d.st.inv.ok rfl rfl;refine U4 Tryz.func8 rfl ?_;refine go tt [.z 4,.c [0,1,2,3,4,5,6] Qpq] rfl trivial ?_;refine lp (S:=Nat) 8 (λL1 i=>(11,.v (.one (.int .i64 (i:Int))))::(4,.v (.one (.row [])))::L1) (λ_=>enB 0 (El np nd)++[.blk 40 [.nils,.bool false,.nils,.bool false,.nils,.bool false,.nils,.bool false,.nils]]) (λi=>5-i) (λi=>i<=5) 0 (by decide) rfl (λ_ _=>rfl) rfl λi hi=>?_
 rcases (show i=0\/i=1\/i=2\/i=3\/i=4\/i=5 by omega) with rfl | rfl | rfl | rfl | rfl | rfl
 ·exact go tt [.t rfl,.i 0,.c [2] k1,.f rfl] rfl (by simp [Wv]) (rd 1 (by omega) (by omega) rfl)
 ·exact go tt [.t rfl,.i 1,.c [3] k2,.f rfl] rfl (by simp [Wv]) (rd 2 (by omega) (by omega) rfl)
 ·exact go tt [.t rfl,.i 2,.c [4] k3,.f rfl] rfl (by simp [Wv]) (rd 3 (by omega) (by omega) rfl)
 ·exact go tt [.t rfl,.i 3,.c [5] k4,.f rfl] rfl (by simp [Wv]) (rd 4 (by omega) (by omega) rfl)
 ·exact go tt [.t rfl,.i 4,.c [6] k5,.f rfl] rfl (by simp [Wv]) (rd 5 (by omega) (by omega) rfl)
 ·exact ed tt [] [0,1,2,3,4,5,6] [.f rfl,.c [] Qhp] rfl trivial
set_option maxHeartbeats 8000000 in
theorem Qm3 {a b:Int} (ha:-9223372036854775808<=a/\a<=9223372036854775807) (hb:-9223372036854775808<=b/\b<=9223372036854775807):W0 Tryz.prog 3 [.one (.int .i64 a),.one (.int .i64 b)] [.one (.bool true)]:=by
 by_cases hg:(1<=a/\a<=6)/\(0<=b/\b<=2)
 ·obtain ⟨h1,h2⟩:=hg;have h:=Quy h1 h2;have cn:=Q2x h1 h2;have ct:=Zgl h;rw [show Q2c (El a b).M (El a b).q=Zlt from rfl] at ct;have cx:=Q2p h1 h2;have cl:=Q3w (np:=a) (nd:=b) (l:=[]);have ck:=Q9t (np:=a) (nd:=b) (M:=[]) (s:=(El a b).s) (t:=(El a b).t) (h:=(El a b).h) (p:=(El a b).p) (d:=(El a b).d) h.q;have cz:=Nc (z:=(0:Rat).num);have cc:=Q4r (E:=El a b);have cb:=Q2l h (n:=0) (d:=0) rfl rfl;have cC:=Q4q h;rw [show Q31 (El a b).M (El a b).q=[] from rfl] at cC;refine U4 Tryz.func3 rfl ?_;exact en tt [.c [0,1,2,3,4,5,6] cn,.f (decide_eq_false (by omega)),.f (decide_eq_false (by omega)),.f (decide_eq_false (by omega)),.f (decide_eq_false (by omega)),.f rfl,.f rfl,.c [0,1,2,3,4,5,6] ct,.c [0,1,2,3,4,5,6] cx,.c [1] cl,.t rfl,.c [0,1,2,3,4,5,6] ck,.c [] cz,.t rfl,.t rfl,.t rfl,.c [0,1,2,3,4,5,6] cc,.t rfl,.c [0,1,2,3,4,5,6] cb,.t rfl,.c [0,1,2,3,4,5,6] cC,.t rfl,.c [] Eb] rfl rfl (by simp [Wv])
 ·have cn:=Q9w (np:=a) (nd:=b) (by omega);by_cases h1:a<1
  ·exact w tt Tryz.func3 rfl [.c [] cn,.t (decide_eq_true h1),.t rfl,.t rfl,.t rfl,.t rfl,.t rfl,.c [] Eb] rfl rfl trivial
  by_cases h2:6<a
  ·exact w tt Tryz.func3 rfl [.c [] cn,.f (decide_eq_false h1),.t (decide_eq_true h2),.t rfl,.t rfl,.t rfl,.t rfl,.c [] Eb] rfl rfl trivial
  by_cases h3:b<0
  ·exact w tt Tryz.func3 rfl [.c [] cn,.f (decide_eq_false h1),.f (decide_eq_false h2),.t (decide_eq_true h3),.t rfl,.t rfl,.t rfl,.c [] Eb] rfl rfl trivial
  ·exact w tt Tryz.func3 rfl [.c [] cn,.f (decide_eq_false h1),.f (decide_eq_false h2),.f (decide_eq_false h3),.t (decide_eq_true (by omega)),.t rfl,.t rfl,.c [] Eb] rfl rfl trivial
end Orr
namespace Orr
open Go Go.Proofs
variable {H:Type} {enc:TypeId×Value->H} {w:World} {base:Nat} {spare:Nat->Bool} {held:Bool}
end Orr
namespace Orr
open Go Go.Proofs Go.ChangeShapes Go.WideShapes Go.ChangeAt Go.RowKit Go.WideElems
def fr0 (w:World):Fr:=⟨λb=>b<w.heap.size,λ_=>False,w,λ_=>False,λ_=>none⟩
theorem hs0 (w:World):HS (fr0 w) (ob []) (nw []) (λ_=>none) (λ_=>False) w where
 size:=Qm _
 kept:=λb hb=>⟨hb,rfl,Iff.rfl⟩
 ids:=λi h=>h.elim
 nj:=λi h=>by rw [Qnz] at h; cases h
 io:=⟨rfl,rfl⟩
 blk:=λi=>by rw [Qnz]; trivial
 nk:=λi g c m h _=>by rw [Qnz] at h; cases h
 inj:=λi j g c m c' m' h _ _ _=>by rw [Qnz] at h; cases h
 mlt:=λb h=>h.elim
 m0:=λb _ h=>h.elim
 un:=λi _=>⟨rfl,rfl⟩
 uj:=λi _ h=>h.elim
theorem Zcv {w w':World} {bl:Nat->OB} {U:Nat->Prop} {E:P7} {M:Nat->Prop} (h:HS (fr0 w) bl U E M w') {p:MemPlace} (hp:p.block<w.heap.size):w.sameAt w' p:=by
 cases p with
 | cell b off=>simp only [World.sameAt,World.cell?]; rw [(h.kept b hp).2.1]; rfl
 | map b=>exact (h.kept b hp).2.1
theorem Zbo {w w':World} {bl:Nat->OB} {U:Nat->Prop} {E:P7} {M:Nat->Prop} (h:HS (fr0 w) bl U E M w') (may:MemPlace->Prop):w.keptBut w' may:=by
 refine ⟨h.io.1,h.io.2,λi hi=>?_⟩;have e:w'.heap[i]? = w.heap[i]? := (h.kept i hi).2.1;rw [e];cases w.heap[i]? with
 | none=>rfl
 | some o=>cases o <;> simp
variable {H:Type} {enc:TypeId×Value->H} {w:World}
end Orr
namespace Orr
open Go Go.Proofs Go.ChangeShapes Go.WideShapes Go.ChangeAt Go.RowKit Go.WideElems
variable {H:Type} {enc:TypeId×Value->H} {w:World}
end Orr
namespace Orr
open Go Go.Proofs Go.ChangeShapes Go.WideShapes Go.ChangeAt Go.RowKit Go.WideElems
set_option maxRecDepth 10000
def Qwb (t:TypeId) (R:TV->Prop):Prop:=∀ {H:Type} {enc:TypeId×Value->H} {W:World} {base:Nat} {v:Value} {d:DataW H} {p:List MemPlace},Value.okWide Tryz.prog W .any base t v->DataW.Trod enc Tryz.prog W 0 (λ_=>true) true t v d p->(d.weights Tryz.prog t).all (· <= reachBytes)=true->∃ u,R u/\TRep W (λ_=>False) (λ_=>none) v u
section
variable {H:Type} {enc:TypeId×Value->H} {W W':World} {base:Nat}
theorem Qr7:∀ {ps:List (TypeId×(TV->Prop))} {args:List Value} {ds:List (DataW H)} {p:List MemPlace},DataW.TrodAll enc Tryz.prog W 0 (λ_=>true) true (ps.map (·.1)) args ds p ->
 (∀ (j:Nat) t v,(ps.map (·.1))[j]? = some t->args[j]? = some v->Value.okWide Tryz.prog W .any base t v)->(∀ (j:Nat) t d,(ps.map (·.1))[j]? = some t->ds[j]? = some d->(d.weights Tryz.prog t).all (· ≤ reachBytes)=true)->(∀ q∈ps,Qwb q.1 q.2) ->
 ∃ us,F2 (λu (q:TypeId×(TV->Prop))=>q.2 u) us ps/\F2 (TRep W (λ_=>False) (λ_=>none)) args us/\ds.length=ps.length
 |
  [],args,ds,p,h,_,_,_=>by
  obtain ⟨rfl,rfl,rfl⟩:=trodAll_nil h;exact ⟨[],.nil,.nil,rfl⟩
 |
  q::ps,args,ds,p,h,hv,hw,hr=>by
  obtain ⟨v,vs,d,ds',p1,p2,rfl,rfl,rfl,h1,h2⟩:=trodAll_cons h;obtain ⟨u,r1,r2⟩:=hr q (Qx ..) (hv 0 q.1 v rfl rfl) h1 (hw 0 q.1 d rfl rfl);obtain ⟨us,s1,s2,s3⟩:=Qr7 h2 (λj t v h h'=>hv (j+1) t v (by simpa using h) (by simpa using h')) (λj t d h h'=>hw (j+1) t d (by simpa using h) (by simpa using h')) λq hq=>hr q (Qe _ hq)
  exact ⟨u::us,.cons r1 s1,.cons r2 s2,by simp [s3]⟩
theorem Qsn {sp':Nat->Bool} (hl:laidOutB Tryz.prog=true):∀ {ps:List (TypeId×(TV->Prop))} {args:List Value} {ds:List (DataW H)} {p:List MemPlace},DataW.TrodAll enc Tryz.prog W 0 (λ_=>true) true (ps.map (·.1)) args ds p ->
 (∀ q∈ps,Tryz.prog.readableRec q.1=true/\q.1<Tryz.prog.types.size)->(∀ x∈p,W.sameAt W' x)->(∀ x∈p,sp' x.block=true)->DataW.TrodAll enc Tryz.prog W' 0 sp' true (ps.map (·.1)) args ds p
 |
  [],args,ds,p,h,_,_,_=>by
  obtain ⟨rfl,rfl,rfl⟩:=trodAll_nil h;exact trodAll_mk0
 |
  q::ps,args,ds,p,h,hr,hs,hb=>by
  obtain ⟨v,vs,d,ds',p1,p2,rfl,rfl,rfl,h1,h2⟩:=trodAll_cons h;obtain ⟨r1,r2⟩:=hr q (Qx ..);exact trodAll_cons_mk (Trod_stays hl r1 r2 h1 (λx hx=>hs x (Qq.2 (.inl hx))) λx hx=>hb x (Qq.2 (.inl hx))) (Qsn hl h2 (λq hq=>hr q (Qe _ hq)) (λx hx=>hs x (Qq.2 (.inr hx))) λx hx=>hb x (Qq.2 (.inr hx)))
end
theorem Q5w {ps:List (TypeId×(TV->Prop))} {f:FuncId} {fn:Func} {s:ChangeSpec} (hp:fn.params=(ps.map (·.1)).toArray) (hr:fn.resultTypes = #[4]) (hv:s.vars=[])
 (hs:∀ (H:Type) (ds:List (DataW H)),ds.length=ps.length->s.fn H ds={ results:=[.lit (.bool true)],args:=ds })
 (hlaid:laidOutB Tryz.prog=true) (hrec:∀ q∈ps,Tryz.prog.readableRec q.1=true/\q.1<Tryz.prog.types.size) (hrd:∀ q∈ps,Qwb q.1 q.2)
 (law:∀ us:List TV,F2 (λu (q:TypeId×(TV->Prop))=>q.2 u) us ps->W0 Tryz.prog f us [.one (.bool true)])
 {H:Type} {enc:TypeId×Value->H} {W:World} {base:Nat} {args:Array Value} {ds gs:List (DataW H)} {Hk:List MemPlace} {fresh handsOn:Bool}
 (hval:∀ (j:Nat) t v,fn.params[j]? = some t->args[j]? = some v->Value.okWide Tryz.prog W .any base t v)
 (hW:DataW.Whole enc Tryz.prog fn.params.toList s.vars false W args.toList ds gs Hk)
 (hz:(DataW.weightsEach Tryz.prog (fn.params.toList++s.plain.varTypes Tryz.prog) (ds++gs)).all (· <= reachBytes)=true) :
 Calls Tryz.prog f args W λe W'=>∃ v,e=.returned v/\s.post enc Tryz.prog fn false fresh handsOn false W args v W':=by
 have hW':=hW;obtain ⟨p,q,hA0,hV,rfl,hfz,hnd⟩:=hW;have hA:DataW.TrodAll enc Tryz.prog W 0 (λ_=>true) true fn.params.toList args.toList ds p:=hA0;rw [hv] at hV;obtain ⟨rfl,rfl⟩:=trodVars_none hV;have hlt:=hW'.lt;rw [hp] at hA hval hz;have hA:DataW.TrodAll enc Tryz.prog W 0 (λ_=>true) true (ps.map (·.1)) args.toList ds p:=by simpa using hA
 obtain ⟨us,r1,r2,r3⟩:=Qr7 (base:=base) hA (λj t v h h'=>hval j t v (by simpa using h) (by simpa using h')) (λj t d h h'=>by
  rw [Yy] at hz ⊢;intro k hk;have hj:j<(ps.map (·.1)).length:=(Qg.1 h).1;have hj2:j<ds.length:=(Qg.1 h').1;exact hz k (DataW.weights_mem_each (j:=j) (by rw [Zn (by simpa using hj)]; simpa using h) (by rw [Zn hj2]; exact h') k hk)) hrd
 have hcall:=(law us r1).2 (fr0 W) (λ_=>none) (λ_=>False) W args.toList (hs0 W) r2;have ea:args.toList.toArray=args:=by simp
 rw [ea] at hcall;refine hcall.mono λe W' ⟨v,u,Bo,E',M',he,⟨hu,hBo⟩,_,hm,har⟩=>?_
 subst hu;obtain rfl:v=.bool true:=by
  have h:LRep _ _ v (.bool true):=har;cases h;rfl
 refine ⟨_,he,?_⟩;refine ⟨ds,[],_,[],p,[],hW',?_,?_,?_,Zbo hm _,λh=>by cases h⟩
 ·rw [hr,Zw,hs H ds r3];exact trodAll_cons_mk (shut_bool Tryz.underlying4 true) trodAll_mk0
 ·rw [hp,Zw,hs H ds r3];have hb:∀ x∈p,x.block<W.heap.size:=λx hx=>hlt x (by simp [hx])
  have:=Qsn (sp':=λb=>decide (b<W.heap.size)) hlaid hA hrec (λx hx=>Zcv hm (hb x hx)) λx hx=>by simpa using hb x hx
  simpa using this
 ·rw [hv,Zw,hs H ds r3];rfl
abbrev Zfa (u:TV):Prop:=∃ n:Int,(-9223372036854775808<=n/\n<=9223372036854775807)/\u=.one (.int .i64 n)
theorem Ql3:Qwb 3 Zfa:=λ{H enc W base v d p} hv h _=>by
 obtain ⟨n,rfl,rfl,rfl,w1⟩:=open_int Tryz.underlying3 hv h;exact ⟨_,⟨n,by simpa [Lit.wf,IntKind.min,IntKind.max,IntKind.signed,IntKind.bits] using w1,rfl⟩,show XRep W (λ_=>False) (λ_=>none) (.int .i64 n) (.int .i64 n) from (LRep.int .i64 n).x⟩
end Orr
