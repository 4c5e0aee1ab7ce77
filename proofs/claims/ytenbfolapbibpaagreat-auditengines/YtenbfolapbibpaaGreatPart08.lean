import Derived.Test.YtenbfolapbibpaaGreatPart07
import Derived.Test.YtenbfolapbibpaaGreatPart00
import Derived.Test.YtenbfolapbibpaaGreatPart04
set_option linter.all false
namespace Orq
open Orr Go
section
variable{α:Type}{lt lt':α->α->Bool}
theorem OH{out:List α}{x:α}(h:∀y∈out,lt x y=lt' x y):∀k,Li lt out x k=Li lt' out x k
 | 0=>rfl
 |
  k+1=>by
  simp only[Li];cases hy:out[k]? with
  |none=>rfl
  |some y=>simp only[h y (Qa hy),OH h k]
theorem NS{l:List α}(h:∀u∈l,∀v∈l,lt u v=lt' u v):∀(m out:List α),(∀x∈m,x∈l)->(∀x∈out,x∈l)->m.foldl (E8 lt) out=m.foldl (E8 lt') out
 | [],_,_,_=>rfl
 |
  x::m,out,h1,h2=>by
  have e:E8 lt out x=E8 lt' out x:=by
   unfold E8;rw[OH λy hy=>h x (h1 x Fp) y (h2 y hy)]
  simp only[Xl];rw[e];exact NS h m _ (λy hy=>h1 y (Qh _ hy)) λy hy=>by
   rcases HE.1 hy with rfl|hy
   ·exact h1 _ Fp
   ·exact h2 y hy
end
variable{a:Tm}{l:List Pt}{q:Rat}
theorem OE(hb:∀u∈l,∀v∈l,(H8 (Gm a) u v=true↔Lc q u v))(hd:l.Pairwise λx y=>x.id≠y.id):(Ra a l).Pairwise (Lc q) :=
 foldG_pw (S:=λx=>x∈l) (D:=λx y=>x.id≠y.id) (KI q) (λu v hu hv h=>(hb u hu v hv).1 h) (λu v hu hv hne h=>pQ (λe=>hne e.symm) λh'=>by
  rw[(hb u hu v hv).2 h']at h;cases h) l [] .nil (λx hx=>by cases hx) (λx hx=>hx) hd (λx hx=>by cases hx)
theorem Qym(ha:Va a){u v:Pt}(hu:Sc u.c)(hv:Sc v.c)(h1:G7 (Gm a) (Hr u.c v.c)=Gn (Gf (Hr u.c v.c) q))(h2:G7 (Gm a) (Hq u.c v.c)=Gn (Gf (Hq u.c v.c) q))(hne:u.c≠v.c)(h:Lc q u v):lx (px · q) (py · q) u v:=by
 rcases h with h|⟨h,h3⟩
 ·exact .inl h
 rcases h3 with h3|⟨h3,_⟩
 ·exact .inr ⟨h,h3⟩
 ·exfalso;rw[MC hu hv]at h1;rw[MB hu hv]at h2;have z1:Gn (px v q-px u q)=0:=Hd.2 Fq;have z2:Gn (py v q-py u q)=0:=Hd.2 Fq;rw[z1]at h1;rw[z2]at h2;have e1:(Hr u.c v.c).length=0:=Decidable.byContradiction λe=>(A3 ha (Ca hu hv).dp e).2 h1
  have e2:(Hq u.c v.c).length=0:=Decidable.byContradiction λe=>(A3 ha (B9 hu hv).dp e).2 h2
  exact hne (Qsu hu.n hv.n (Qi e1) (Qi e2))
structure LowC(X Y:Pt->Rat)(R L:List Pt):Prop where
 hd:L.head? = R.head?
 la:L.getLast? = R.getLast?
 srt:L.Pairwise (lx X Y)
 mem:∀p∈L,p∈R
 edg:Edg (λa b=>∀p∈R,0≤H6 X Y a b p) L
 cnv:Cnv (λa b c=>0<H6 X Y a b c) L
variable{R:List Pt}
theorem zL{X Y:Pt->Rat}{sg:U6->Int}(hs:∀a∈R,∀b∈R,∀c∈R,(RZ sg a b c=true↔0<H6 X Y a b c))(hR:R.Pairwise (lx X Y))(h0:R≠[]):LowC X Y R (Mw sg R):=by
 cases R with
 |nil=>exact absurd rfl h0
 |
  cons f R =>
  obtain⟨t,st,g1,g2,g3,g4⟩:=zE hs hR R [f] f [] rfl ⟨K9 _ _,λp hp=>by rw[Ql.1 hp];simp,trivial,trivial⟩ rfl rfl;have e:Mw sg (f::R)=(t::st).reverse:=by
   unfold Mw;rw[<-g1];rfl
  rw[e];exact⟨by rw[List.head?_reverse,g4],by rw[List.getLast?_reverse];exact g3.symm,Vo.2 g2.srt,λp hp=>g2.mem p (Xh.1 hp),g2.edg.rev,g2.cnv.rev⟩
theorem Qzd{X Y:Pt->Rat}(hR:R.Pairwise (lx X Y)):∀p∈R,∀q∈R,p=q\/lx X Y p q\/lx X Y q p:=λp hp q hq=>by
 by_cases e:p=q
 ·exact .inl e
 ·exact .inr (yW hR hp hq e)
theorem Qlp{X Y:Pt->Rat}{L L':List Pt}(hR:R.Pairwise (lx X Y))(h:LowC X Y R L)(h':LowC X Y R L'):L=L':=by
 have hh:=h.hd.trans h'.hd.symm;have hl:=h.la.trans h'.la.symm;cases L with
 |
  nil=>cases L' with
  |nil=>rfl
  |cons _ _=>simp at hh
 |
  cons f M=>cases L' with
  |nil=>simp at hh
  |
   cons f' M' =>
   simp at hh;subst hh;obtain⟨z,hz⟩:∃z,(f::M).getLast? = some z:=⟨_,Yc Fp⟩;rw[Qji (Qzd hR) M M' f h.srt h'.srt h.mem h'.mem h.edg h'.edg h.cnv h'.cnv hz (hl ▸ hz)]
theorem nJ{x y:Rat}(h:Gn x=Gn y):(0<=x->0<=y)/\(0<x->0<y):=by
 have h1:=G6 x;have h2:=G6 y;grind
theorem rI{X Y X' Y':Pt->Rat}{R:List Pt}:∀{L:List Pt},(∀p∈L,p∈R)->(∀e∈Lv L,∀p∈R,Gn (H6 X Y e.1 e.2 p)=Gn (H6 X' Y' e.1 e.2 p))->Cnv (λa b c=>0<H6 X Y a b c) L->Cnv (λa b c=>0<H6 X' Y' a b c) L
 | [],_,_,_=>trivial
 | [_],_,_,_=>trivial
 | [_,_],_,_,_=>trivial
 |a::b::c::l,hm,he,h=>⟨(nJ (he (a,b) (by simp[Lv]) c (hm c Fp))).2 h.1,rI (λp hp=>hm p (Qh _ hp)) (λe hx=>he e (Qh _ hx)) h.2⟩
theorem pZ{X Y X' Y':Pt->Rat}{L:List Pt}(h:LowC X Y R L)(hl:∀u∈R,∀v∈R,lx X Y u v->lx X' Y' u v)(he:∀e∈Lv L,∀p∈R,Gn (H6 X Y e.1 e.2 p)=Gn (H6 X' Y' e.1 e.2 p)):LowC X' Y' R L :=
 ⟨h.hd,h.la,h.srt.imp_of_mem λhu hv h'=>hl _ (h.mem _ hu) _ (h.mem _ hv) h',h.mem,HW.2 λe hx p hp=>(nJ (he e hx p hp)).1 (HW.1 h.edg e hx p hp),rI h.mem he h.cnv⟩
theorem O5(X Y:Pt->Rat)(a b c:Pt):H6 (λp=>-X p) (λp=>-Y p) a b c=H6 X Y a b c:=by unfold H6;grind
theorem YI{X Y:Pt->Rat}{a b:Pt}:lx (λp=>-X p) (λp=>-Y p) a b↔lx X Y b a:=by unfold lx;grind
theorem Qv1{L:List Pt}{f z:Pt}(h1:L.head? = some f)(h2:L.getLast? = some z)(hne:f≠z):∃A,L=f::A++[z]:=by
 cases L with
 |nil=>cases h1
 |
  cons g M =>
  simp at h1;subst h1;cases M with
  |nil=>simp at h2;exact absurd h2 hne
  |
   cons x M =>
   rw[Yj]at h2;obtain⟨A,hA⟩:=Vu.1 h2;exact⟨A,by rw[hA];rfl⟩
theorem AO{α β:Type}{f g:α->List β}:∀{m:List α},(∀x∈m,f x=g x)->m.flatMap f=m.flatMap g
 | [],_=>rfl
 |x::m,h=>by rw[Yk,Yk,h x Fp,AO λy hy=>h y (Qh _ hy)]
theorem sT{sa sb:U6->Int}{C:List Pt}(h:∀x∈Da sa l C,G7 sb x.p=G7 sa x.p):Da sb l C=Da sa l C:=by
 by_cases h2:C.length<2
 ·unfold Da;rw[if_pos h2,if_pos h2]
 ·have e:∀s,Da s l C=(Sl C).flatMap (I0 s l):=λs=>if_neg h2
  rw[e]at h ⊢;rw[e];refine AO λx hx=>Xx λc hc=>?_
  have:=h (Ab sa x.1 x.2 c) (Zo.2 ⟨x,hx,W3 hc⟩);show(⟨3,x.1.id,x.2.id,c.id,0,Gj x.1.c x.2.c c.c,G7 sb (Gj x.1.c x.2.c c.c)⟩:Ct)=⟨3,x.1.id,x.2.id,c.id,0,Gj x.1.c x.2.c c.c,G7 sa (Gj x.1.c x.2.c c.c)⟩;have this:G7 sb (Gj x.1.c x.2.c c.c)=G7 sa (Gj x.1.c x.2.c c.c):=this;rw[this]
theorem Qcz(hd:l.Pairwise λx y=>x.id≠y.id){u v:Pt}(hu:u∈l)(hv:v∈l)(h:u.id=v.id):u=v:=by
 refine Classical.byContradiction λe=>?_
 rcases yW hd hu hv e with h'|h'
 ·exact h' h
 ·exact h' h.symm
structure Soon(l:List Pt)(a:Tm)(q:Rat):Prop where
 g:∀p∈Is l++LF l,G7 (Gm a) p=Gn (Gf p q)
 b:∀u∈l,∀v∈l,(H8 (Gm a) u v=true↔Lc q u v)
 o:∀u∈l,∀v∈l,∀w∈l,G7 (Gm a) (Gj u.c v.c w.c)=Gn (H6 (px · q) (py · q) u v w)
 t:∀u∈l,∀v∈l,∀w∈l,(RZ (Gm a) u v w=true↔0<H6 (px · q) (py · q) u v w)
 r:(Ra a (Gv l)).Pairwise (lx (px · q) (py · q))
theorem Qny(hl:∀p∈l,Sc p.c)(hd:l.Pairwise λx y=>x.id≠y.id)(ha:Va a):∃y,Gx a y=-1/\∀q,Gx a q=-1->q≤y->Soon l a q:=by
 obtain⟨y,y1,y2⟩:=YT ha (Is l++LF l) λp hp=>(CQ hl p hp).dp
 refine⟨y,y1,λq q1 q2=>?_⟩;have g:=y2 q q1 q2;have gP:=λp hp=>g p (Zy _ hp)
 have b:∀u∈l,∀v∈l,(H8 (Gm a) u v=true↔Lc q u v):=λu hu v hv=>LL ha (hl u hu) (hl v hv) (gP _ (Pz hu hv).1) (gP _ (Pz hu hv).2)
 have o:∀u∈l,∀v∈l,∀w∈l,G7 (Gm a) (Gj u.c v.c w.c)=Gn (H6 (px · q) (py · q) u v w):=λu hu v hv w hw=>by
  rw[g _ (X9 _ (hZ hu hv hw)),aA (hl u hu) (hl v hv) (hl w hw)]
 refine⟨g,b,o,λu hu v hv w hw=>?_,?_⟩
 ·unfold RZ;rw[o u hu v hv w hw,decide_eq_true_eq];have:=G6 (H6 (px · q) (py · q) u v w);grind
 ·have hw:∀u∈Gv l,u∈l:=λu hu=>Hu hu
  have h1:=OE (a:=a) (l:=Gv l) (q:=q) (λu hu v hv=>b u (hw u hu) v (hw v hv)) (List.Pairwise.sublist (An l) hd);have h2:(Ra a (Gv l)).Pairwise λx y=>x.c≠y.c:=(List.Perm.pairwise_iff (λ{x y} h e=>h e.symm) (iY (lt:=H8 (Gm a)) (Gv l))).2 (Qud l)
  refine(h1.and h2).imp_of_mem λ{u v} hu hv h=>?_
  have hu:=hw u (Hk.1 hu);have hv:=hw v (Hk.1 hv);exact Qym ha (hl u hu) (hl v hv) (gP _ (Pz hu hv).1) (gP _ (Pz hu hv).2) h.2 h.1
theorem QZ(hl:∀p∈l,Sc p.c)(hd:l.Pairwise λx y=>x.id≠y.id)(ha:Va a):∃q,Soon l a q :=
 let⟨y,h1,h2⟩:=Qny hl hd ha
 ⟨y,h2 y h1 Qr⟩
theorem C6(S:Soon l a q)(h3:3<=(Ra a (Gv l)).length):∃f z A B,Mw (Gm a) (Ra a (Gv l))=f::A++[z]/\Mw (Gm a) (Ra a (Gv l)).reverse=z::B++[f]/\LowC (px · q) (py · q) (Ra a (Gv l)) (f::A++[z])/\LowC (λp=>-px p q) (λp=>-py p q) (Ra a (Gv l)).reverse (z::B++[f])/\Sl (Hn l a)=Lv (f::A++[z])++Lv (z::B++[f])/\2<=(Hn l a).length:=by
 obtain⟨R,hR⟩:=nmE (Ra a (Gv l));have hm:∀x∈R,x∈l:=λx hx=>by rw[hR]at hx;exact Hu (Hk.1 hx)
 have r:=S.r;rw[<-hR]at r h3 ⊢;have h0:R≠[]:=λe=>by rw[e]at h3;simp at h3
 have c1:=zL (sg:=Gm a) (λu hu v hv w hw=>S.t u (hm u hu) v (hm v hv) w (hm w hw)) r h0;have r2:R.reverse.Pairwise (lx (λp=>-px p q) (λp=>-py p q)):=Vo.2 (r.imp λh=>YI.2 h);have c2:=zL (sg:=Gm a) (R:=R.reverse) (X:=λp=>-px p q) (Y:=λp=>-py p q) (λu hu v hv w hw=>by
  rw[O5 (px · q) (py · q)];exact S.t u (hm u (Xh.1 hu)) v (hm v (Xh.1 hv)) w (hm w (Xh.1 hw))) r2 (by simpa using h0)
 obtain⟨f,hf⟩:∃f,R.head? = some f:=by cases R with
  |nil=>exact absurd rfl h0
  |cons f _=>exact⟨f,rfl⟩
 obtain⟨z,hz⟩:∃z,R.getLast? = some z:=⟨_,Yc h0⟩;have hne:f≠z:=λe=>by
  subst e;cases R with
  |nil=>exact absurd rfl h0
  |
   cons g M =>
   simp at hf;subst hf;cases M with
   |nil=>simp at h3
   |
    cons x M =>
    rw[Yj]at hz;exact Mn _ ((Q0.1 r).1 g (Kh hz))
 obtain⟨A,hA⟩:=Qv1 (c1.hd.trans hf) (c1.la.trans hz) hne;obtain⟨B,hB⟩:=Qv1 (c2.hd.trans (by rw[List.head?_reverse];exact hz)) (c2.la.trans (by rw[List.getLast?_reverse];exact hf)) (Ne.symm hne);have hc:Hn l a=(f::A++[z]).dropLast++(z::B++[f]).dropLast:=by
  unfold Hn Mf;rw[<-hR,if_neg Fj,hA,hB]
 rw[hA]at c1;rw[hB]at c2;refine⟨f,z,A,B,hA,hB,c1,c2,by rw[hc];exact tL,?_⟩;rw[hc,Xg,Xg];simp;omega
theorem Qe8(hl:∀p∈l,Sc p.c)(hd:l.Pairwise λx y=>x.id≠y.id){b:Tm}(ha:Va a)(hb:Va b)(h:∀x∈qT l a,G7 (Gm b) x.p=G7 (Gm a) x.p):Hn l b=Hn l a/\qT l b=qT l a:=by
 obtain⟨q,Sa⟩:=QZ hl hd ha;obtain⟨r,Sb⟩:=QZ hl hd hb;obtain⟨k1,k2⟩:=mO hl hd ha hb λx hx=>h x (Zy _ hx)
 have pa:=OE Sa.b hd;have pb:=OE Sb.b hd;rw[k1]at pb;have pab:=pa.and pb;have lexs:∀u∈l,∀v∈l,(Lc q u v↔Lc r u v):=λu hu v hv=>by
  by_cases e:u=v
  ·subst e;exact⟨λh=>absurd h (YE _ _),λh=>absurd h (YE _ _)⟩
  ·rcases yW pab (Hk.2 hu) (Hk.2 hv) e with h'|h'
   ·exact⟨λ_=>h'.2,λ_=>h'.1⟩
   ·exact⟨λh=>absurd (KI _ _ _ _ h h'.1) (YE _ _),λh=>absurd (KI _ _ _ _ h h'.2) (YE _ _)⟩
 have bef:∀u∈l,∀v∈l,H8 (Gm b) u v=H8 (Gm a) u v:=λu hu v hv=>by
  have h1:=Sa.b u hu v hv;have h2:=Sb.b u hu v hv;have h3:=lexs u hu v hv;cases e1:H8 (Gm a) u v <;> cases e2:H8 (Gm b) u v <;> rw[e1]at h1 <;> rw[e2]at h2 <;> simp_all
 have eR:Ra b (Gv l)=Ra a (Gv l):=NS (l:=Gv l) (λu hu v hv=>bef u (Hu hu) v (Hu hv)) (Gv l) [] (λx hx=>hx) λx hx=>by cases hx
 have hm:∀x∈Ra a (Gv l),x∈l:=λx hx=>Hu (Hk.1 hx)
 have rb:=Sb.r;rw[eR]at rb;have hc:Hn l b=Hn l a:=by
  by_cases h3:(Ra a (Gv l)).length<3
  ·unfold Hn Mf;rw[eR,if_pos h3,if_pos h3]
  ·obtain⟨f,z,A,B,hA,hB,c1,c2,hE,hC2⟩:=C6 Sa Fj;obtain⟨f',z',A',B',hA',hB',c1',c2',hE',_⟩:=C6 Sb (by rw[eR];omega);rw[eR]at hA' hB' c1' c2';have sgs:∀e∈Sl (Hn l a),∀p∈Ra a (Gv l),Gn (H6 (px · q) (py · q) e.1 e.2 p)=Gn (H6 (px · r) (py · r) e.1 e.2 p):=λe he p hp=>by
    obtain⟨m1,m2⟩:=NH he;have m1:=Tr m1;have m2:=Tr m2;have m3:=hm p hp;by_cases ho:WC e p=true
    ·have hx:Ab (Gm a) e.1 e.2 p∈qT l a:=by
      refine X9 _ ?_;unfold Da;rw[if_neg Fj];exact Zo.2 ⟨e,he,W3 (J8.2 ⟨m3,ho⟩)⟩
     have hg:G7 (Gm b) (Gj e.1.c e.2.c p.c)=G7 (Gm a) (Gj e.1.c e.2.c p.c):=h _ hx;rw[<-Sa.o _ m1 _ m2 _ m3,<-Sb.o _ m1 _ m2 _ m3,hg]
    ·have hz:∀X Y:Pt->Rat,H6 X Y e.1 e.2 p=0:=λX Y=>by
      by_cases e1:p.id=e.1.id
      ·rw[Qcz hd m3 m1 e1];exact(RN _ _).1
      ·by_cases e2:p.id=e.2.id
       ·rw[Qcz hd m3 m2 e2];exact(RN _ _).2
       ·exact absurd (by simp[WC,e1,e2]) ho
     rw[hz,hz]
   have hlx:∀u∈Ra a (Gv l),∀v∈Ra a (Gv l),lx (px · q) (py · q) u v->lx (px · r) (py · r) u v:=λu hu v hv huv=>by
    have ra:=Sa.r;by_cases e:u=v
    ·subst e;exact absurd huv (Mn _)
    ·rcases yW (ra.and rb) hu hv e with h'|h'
     ·exact h'.2
     ·exact absurd (jS huv h'.1) (Mn _)
   have e1:=Qlp rb (pZ c1 hlx λe he=>sgs e (by rw[hE];exact Zy _ he)) c1';have rb2:(Ra a (Gv l)).reverse.Pairwise (lx (λp=>-px p r) (λp=>-py p r)):=Vo.2 (rb.imp λh=>YI.2 h);have e2:=Qlp rb2 (pZ c2 (λu hu v hv huv=>YI.2 (hlx v (Xh.1 hv) u (Xh.1 hu) (YI.1 huv))) λe he p hp=>by
    rw[O5 (px · q) (py · q),O5 (px · r) (py · r)];exact sgs e (by rw[hE];exact X9 _ he) p (Xh.1 hp)) c2'
   unfold Hn Mf;rw[eR,if_neg h3,if_neg h3,hA,hB,hA',hB',e1,e2]
 refine⟨hc,?_⟩;unfold qT;rw[hc,k2,sT λx hx=>h x (X9 _ hx)]
theorem Q2n(hl:∀p∈l,Sc p.c)(hn:l.length≤10)(hd:l.Pairwise λx y=>x.id≠y.id):Stab (qT l) (brH l):=by
 refine⟨bO hl hn,⟨Is l++LF l,CQ hl,λa _ x hx=>vM x hx⟩,λa b ha hb h=>?_⟩;obtain⟨e1,e2⟩:=Qe8 hl hd ha hb h;exact⟨e2,by show Fx _=Fx _;rw[e1]⟩
end Orq
namespace Orq
open Orr Go
theorem XR{a b c d:Crv}(ha:Sc a)(hb:Sc b)(hc:Sc c)(hd:Sc d):Cp (Hw a b c d):=by
 have lr:∀{a b:Crv},Sc a->Sc b->(Hr a b).length<=3/\(Hq a b).length<=3:=λ{a b} ha hb=>by
  have:=Cg (Gy b.x a.d) (Gy a.x b.d);have:=G8 b.x a.d;have:=G8 a.x b.d;have:=Cg (Gy b.y a.d) (Gy a.y b.d);have:=G8 b.y a.d;have:=G8 a.y b.d;have:=ha.c.lx;have:=hb.c.lx;have:=ha.c.ly;have:=hb.c.ly;unfold Hr Hq;omega
 have ap:∀{a b:Crv},Sc a->Sc b->(Me a b).length<=5/\Bd 517 (Me a b):=λ{a b} ha hb=>by
  obtain⟨l1,l2⟩:=lr ha hb;have b1:Bd 257 (Hr a b):=El (Hi hb.c.x ha.c.d) (Hi ha.c.x hb.c.d);have b2:Bd 257 (Hq a b):=El (Hi hb.c.y ha.c.d) (Hi ha.c.y hb.c.d);have q1:=Mv (u:=2) b1 b1 Fj;have q2:=Mv (u:=2) b2 b2 Fj;refine⟨?_,Fz (KV q1 q2) Fj⟩;have:=ZQ (Hg (Hr a b) (Hr a b)) (Hg (Hq a b) (Hq a b));have:=Pm (Hr a b) (Hr a b);have:=Pm (Hq a b) (Hq a b);unfold Me;omega
 have dd:∀{a b:Crv},Sc a->Sc b->Gl ((a.d*b.d)*(a.d*b.d))<=512:=λ{a b} ha hb=>by
  have:=Hb a.d b.d;have:=Hb (a.d*b.d) (a.d*b.d);have:=ha.c.d;have:=hb.c.d;omega
 obtain⟨l1,b1⟩:=ap hc hd;obtain⟨l2,b2⟩:=ap ha hb;refine⟨Gw _ _,?_,Fz (El (Hi b1 (dd ha hb)) (Hi b2 (dd hc hd))) Fj⟩;have:=Cg (Gy (Me c d) ((a.d*b.d)*(a.d*b.d))) (Gy (Me a b) ((c.d*d.d)*(c.d*d.d)));have:=G8 (Me c d) ((a.d*b.d)*(a.d*b.d));have:=G8 (Me a b) ((c.d*d.d)*(c.d*d.d));unfold Hw;omega
def qE(m:Pt×Pt)(q:Rat):Rat:=(px m.2 q-px m.1 q)*(px m.2 q-px m.1 q)+(py m.2 q-py m.1 q)*(py m.2 q-py m.1 q)
theorem Qr2{a b c d:Pt}(ha:Sc a.c)(hb:Sc b.c)(hc:Sc c.c)(hd:Sc d.c)(q:Rat):Gn (Gf (Hw a.c b.c c.c d.c) q)=Gn (qE (c,d) q-qE (a,b) q):=by
 have Sp:∀{z:Int},0<z->(0:Rat)<(z:Rat):=λ{z} h=>by exact_mod_cast h
 have pa:=Sp ha.n.2.2.1;have pb:=Sp hb.n.2.2.1;have pc:=Sp hc.n.2.2.1;have pd:=Sp hd.n.2.2.1;have xx:∀{p:Pt},0<(p.c.d:Rat)->Gf p.c.x q=px p q*(p.c.d:Rat)/\Gf p.c.y q=py p q*(p.c.d:Rat):=λ{p} h=>by
  unfold px py;exact⟨(Zj Fq).symm,(Zj Fq).symm⟩
 obtain⟨xa,ya⟩:=xx pa;obtain⟨xb,yb⟩:=xx pb;obtain⟨xc,yc⟩:=xx pc;obtain⟨xd,yd⟩:=xx pd;have e:Gf (Hw a.c b.c c.c d.c) q=(((a.c.d:Rat)*b.c.d)*((a.c.d:Rat)*b.c.d))*(((c.c.d:Rat)*d.c.d)*((c.c.d:Rat)*d.c.d))*(qE (c,d) q-qE (a,b) q):=by
  unfold Hw Me Hr Hq qE;simp only[Cm,Sf,OV,Hp,Ji];rw[xa,xb,xc,xd,ya,yb,yc,yd];grind
 rw[e,Ln];have h1:=Xm pa pb;have h2:=Xm pc pd;exact Xm (Xm h1 h1) (Xm h2 h2)
def qN(l:List Pt):U7:=l.flatMap λa=>l.flatMap λb=>l.flatMap λc=>l.map λd=>Hw a.c b.c c.c d.c
variable{l:List Pt}
theorem LU{a b c d:Pt}(ha:a∈l)(hb:b∈l)(hc:c∈l)(hd:d∈l):Hw a.c b.c c.c d.c∈qN l :=
 Zo.2 ⟨a,ha,Zo.2 ⟨b,hb,Zo.2 ⟨c,hc,Q8.2 ⟨d,hd,rfl⟩⟩⟩⟩
theorem GK(hl:∀p∈l,Sc p.c):∀p∈qN l,Cp p:=λp hp=>by
 obtain⟨a,ha,hp⟩:=Zo.1 hp;obtain⟨b,hb,hp⟩:=Zo.1 hp;obtain⟨c,hc,hp⟩:=Zo.1 hp;obtain⟨d,hd,rfl⟩:=Q8.1 hp;exact XR (hl a ha) (hl b hb) (hl c hc) (hl d hd)
theorem wX(hl:∀p∈l,Sc p.c){a:Tm}(ha:Va a):∃y,Gx a y=-1/\∀q,Gx a q=-1->q≤y->∀s m:Pt×Pt,s.1∈l->s.2∈l->m.1∈l->m.2∈l->G7 (Gm a) (Hw s.1.c s.2.c m.1.c m.2.c)=Gn (qE m q-qE s q):=by
 obtain⟨y,y1,y2⟩:=YT ha (qN l) λp hp=>(GK hl p hp).dp
 refine⟨y,y1,λq q1 q2 s m h1 h2 h3 h4=>?_⟩;rw[y2 q q1 q2 _ (LU h1 h2 h3 h4),Qr2 (hl _ h1) (hl _ h2) (hl _ h3) (hl _ h4)]
def Ez(f:Pt×Pt->Rat)(P:List (Pt×Pt))(r:Pt×Pt):Prop:=∃P1 P2,P=P1++r::P2/\(∀m∈P1,f r<f m)/\∀m∈P2,f r≤f m
theorem xC{f:Pt×Pt->Rat}:∀{P:List (Pt×Pt)} {r r':Pt×Pt},Ez f P r->Ez f P r'->r=r'
 | [],r,r',⟨P1,P2,h,_⟩,_=>by simp at h
 |
  x::P,r,r',⟨P1,P2,h,h1,h2⟩,⟨Q1,Q2,h',h1',h2'⟩=>by
  cases P1 with
  |
   nil =>
   simp at h;cases Q1 with
   |nil=>simp at h';exact h.1.symm.trans h'.1
   |
    cons y Q1 =>
    simp at h';exfalso;obtain⟨rfl,rfl⟩:=h;obtain⟨rfl,rfl⟩:=h';have a1:=h1' x Fp;have a2:=h2 r' Fp;grind
  |
   cons y P1 =>
   simp at h;cases Q1 with
   |
    nil =>
    simp at h';exfalso;obtain⟨rfl,rfl⟩:=h;obtain⟨rfl,rfl⟩:=h';have a1:=h1 x Fp;have a2:=h2' r Fp;grind
   |
    cons z Q1 =>
    simp at h h';exact xC (P:=P) ⟨P1,P2,h.2,λm hm=>h1 m (by simp[hm]),h2⟩ ⟨Q1,Q2,h'.2,λm hm=>h1' m (by simp[hm]),h2'⟩
variable{f:Pt×Pt->Rat}
theorem Qr3{P:List (Pt×Pt)}{r m:Pt×Pt}(h:Ez f P r):Ez f (P++[m]) (if f m<f r then m else r):=by
 obtain⟨P1,P2,rfl,h1,h2⟩:=h;by_cases e:f m<f r
 ·rw[if_pos e];refine⟨P1++r::P2,[],rfl,λx hx=>?_,λx hx=>by cases hx⟩;rcases Qp.1 hx with hx|hx
  ·have:=h1 x hx;grind
  ·rcases Qk.1 hx with rfl|hx
   ·exact e
   ·have:=h2 x hx;grind
 ·rw[if_neg e];refine⟨P1,P2++[m],Fp,h1,λx hx=>?_⟩;rcases Qp.1 hx with hx|hx
  ·exact h2 x hx
  ·rw[Ql.1 hx];grind
theorem Qbe{f:Pt×Pt->Rat}{sg:U6->Int}{l:List Pt}(hg:∀s m:Pt×Pt,s.1∈l->s.2∈l->m.1∈l->m.2∈l->G7 sg (Hw s.1.c s.2.c m.1.c m.2.c)=Gn (f m-f s)):∀(ps P:List (Pt×Pt)) (s:Pt×Pt),s.1∈l/\s.2∈l->(∀m∈ps,m.1∈l/\m.2∈l)->Ez f P s->Ez f (P++ps) (Ri sg s ps)
 | [],P,s,_,_,h=>by rw[Zw];exact h
 |
  m::ps,P,s,hs,hp,h=>by
  rw[A6];have hm:=hp m Fp;have e:Mz sg s m=if f m<f s then m else s:=by
   unfold Mz;rw[hg s m hs.1 hs.2 hm.1 hm.2];have:=G6 (f m-f s);by_cases h:f m<f s
   ·rw[if_pos h,if_pos Fq]
   ·rw[if_neg h,if_neg Fq]
  have hn:(Mz sg s m).1∈l/\(Mz sg s m).2∈l:=by
   rcases WZ sg s m with e|e <;> rw[e] <;> assumption
  have:=Qbe hg ps (P++[m]) (Mz sg s m) hn (λx hx=>hp x (Qh _ hx)) (by rw[e];exact Qr3 h);rwa[Za]at this
theorem eA(a b:Pt)(l:List Pt):∃P,G9 (a::b::l)=(a,b)::P:=⟨_,rfl⟩
theorem wO{sg:U6->Int}{a b:Pt}(hg:∀s m:Pt×Pt,s.1∈a::b::l->s.2∈a::b::l->m.1∈a::b::l->m.2∈a::b::l->G7 sg (Hw s.1.c s.2.c m.1.c m.2.c)=Gn (f m-f s)):Ez f (G9 (a::b::l)) (Ri sg (a,b) (G9 (a::b::l))):=by
 obtain⟨P,hP⟩:=eA a b l;have hm:=Se (a::b::l).length (a::b::l);have hm:∀m∈G9 (a::b::l),m.1∈a::b::l/\m.2∈a::b::l:=hm;rw[hP]at hm ⊢;have h:=Qbe hg P [(a,b)] (a,b) (hm (a,b) Fp) (λm h=>hm m (by simp[h])) ⟨[],[],rfl,λm h=>(by cases h),λm h=>(by cases h)⟩;rw[A6];have e:Mz sg (a,b) (a,b)=(a,b):=by rcases WZ sg (a,b) (a,b)with e|e <;> exact e
 rw[e];exact h
theorem Qc0(hd:l.Pairwise λx y=>x.id≠y.id){u v:Pt}(hu:u∈l)(hv:v∈l)(h:u.id=v.id):u=v:=by
 by_cases e:u=v
 ·exact e
 ·rcases yW hd hu hv e with h'|h'
  ·exact absurd h h'
  ·exact absurd h.symm h'
theorem Qfv(hl:∀p∈l,Sc p.c)(hd:l.Pairwise λx y=>x.id≠y.id){a b:Tm}(ha:Va a)(hb:Va b)(h:∀x∈Lz (Gm a) l,G7 (Gm b) x.p=G7 (Gm a) x.p):Oe (Gm b) l=Oe (Gm a) l/\Lz (Gm b) l=Lz (Gm a) l:=by
 match l,hl,hd,h with
 | [],_,_,_=>exact⟨rfl,rfl⟩
 | [x],_,_,_=>exact⟨rfl,rfl⟩
 |
  u::v::l',hl,hd,h =>
  obtain⟨y,y1,y2⟩:=wX hl ha;obtain⟨z,z1,z2⟩:=wX hl hb;have ga:=y2 y y1 Qr;have gb:=z2 z z1 Qr;have fa:=wO (f:=λm=>qE m y) ga;have fb:=wO (f:=λm=>qE m z) gb;simp only[Oe,Lz]at h ⊢;have hm:∀m∈G9 (u::v::l'),m.1∈u::v::l'/\m.2∈u::v::l':=Se _ _;generalize u::v::l'=l at *;obtain⟨r,hr⟩:=nmE (Ri (Gm a) (u,v) (G9 l));rw[<-hr]at fa h ⊢;obtain⟨P1,P2,hP,h1,h2⟩:=fa;have hrm:r∈G9 l:=by rw[hP];simp
  have hrl:=hm r hrm;have key:∀m∈G9 l,m=r\/G7 (Gm b) (Hw r.1.c r.2.c m.1.c m.2.c)=G7 (Gm a) (Hw r.1.c r.2.c m.1.c m.2.c):=λm hmm=>by
   have hml:=hm m hmm;by_cases e:JP r m=true
   ·right;have h0:=h (B6 (Gm a) r.1 r.2 m.1 m.2) (by unfold Bw;exact List.mem_map.2 ⟨m,List.mem_filter.2 ⟨hmm,e⟩,rfl⟩);rw[ID]at h0;exact h0
   ·left;unfold JP at e;simp at e;have e1:=Qc0 hd hml.1 hrl.1 e.1;have e2:=Qc0 hd hml.2 hrl.2 e.2;exact Prod.ext e1 e2
  have fb':Ez (λm=>qE m z) (G9 l) r:=by
   refine⟨P1,P2,hP,λm hmm=>?_,λm hmm=>?_⟩
   ·have hmp:m∈G9 l:=by rw[hP];simp[hmm]
    have hlt:=h1 m hmm;have hml:=hm m hmp;rcases key m hmp with e|e
    ·exfalso;rw[e]at hlt;dsimp only at hlt;grind
    ·rw[ga r m hrl.1 hrl.2 hml.1 hml.2,gb r m hrl.1 hrl.2 hml.1 hml.2]at e;dsimp only at hlt ⊢;rw[Tj.2 (by grind:0<qE m y-qE r y)]at e;have:=Tj.1 e;grind
   ·have hmp:m∈G9 l:=by rw[hP];simp[hmm]
    have hlt:=h2 m hmm;have hml:=hm m hmp;rcases key m hmp with e|e
    ·rw[e];exact Qr
    ·rw[ga r m hrl.1 hrl.2 hml.1 hml.2,gb r m hrl.1 hrl.2 hml.1 hml.2]at e;dsimp only at hlt ⊢;have t1:=G6 (qE m y-qE r y);have t2:=G6 (qE m z-qE r z);grind
  have er:=xC fb fb';rw[er];refine⟨rfl,?_⟩;unfold Bw;refine Xx λm hmm=>?_
  have hmp:=(J8.1 hmm).1;rcases key m hmp with e|e
  ·exfalso;have:=(J8.1 hmm).2;rw[e]at this;unfold JP at this;simp at this
  ·unfold B6;rw[e]
theorem Q2o(hl:∀p∈l,Sc p.c)(hn:l.length≤10)(hd:l.Pairwise λx y=>x.id≠y.id):Stab (λa=>Lz (Gm a) l) (λa=>Fx (Oe (Gm a) l)):=by
 have hcp:∀a,∀x∈Lz (Gm a) l,x.p∈qN l:=λa x hx=>by
  match l,hx with
  |
   u::v::l',hx =>
   simp only[Lz]at hx;obtain⟨h3,h4⟩:=Ad (Gm a) (l:=u::v::l') (G9 (u::v::l')) (u,v) ⟨Fp,Fp⟩ (Se _ _);obtain⟨m,hm,rfl⟩:=PW hx;obtain⟨h1,h2⟩:=Se _ _ m hm;rw[ID];exact LU h3 h4 h1 h2
 refine⟨⟨λa _ x hx=>GK hl _ (hcp a x hx),λa _=>?_⟩,⟨qN l,GK hl,λa _=>hcp a⟩,λa b ha hb h=>?_⟩
 ·have:=jA (Gm a) l;have:l.length*l.length<=10*10:=Zg hn hn;show(Lz (Gm a) l).length<=1000;omega
 ·obtain⟨h1,h2⟩:=Qfv hl hd ha hb h;exact⟨h2,by show Fx _=Fx _;rw[h1]⟩
end Orq
namespace Orr
open Go Go.Proofs Tryz Orq
set_option maxRecDepth 10000
def VY:Nat->Fb->Fb
 |_,[]=>[]
 | 0,x::l=>RF x::l
 |k+1,x::l=>x::VY k l
theorem jC:∀(k:Nat) (l:Fb),(VY k l).length=l.length
 |_,[]=>by cases ‹Nat› <;> rfl
 | 0,x::l=>rfl
 |k+1,x::l=>by simp only[VY,Q5,jC k l]
theorem jB:∀(k:Nat) (l:Fb) {j:Nat} {y:LV},(VY k l)[j]? = some y->∃x,l[j]? = some x/\(y=x\/y=RF x)
 | 0,[],_,_,h=>by simp[VY]at h
 |_+1,[],_,_,h=>by simp[VY]at h
 | 0,x::l,0,y,h=>by simp[VY]at h;exact⟨x,rfl,.inr h.symm⟩
 | 0,x::l,j+1,y,h=>by simp[VY]at h;exact⟨y,by simpa using h,.inl rfl⟩
 |k+1,x::l,0,y,h=>by simp[VY]at h;exact⟨x,rfl,.inl h.symm⟩
 |
  k+1,x::l,j+1,y,h=>by
  simp only[VY,J1]at h;obtain⟨z,h1,h2⟩:=jB k l h;exact⟨z,by simpa using h1,h2⟩
theorem nlc{P:Program}[Mo P]{n:Nat}{Q:Exit->Sg->Fe->Prop}{L:Sg}{B B':Fe}(i d:Nat){T:TypeId}{xs:Fb}{it:List It}(hs:Tz it=true)(hb:On B i=some (.blk T xs))(hB:Oh B i (.blk T (VY d xs))=some B')(k:AK P n Q it L B'):AK P n Q it L B:=by
 obtain⟨rfl,hl⟩:=C0 hB;have hbi:B[i]? = some (.blk T xs):=Mh ▸ hb;refine AK.sub (λF E M a w h=>⟨E,M,?_,h.size,h.defers,h.slots⟩) hs k;rw[FK,VU hbi];refine h.hs.re (λj=>?_) (λj=>?_) (λj=>?_) λj hj=>?_
 ·by_cases e:j=i
  ·subst e;rw[Gt];obtain⟨g,c,m,h1,cs,h2,h3⟩:=h.blk hb;refine⟨g,c,m,h1,cs,h2,F2.of (by rw[jC];exact h3.len) λk v x hv hx=>?_⟩;obtain⟨y,hy,hyx⟩:=jB _ _ hx;rcases hyx with rfl|rfl
   ·exact h3.get' hv hy
   ·exact Qb9 (h3.get' hv hy)
  ·rw[Hj _ _ e];exact h.hs.blk j
 ·by_cases e:j=i
  ·subst e;rw[Gt,Su hbi];rfl
  ·rw[Hj _ _ e]
 ·by_cases e:j=i
  ·subst e;rw[Gt,Su hbi];rfl
  ·rw[Hj _ _ e]
 ·by_cases e:j=i
  ·subst e;rw[Su hbi]at hj;cases hj
  ·rw[Hj _ _ e];exact hj
theorem HV{l m:Fc}(h:l=m):TV.one (LV.row l)=.one (.row m):=h ▸ rfl
theorem rB{a b:Crv}(ha:KX a)(hb:KX b)(ca:Cb a)(cb:Cb b):U3 151 [.agg (cl a),.agg (cl b)] [pr (Me a b)]:=by
 obtain⟨p1,l1,b1⟩:=pA ca cb;obtain⟨p2,l2,b2⟩:=pL ca cb;have m1:=Pm (Hr a b) (Hr a b);have m2:=Pm (Hq a b) (Hq a b);have q1:=Mv (u:=5) b1 b1 Fj;have q2:=Mv (u:=5) b2 b2 Fj;exact Uy func151 rfl [.k (GR ha hb ca cb),.k (GF ha hb ca cb),.k (US p1.t p1.t Fj Fj b1 b1 Fj),.k (US p2.t p2.t Fj Fj b2 b2 Fj),.k (EJ Fj Fj (Fz q1 Fj) (Fz q2 Fj))] rfl
theorem Qdx{a b c d:Crv}(ha:KX a)(hb:KX b)(hc:KX c)(hd:KX d)(ca:Cb a)(cb:Cb b)(cc:Cb c)(cd:Cb d):U3 80 [.agg (cl a),.agg (cl b),.agg (cl c),.agg (cl d)] [pr (Hw a b c d)]:=by
 have na:=Ep ha (ca.mono Fj Fj);have nb:=Ep hb (cb.mono Fj Fj);have nc:=Ep hc (cc.mono Fj Fj);have nd:=Ep hd (cd.mono Fj Fj);have s1:=lC ca cb;have s2:=lC cc cd;have s3:=Qbl ca cb;have s4:=Qbl cc cd;have da:=ca.d;have db:=cb.d;have dc:=cc.d;have dd:=cd.d;obtain⟨t1,l1,b1⟩:=pE cc cd;obtain⟨t2,l2,b2⟩:=pE ca cb;have k1:=G8 (Me c d) ((a.d*b.d)*(a.d*b.d));have k2:=G8 (Me a b) ((c.d*d.d)*(c.d*d.d));have w1:=Nj (Fy a.d) (Fy b.d) Fj Fj;have w2:=Nj (Fy c.d) (Fy d.d) Fj Fj;have w3:=Nj (Fy (a.d*b.d)) (Fy (a.d*b.d)) Fj Fj;have w4:=Nj (Fy (c.d*d.d)) (Fy (c.d*d.d)) Fj Fj;have p1:=M6 (p:=Me c d) (c:=(a.d*b.d)*(a.d*b.d)) Fj (Fz b1 Fj) Fj;have p2:=M6 (p:=Me a b) (c:=(c.d*d.d)*(c.d*d.d)) Fj (Fz b2 Fj) Fj;have p3:=SD (p:=Gy (Me c d) ((a.d*b.d)*(a.d*b.d))) (q:=Gy (Me a b) ((c.d*d.d)*(c.d*d.d))) Fj Fj (Fz (Hi b1 s3) Fj) (Fz (Hi b2 s4) Fj);exact Uy func80 rfl [.k na,.k nb,.k w1,.k nc,.k nd,.k w2,.k (rB hc hd cc cd),.k w3,.k p1,.k (rB ha hb ca cb),.k w4,.k p2,.k p3] rfl
theorem UR{a b c d:Pt}(ha:Sc a.c)(hb:Sc b.c)(hc:Sc c.c)(hd:Sc d.c):U3 80 [.agg (cl a.c),.agg (cl b.c),.agg (cl c.c),.agg (cl d.c)] [pr (Hw a.c b.c c.c d.c)]:=Qdx ha.n hb.n hc.n hd.n ha.cb hb.cb hc.cb hd.cb
variable{t:Tm}
set_option maxHeartbeats 1000000 in
theorem Qp8{a b c d:Pt}(ha:Sc a.c)(hb:Sc b.c)(hc:Sc c.c)(hd:Sc d.c)(ht:Va t):U3 165 [.oi 5,.agg (ta t),.one (.row [Ge a,Ge b,Ge c,Ge d])] [.agg (Lt (B6 (Gm t) a b c d)),.oi 0]:=by
 have hp:=(XR ha hb hc hd).dp;have e:Lt (B6 (Gm t) a b c d)=[.int .i64 5,.int .i64 a.id,.int .i64 b.id,.int .i64 c.id,.int .i64 d.id,pl (Hw a.c b.c c.c d.c),.int .i64 (G7 (Gm t) (Hw a.c b.c c.c d.c))]:=by rw[B6]
 rw[e];have cg:=JH hp ht;have cf:=UR ha hb hc hd;generalize Hw a.c b.c c.c d.c=F at *;refine G5 func165 rfl ?_;refine Uv [.k Qeh,.f rfl] rfl ?_;refine U0 (S:=Nat) 3 (λL1 i=>(22,.v (.oi i))::L1) (λi=>[.blk 75 (ta t),.blk 168 zCt,.blk 168 [.int .i64 5,.int .i64 (if 1<=i then a.id else 0),.int .i64 (if 2<=i then b.id else 0),.int .i64 (if 3<=i then c.id else 0),.int .i64 (if 4<=i then d.id else 0),.nils,.int .i64 0]]) (λi=>4-i) (λi=>i<=4) 0 (Qg _) rfl rfl λi hi=>?_
 rcases(show i=0\/i=1\/i=2\/i=3\/i=4 by omega)with rfl|rfl|rfl|rfl|rfl
 ·refine Uv [.t rfl,.x (i:=0) (xs:=Ge a) rfl,.i 0] rfl ?_ Fw;exact rd 1 Fj Fj rfl
 ·refine Uv [.t rfl,.x (i:=1) (xs:=Ge b) rfl,.i 1] rfl ?_ Fw;exact rd 2 Fj Fj rfl
 ·refine Uv [.t rfl,.x (i:=2) (xs:=Ge c) rfl,.i 2] rfl ?_ Fw;exact rd 3 Fj Fj rfl
 ·refine Uv [.t rfl,.x (i:=3) (xs:=Ge d) rfl,.i 3] rfl ?_ Fw;exact rd 4 Fj Fj rfl
 ·exact Ux [.f rfl,.f rfl,.f rfl,.f rfl,.f rfl,.x (i:=0) (xs:=Ge a) rfl,.x (i:=1) (xs:=Ge b) rfl,.x (i:=2) (xs:=Ge c) rfl,.x (i:=3) (xs:=Ge d) rfl,.k cf,.k cg] rfl
theorem Qxb{s m:Pt×Pt}(h1:Sc s.1.c)(h2:Sc s.2.c)(h3:Sc m.1.c)(h4:Sc m.2.c)(ht:Va t):Ga prog 169 [.agg (Ge m.1),.agg (Ge m.2),.one (.ow 0 0),.one (.ow 1 0),.one (.ow 2 0)] [.blk 39 (Ge s.1),.blk 39 (Ge s.2),.blk 75 (ta t)] [] [.blk 39 (Ge (Mz (Gm t) s m).1),.blk 39 (Ge (Mz (Gm t) s m).2),.blk 75 (ta t)]:=by
 have cf:=UR h1 h2 h3 h4;have cg:=JH (XR h1 h2 h3 h4).dp ht;unfold Mz;refine G5 func169 rfl ?_;by_cases h:G7 (Gm t) (Hw s.1.c s.2.c m.1.c m.2.c)<0
 ·rw[if_pos h];exact Uz [] [0,1,2] [.k cf,.k cg,.t (decide_eq_true h)] rfl
 ·rw[if_neg h];exact Uz [] [0,1,2] [.k cf,.k cg,.f (decide_eq_false h)] rfl
theorem Qw7{s m:Pt×Pt}{L:List Ct}(h1:Sc s.1.c)(h2:Sc s.2.c)(h3:Sc m.1.c)(h4:Sc m.2.c)(ht:Va t)(hL:L.length<=1000000):Ga prog 170 [.agg (Ge m.1),.agg (Ge m.2),.one (.ow 0 0),.one (.ow 1 0),.one (.ow 2 0),.one (.ow 3 0)] [.blk 39 (Ge s.1),.blk 39 (Ge s.2),.blk 75 (ta t),.blk 91 [.orow 4 7 none],.row false 168 7 (Gg L)] [] [.blk 39 (Ge s.1),.blk 39 (Ge s.2),.blk 75 (ta t),.blk 91 [.orow 4 7 none],.row false 168 7 (Gg (if JP s m=true then L++[B6 (Gm t) s.1 s.2 m.1 m.2]else L))]:=by
 have cm:=Qp8 h1 h2 h3 h4 ht;have hq:∀y∈[Lt (B6 (Gm t) s.1 s.2 m.1 m.2)],y.length=7:=λy hy=>by rw[Ql.1 hy];rfl
 have hcl:=Mx L;have hsn:Gg (L++[B6 (Gm t) s.1 s.2 m.1 m.2])=Gg L++[Lt (B6 (Gm t) s.1 s.2 m.1 m.2)]:=by simp[Gg]
 refine G5 func170 rfl ?_;by_cases e1:m.1.id=s.1.id
 ·by_cases e2:m.2.id=s.2.id
  ·rw[if_neg (by simp[JP,e1,e2])];exact Uz [] [0,1,2,3,4] [.g 15 false (by simp[e1]),.f (by simp[e2])] rfl
  ·rw[if_pos (by simp[JP,e2]),hsn];exact Uz [] [0,1,2,3,4] [.g 15 false (by simp[e1]),.t (by simp[e2]),.k cm,.s (sz:=7) hq] rfl (by simp[Gd,hcl];omega)
 ·rw[if_pos (by simp[JP,e1]),hsn];exact Uz [] [0,1,2,3,4] [.g 15 true (by simp[e1]),.t rfl,.k cm,.s (sz:=7) hq] rfl (by simp[Gd,hcl];omega)
theorem BJ(M:List Pt):Rz 0 M=[]:=by cases M <;> rfl
def uS(M:List Pt)(x:Pt)(i j:Nat):List (Pt×Pt):=Rz i M++((M.drop (i+1)).take j).map (λy=>(x,y))
theorem mU(M:List Pt)(x:Pt)(i:Nat):uS M x i 0=Rz i M:=by rw[uS,Kd,Jq,Zw]
variable{M:List Pt}{x:Pt}
theorem mW{i j:Nat}{y:Pt}(hy:(M.drop (i+1))[j]? = some y):uS M x i (j+1)=uS M x i j++[(x,y)]:=by
 unfold uS;rw[Xb,hy,K6,J7,Za];rfl
theorem Qcm{i j:Nat}(hx:M[i]? = some x)(hj:(M.drop (i+1)).length<=j):uS M x i j=Rz (i+1) M:=by
 unfold uS;rw[Qo hj,Do M i x hx]
theorem Qs8{i j:Nat}(hx:M[i]? = some x):∀m∈uS M x i j,m.1∈M/\m.2∈M:=λm hm=>by
 rcases Qp.1 hm with h|h
 ·exact Se _ _ m h
 ·obtain⟨y,hy,rfl⟩:=Q8.1 h;exact⟨Qa hx,Qx (Qn hy)⟩
variable{l:List Pt}
theorem Qiv{s0:Pt×Pt}(hl:∀p∈l,Sc p.c)(hs:s0.1∈l/\s0.2∈l)(hn:l.length≤1000)(ht:Va t):Ga prog 168 [.one (pts l),.one (.ofn 169 [] [.ow 0 0,.ow 1 0,.ow 2 0])] [.blk 39 (Ge s0.1),.blk 39 (Ge s0.2),.blk 75 (ta t)] [] [.blk 39 (Ge (Ri (Gm t) s0 (G9 l)).1),.blk 39 (Ge (Ri (Gm t) s0 (G9 l)).2),.blk 75 (ta t)]:=by
 have hcl:=Ha l;have hsc:∀ps:List (Pt×Pt),(∀m∈ps,m.1∈l/\m.2∈l)->Sc (Ri (Gm t) s0 ps).1.c/\Sc (Ri (Gm t) s0 ps).2.c:=λps h=>by
  obtain⟨h1,h2⟩:=Ad (Gm t) ps s0 hs h;exact⟨hl _ h1,hl _ h2⟩
 show Ga prog 168 [.one (.row (Fx l)),.one (.ofn 169 [] [.ow 0 0,.ow 1 0,.ow 2 0])] _ _ _;refine G5 func168 rfl ?_;refine Uv [] rfl ?_;refine lp (S:=Nat) 3 (λL1 i=>(10,.v (.oi i))::L1) (λi=>[.blk 39 (Ge (Ri (Gm t) s0 (Rz i l)).1),.blk 39 (Ge (Ri (Gm t) s0 (Rz i l)).2),.blk 75 (ta t)]) (λi=>l.length-i) (λi=>i<=l.length) 0 (Qg _) rfl (λ_ _=>rfl) (by rw[BJ];rfl) λi hi=>?_
 by_cases hlt:i<l.length
 ·obtain⟨x,hx⟩:=gxE (l:=l) (i:=i) hlt;have ed1:(Fx l).drop (i+1)=Fx (l.drop (i+1)):=by simp[Fx,Vd]
  have hdl:=Ha (l.drop (i+1));have hdl2:(l.drop (i+1)).length<=1000:=by rw[Q9];omega
  rw[<-mU l x i];refine go tt [.t (by simp[hcl];omega),.x (Hf hx),.r 17 (eI (b:=((i+1:Nat):Int)) Fp),.i (i+1),.r 18 (HV ed1)] rfl (by simp[Gd,Ha,eq_true (p:=∀z,z∈Fx l->z.length=ti39.sz) (JZ l)];omega) ?_;refine U0 (S:=Nat) 4 (λL1 j=>(20,.v (.oi j))::L1) (λj=>[.blk 39 (Ge (Ri (Gm t) s0 (uS l x i j)).1),.blk 39 (Ge (Ri (Gm t) s0 (uS l x i j)).2),.blk 75 (ta t),.blk 39 (Ge x)]) (λj=>(l.drop (i+1)).length-j) (λj=>j<=(l.drop (i+1)).length) 0 (Qg _) rfl rfl λj hj=>?_
  by_cases hltj:j<(l.drop (i+1)).length
  ·obtain⟨y,hy⟩:=gxE (l:=(l.drop (i+1))) (i:=j) hltj;obtain⟨s1,s2⟩:=hsc (uS l x i j) (Qs8 hx);have cn:=Qxb (s:=Ri (Gm t) s0 (uS l x i j)) (m:=(x,y)) s1 s2 (hl x (Qa hx)) (hl y (Qx (Qa hy))) ht;rw[<-uQ,<-mW hy]at cn;refine go tt [.T,.x (Hf hy),.c [0,1,2] cn] rfl (by simp[Gd,-List.length_drop];omega) ?_;exact rd (j+1) Fj hltj rfl
  ·have e:=Qcm hx (Yq hltj);rw[e];refine go tt [.F] rfl (by simp[Gd,-List.length_drop];omega) ?_;exact rd (i+1) Fj hlt rfl
 ·obtain rfl:i=l.length:=Fj;exact Uz [] [0,1,2] [.f (by simp[hcl])] rfl
theorem Qiw{s:Pt×Pt}(hl:∀p∈l,Sc p.c)(hs:s.1∈l/\s.2∈l)(hn:l.length≤10)(ht:Va t):Ga prog 168 [.one (pts l),.one (.ofn 170 [] [.ow 0 0,.ow 1 0,.ow 2 0,.ow 3 0])] [.blk 39 (Ge s.1),.blk 39 (Ge s.2),.blk 75 (ta t),.blk 91 [.orow 4 7 none],.row false 168 7 []] [] [.blk 39 (Ge s.1),.blk 39 (Ge s.2),.blk 75 (ta t),.blk 91 [.orow 4 7 none],.row false 168 7 (Gg (Bw (Gm t) s (G9 l)))]:=by
 have hcl:=Ha l;have hpk:∀i,i<=l.length->(Rz i l).length<=100:=λi hi=>by
  have:=FG i l;have:i*l.length<=10*10:=Zg Fj hn;omega
 show Ga prog 168 [.one (.row (Fx l)),.one (.ofn 170 [] [.ow 0 0,.ow 1 0,.ow 2 0,.ow 3 0])] _ _ _;refine G5 func168 rfl ?_;refine Uv [] rfl ?_;refine lp (S:=Nat) 5 (λL1 i=>(10,.v (.oi i))::L1) (λi=>[.blk 39 (Ge s.1),.blk 39 (Ge s.2),.blk 75 (ta t),.blk 91 [.orow 4 7 none],.row false 168 7 (Gg (Bw (Gm t) s (Rz i l)))]) (λi=>l.length-i) (λi=>i<=l.length) 0 (Qg _) rfl (λ_ _=>rfl) (by rw[BJ];rfl) λi hi=>?_
 by_cases hlt:i<l.length
 ·obtain⟨x,hx⟩:=gxE (l:=l) (i:=i) hlt;have ed1:(Fx l).drop (i+1)=Fx (l.drop (i+1)):=by simp[Fx,Vd]
  have hdl:=Ha (l.drop (i+1));have hdl2:(l.drop (i+1)).length<=10:=by rw[Q9];omega
  rw[<-mU l x i];refine go tt [.t (by simp[hcl];omega),.x (Hf hx),.r 17 (eI (b:=((i+1:Nat):Int)) Fp),.i (i+1),.r 18 (HV ed1)] rfl (by simp[Gd,Ha,eq_true (p:=∀z,z∈Fx l->z.length=ti39.sz) (JZ l)];omega) ?_;refine U0 (S:=Nat) 6 (λL1 j=>(20,.v (.oi j))::L1) (λj=>[.blk 39 (Ge s.1),.blk 39 (Ge s.2),.blk 75 (ta t),.blk 91 [.orow 4 7 none],.row false 168 7 (Gg (Bw (Gm t) s (uS l x i j))),.blk 39 (Ge x)]) (λj=>(l.drop (i+1)).length-j) (λj=>j<=(l.drop (i+1)).length) 0 (Qg _) rfl rfl λj hj=>?_
  by_cases hltj:j<(l.drop (i+1)).length
  ·obtain⟨y,hy⟩:=gxE (l:=(l.drop (i+1))) (i:=j) hltj;have hdn:(Bw (Gm t) s (uS l x i j)).length<=1000000:=by
    refine Qc (xX _ _ _) ?_;unfold uS;rw[Qu,Ze,Qq];have:=hpk i hi;omega
   have cn:=Qw7 (s:=s) (m:=(x,y)) (L:=Bw (Gm t) s (uS l x i j)) (hl _ hs.1) (hl _ hs.2) (hl x (Qa hx)) (hl y (Qx (Qa hy))) ht hdn;have en1:(if JP s (x,y)=true then Bw (Gm t) s (uS l x i j)++[B6 (Gm t) s.1 s.2 x y]else Bw (Gm t) s (uS l x i j))=Bw (Gm t) s (uS l x i (j+1)):=by
    rw[mW hy];cases h:JP s (x,y)with
    |true=>rw[if_pos rfl,Qru h]
    |false=>rw[if_neg Fl,Qrt h]
   dsimp only at cn;rw[en1]at cn;refine go tt [.T,.x (Hf hy),.c [0,1,2,3,4] cn] rfl (by simp[Gd,-List.length_drop];omega) ?_;exact rd (j+1) Fj hltj rfl
  ·have e:=Qcm hx (Yq hltj);rw[e];refine go tt [.F] rfl (by simp[Gd,-List.length_drop];omega) ?_;exact rd (i+1) Fj hlt rfl
 ·obtain rfl:i=l.length:=Fj;exact Uz [] [0,1,2,3,4] [.f (by simp[hcl])] rfl
theorem zN{a:Tm}{c:Cr}{r1:Fc}(hl:∀p∈l,Sc p.c)(hn:l.length≤10)(ha:Va a):Ga prog 93 [.one (.ow 0 0),.agg (ta a)] [.blk 194 (Tc c (Fx l) r1)] [.one (.row (Gg (Lz (Gm a) l)))] [.blk 194 (Tc c (Fx l) (Fx (Oe (Gm a) l)))]:=by
 have hcl:=Ha l;refine G5 func93 rfl ?_;by_cases h2:l.length<2
 ·obtain⟨e1,e2⟩:=Qfu (Gm a) h2;rw[e1,e2];refine Uv [.k QX] rfl ?_;refine nlc 0 13 rfl rfl rfl ?_;have hml:(l.map Ge).length=l.length:=Ze _;exact Uz [] [0] [.T] rfl
 ·obtain⟨x,y,l',rfl⟩:=Qz4 h2;obtain⟨l,hle⟩:=nmE (x::y::l');have hx0:(Fx l)[0]? = some (Ge x):=by rw[hle];rfl
  have hy0:(Fx l)[1]? = some (Ge y):=by rw[hle];rfl
  have hxl:x∈l:=by rw[hle];simp
  have hyl:y∈l:=by rw[hle];simp
  have eB:Oe (Gm a) (x::y::l')=[(Ri (Gm a) (x,y) (G9 l)).1,(Ri (Gm a) (x,y) (G9 l)).2]:=by rw[hle];rfl
  have eC:Lz (Gm a) (x::y::l')=Bw (Gm a) (Ri (Gm a) (x,y) (G9 l)) (G9 l):=by rw[hle];rfl
  rw[eB,eC];rw[<-hle]at hl hn h2 hcl ⊢;have c1:=Qiv (t:=a) (s0:=(x,y)) hl ⟨hxl,hyl⟩ Fj ha;obtain⟨n1,n2⟩:=Ad (Gm a) (l:=l) (G9 l) (x,y) ⟨hxl,hyl⟩ (Se _ _);generalize Ri (Gm a) (x,y) (G9 l)=s at *;have c2:=Qiw (t:=a) (s:=s) hl ⟨n1,n2⟩ hn ha;have hml:(l.map Ge).length=l.length:=Ze _;exact Uz [5] [0] [.k QX,.F,.x hx0,.x hy0,.c [2,3,1] c1,.oc 8 0 168 7,.c [2,3,1,4,5] c2] rfl
theorem Qws{T:Nat}{t:Rat}{Bc:Tm->List Ct}{Br:Tm->Fc}{r0:Fc}(ht:Qs 1640000 t)(hB:BuildOk Bc)
 (hb:∀a c r1,Va a->CrOk c->Ga prog 93 [.one (.ow 0 0),.agg (ta a)] [.blk T (Tc c r0 r1)] [.one (.row (Gg (Bc a)))] [.blk T (Tc c r0 (Br a))])
 {K:Nat} {c c':Cr} {r1 r1':Fc} {n:Int} (hc:CrOk c) (hev:0<=c.ev/\c.ev+K<=1000000000000000000) (h:Gx c.now t<=0) (hg:SV Bc Br t K c r1 0=some (c',r1',n)) :
 Ga prog 365 [.one (.ow 0 0),.agg (rl t),.one (.ofn 93 [.ow 0 0] [])] [.blk T (Tc c r0 r1)] [.oi n,.oi 0] [.blk T (Tc c' r0 r1')]:=by
 have qt:Qb t:=ht.mono Fl;have c1:=Ec hc.n.tb qt;refine G5 func365 rfl ?_;refine Uv [.c [0] (XY hc.n),.k c1,.f (by simpa using h)] rfl ?_;refine U0 (S:=Nat×Cr×Fc×Int) 2 (λL1 s=>(8,.v (.oi s.2.2.2))::L1) (λs=>[.blk T (Tc s.2.1 r0 s.2.2.1),.blk 41 (rl t)]) (λs=>s.1) (λs=>CrOk s.2.1/\(0<=s.2.1.ev/\s.2.1.ev+s.1<=1000000000000000000)/\(0<=s.2.2.2/\s.2.2.2+s.1<=1000000000000000000)/\SV Bc Br t s.1 s.2.1 s.2.2.1 s.2.2.2=some (c',r1',n)) (K,c,r1,0) ⟨hc,hev,⟨Int.le_refl 0,Ft⟩,hg⟩ rfl rfl λ⟨k,x,r,m⟩ ⟨j1,j2,j3,j4⟩=>?_
 dsimp only at j1 j2 j3 j4 ⊢;cases k with
 |zero=>cases j4
 |
  succ k =>
  simp only[SV]at j4;obtain⟨ws,w1,j4⟩:=Qe.1 j4;obtain⟨o,o1,j4⟩:=Qe.1 j4;have cn:=CY (T:=T) (r0:=r0) (r1:=r) j1 w1 o1;have ca:=JI (Fy t.num) (Fy (t.den:Int)) (Qc ht.1 Fl) (Qc ht.2 Fl) (by rw[Po];exact ht.mono Fl);rw[Po]at ca;cases o with
  |
   none =>
   injection j4 with j4;injection j4 with e1 j4;injection j4 with e2 e3;subst e1;subst e2;subst e3;exact Uz [] [0] [.c [0] cn,.g 25 true rfl,.t rfl,.k ca] rfl
  |
   some a =>
   have ha:=OZ j1 w1 o1;dsimp only at j4;have cc:=Ec ha.tb qt;by_cases h0:0<Gx a t
   ·rw[if_pos h0]at j4;injection j4 with j4;injection j4 with e1 j4;injection j4 with e2 e3;subst e1;subst e2;subst e3;exact Uz [] [0] [.c [0] cn,.g 25 false rfl,.k cc,.t (by simpa using h0),.k ca] rfl
   ·rw[if_neg h0]at j4;obtain⟨w2,l1,j4⟩:=Qe.1 j4;have j1':=A5 j1 w1;have cl:=Mi (b:=a) (l:=[]) ha.tb (λt ht=>by cases ht) Fl rfl;have cb:=hb a { x with l:=ws } r ha j1';have cy:=GH (T:=T) (r0:=r0) (r1:=Br a) j1' ha (hB.p a ha) (hB.n a ha) l1;have hf:decide (0<Gx a t)=false:=by simpa using h0
    refine Uw [.c [0] cn,.g 25 false rfl,.k cc,.f hf,.k cl,.c [0] cb,.c [0] cy] rfl ?_;exact rd (k,⟨a,w2,x.ev+1⟩,Br a,m+1) Ft ⟨lay_ok _ j1' ha (hB.p a ha) (hB.n a ha) l1,Ft,Ft,j4⟩ rfl
end Orr
namespace Orr
open Go
def S9:U8->Nat
 | []=>0
 |x::l=>x+10000*S9 l
def Dg(l:U8):Prop:=∀x∈l,x<10000
def Ho(x:Nat):U8:=if h:x=0 then []else(x % 10000)::Ho (x / 10000)
termination_by x
decreasing_by omega
theorem Tn:Ho 0=[]:=by unfold Ho;simp
variable{x:Nat}
theorem KR(h:x≠0):Ho x=(x % 10000)::Ho (x / 10000):=by rw[Ho];simp[h]
theorem Tv(x:Nat):S9 (Ho x)=x:=by
 induction x using Nat.strongRecOn with
 |
  _ x ih =>
  rcases Q4 x with h|h
  ·subst h;rw[Tn];rfl
  ·rw[KR Fj];simp only[S9];rw[ih _ Fj];omega
theorem D9(x:Nat):Dg (Ho x):=by
 induction x using Nat.strongRecOn with
 |
  _ x ih =>
  rcases Q4 x with h|h
  ·subst h;rw[Tn];intro y hy;cases hy
  ·rw[KR Fj];intro y hy;rcases Qk.1 hy with rfl|hy
   ·omega
   ·exact ih _ Fj y hy
theorem CN:(Ho x).length=0↔x=0:=by
 constructor
 ·intro h;have h0:=Qi h;have:=Tv x;rw[h0]at this;exact this.symm
 ·rintro rfl;rw[Tn];rfl
theorem Ox(h:x≠0):(Ho (x / 10000)).length+1=(Ho x).length:=by rw[KR h];rfl
theorem Qer(h:x<1000000000000):(Ho x).length<=3:=by
 by_cases h0:x=0
 ·subst h0;rw[Tn];exact Qg _
 ·have h1:=Ox h0;by_cases h2:x / 10000=0
  ·rw[h2,Tn]at h1;simp at h1;omega
  ·have h3:=Ox h2;by_cases h4:x / 10000 / 10000=0
   ·rw[h4,Tn]at h3;simp at h3;omega
   ·have h5:=Ox h4;have h6:x / 10000 / 10000 / 10000=0:=Fj;rw[h6,Tn]at h5;simp at h5;omega
theorem Bm(x:Nat):(Ho x).length<=sz x:=by
 induction x using Nat.strongRecOn with
 |
  _ x ih =>
  by_cases h0:x=0
  ·subst h0;rw[Tn];exact Qg _
  ·have h1:=Ox h0;have h2:=ih (x / 10000) Fj;have h3:sz (x / 10000)+1<=sz x:=by
    have h4:x<2^sz x:=RY x;rcases hs:sz x with _|k
    ·rw[hs]at h4;simp at h4;omega
    ·rw[hs]at h4;have:sz (x / 10000)<=k:=Cu.2 (by rw[Zs]at h4;omega);omega
   omega
theorem My(a b:U8):S9 (a++b)=S9 a+10000^a.length*S9 b:=by
 induction a with
 |nil=>simp[S9]
 |
  cons x a ih =>
  simp only[Xf,S9,ih,Q5,Zs];rw[X1,<-Jh,Zr 10000 (10000^a.length)];omega
variable{l:U8}
theorem Pk{i:Nat}(h:l[i]? = some x):S9 (l.take (i+1))=S9 (l.take i)+10000^i*x:=by
 have hi:=(Qd.1 h).1;rw[show l.take (i+1)=l.take i++[x] by rw[Xb,h];rfl,My,Qq,Z8 Fj];simp[S9]
theorem AS:∀{l:U8},Dg l->S9 l<10000^l.length
 | [],_=>by simp[S9]
 |
  x::l,h=>by
  have h1:=h x (Qw ..);have h2:=AS (l:=l) λy hy=>h y (Qh _ hy)
  simp only[S9,Q5,Zs];omega
theorem AP:∀{l:U8},(∀x∈l,x=0)->S9 l=0
 | [],_=>rfl
 |
  x::l,h=>by
  have h1:=h x (Qw ..);have h2:=AP (l:=l) λy hy=>h y (Qh _ hy)
  simp[S9,h1,h2]
theorem Dg.take(h:Dg l)(k:Nat):Dg (l.take k):=λx hx=>h x (Qn hx)
theorem Dg.snoc(h:Dg l)(hx:x<10000):Dg (l++[x]):=by
 intro y hy;rcases Qp.1 hy with hy|hy
 ·exact h y hy
 ·rw[Ql.1 hy];exact hx
theorem Dg.nil:Dg []:=λx h=>by cases h
theorem dE:∀{l:U8},Dg l->(∀x,l[l.length-1]? = some x->x≠0)->l=Ho (S9 l)
 | [],_,_=>by rw[S9,Tn]
 |
  x::l,h,hl=>by
  have h1:=h x (Qw ..);have h2:l=Ho (S9 l):=dE (λy hy=>h y (Qh _ hy)) λy hy=>hl y (by
   rcases l with _|⟨z,t⟩
   ·simp at hy
   ·simpa using hy)
  have h3:x+10000*S9 l≠0:=by
   intro e;have hx:x=0:=Fj;have hd:S9 l=0:=Fj;rw[hd,Tn]at h2;subst h2;exact hl x rfl hx
  simp only[S9];rw[KR h3,show(x+10000*S9 l) % 10000=x by omega,show(x+10000*S9 l) / 10000=S9 l by omega,<-h2]
theorem tW{m:Nat}(hd:Dg l)(hm:m<=l.length)(h1:∀j x,m<=j->l[j]? = some x->x=0)(h2:0<m->∃y,l[m-1]? = some y/\y≠0):l.take m=Ho (S9 l):=by
 have e:S9 l=S9 (l.take m):=by
  conv=>lhs;rw[<-Zf m l,My]
  rw[AP (l:=l.drop m) λx hx=>?_]
  ·omega
  ·obtain⟨j,hj⟩:=Zk.1 hx;rw[Xq]at hj;exact h1 (m+j) x Fj hj
 rw[e];refine dE (hd.take m) λx hx=>?_
 have hl:(l.take m).length=m:=by rw[Qq];omega
 rw[hl]at hx;rcases Q4 m with h0|h0
 ·subst h0;simp at hx
 ·obtain⟨y,hy,hy0⟩:=h2 h0;rw[Jj Fj,hy]at hx;injection hx with hx;rw[<-hx];exact hy0
theorem xJ{o c i d m P V:Nat}(hP:P=10000^i)(h:o+c*P=V):o+P*((c+d*m) % 10000)+(c+d*m) / 10000*(P*10000)=V+P*d*m:=by
 have e:=Xt (c+d*m) 10000;generalize (c+d*m) / 10000=q at *;generalize (c+d*m) % 10000=r at *;have e2:P*(c+d*m)=P*(10000*q+r):=by rw[e]
 grind
theorem YV{y:Nat}(h:x<=y):(Ho x).length<=(Ho y).length:=by
 induction y using Nat.strongRecOn generalizing x with
 |
  _ y ih =>
  by_cases h0:x=0
  ·subst h0;rw[Tn];exact Qg _
  ·have h1:=Ox h0;have h2:=Ox (x:=y) Fj;have:=ih (y / 10000) Fj (x:=x / 10000) (Nat.div_le_div_right h);omega
theorem Qeq{n:Nat}(h:10000^n<=x):n+1<=(Ho x).length:=by
 have h1:=AS (D9 x);rw[Tv]at h1;have h2:n<(Ho x).length:=(Nat.pow_lt_pow_iff_right Fl).1 (Xe h h1);omega
theorem tV{y:Nat}(h:(Ho x).length<(Ho y).length):x<y:=by
 rcases Zc x y with h1|h1
 ·exact h1
 ·have:=YV h1;omega
theorem Qes{k y:Nat}(h:y<10000^k):(Ho y).length<=k:=by
 induction k generalizing y with
 |
  zero =>
  have:y=0:=by simpa using h
  subst this;rw[Tn];exact Qm _
 |
  succ k ih =>
  by_cases hy0:y=0
  ·subst hy0;rw[Tn];exact Qg _
  ·have h8:=Ox hy0;have:=ih (y:=y / 10000) (by rw[Zs]at h;omega);omega
theorem Qjs{o:U8}(h:Dg o)(hl:o.length<=(Ho (S9 o)).length):o=Ho (S9 o):=by
 refine dE h λx hx h0=>?_
 subst h0;have hne:0<o.length:=by
  rcases o with _|⟨a,o⟩
  ·simp at hx
  ·simp
 have h1:S9 o=S9 (o.take (o.length-1)):=by
  have:=Pk hx;rw[show o.length-1+1=o.length by omega,Q6]at this;omega
 have h2:=AS (h.take (o.length-1));rw[<-h1,Qq,Z8 Fj]at h2;have:=Qes h2;omega
theorem YU{j d:Nat}(h:l[j]? = some d):S9 (l.drop j)=d+10000*S9 (l.drop (j+1)):=by
 obtain⟨hj,he⟩:=Qd.1 h;rw[Zq hj,he];rfl
theorem PK{j y:Nat}(h:j<l.length):(l.set j y).drop j=y::l.drop (j+1):=by
 rw[Zq (by simpa using h)];simp only[List.getElem_set_self];rw[List.drop_set_of_lt Fj]
theorem Dg.set(h:Dg l){j y:Nat}(hy:y<10000):Dg (l.set j y):=by
 intro x hx;rcases J9 hx with hx|rfl
 ·exact h x hx
 ·exact hy
theorem Dg.zeros(n:Nat):Dg (List.replicate n 0):=by
 intro x hx;rw[Z0 hx];decide
theorem tG{V kd d:Nat}(hk:0<kd):(d+10000*V) / kd=(V % kd*10000+d) / kd+10000*(V / kd)/\(d+10000*V) % kd=(V % kd*10000+d) % kd/\(d<10000->(V % kd*10000+d) / kd<10000):=by
 have e:=Xt V kd;have e2:d+10000*V=(V % kd*10000+d)+kd*(10000*(V / kd)):=by
  conv=>lhs;rw[<-e]
  grind
 refine⟨?_,?_,λhd=>?_⟩
 ·rw[e2,Ww _ _ hk]
 ·rw[e2,Kt]
 ·have:=Xi V hk;exact(Ke hk).2 Fq
theorem CB(l:U8)(j:Nat)(h:j<=l.length):S9 l=S9 (l.take j)+10000^j*S9 (l.drop j):=by
 conv=>lhs;rw[<-Zf j l,My]
 rw[Qq,Z8 h]
theorem AY{a b:U8}{j d e:Nat}(ha:Dg a)(hd:a[j]? = some d)(he:b[j]? = some e)(hs:a.drop (j+1)=b.drop (j+1))(h:d<e):S9 a<S9 b:=by
 have h1:=(Qd.1 hd).1;have h2:=(Qd.1 he).1;rw[CB a j Fj,CB b j Fj,YU hd,YU he,hs];have h3:=AS (ha.take j);rw[Qq,Z8 Fj]at h3;generalize 10000^j=P at *;have h4:P*(d+10000*S9 (b.drop (j+1)))+P<=P*(e+10000*S9 (b.drop (j+1))):=by
  rw[<-Uk];exact Zv _ Fj
 omega
def dl(l:U8):LV:=.row (l.map λ(x:Nat)=>[.int .i64 (x:Int)])
theorem Pn(l:U8):(l.map λ(x:Nat)=>[LV.int .i64 (x:Int)]).length=l.length:=Fp
theorem Re{i:Nat}(h:l[i]? = some x):(l.map λ(x:Nat)=>[LV.int .i64 (x:Int)])[i]? = some [.int .i64 (x:Int)]:=by rw[Zb,h];rfl
abbrev nd(x:Nat):LV:=dl (Ho x)
end Orr
namespace Orr
open Go Go.Proofs Tryz
set_option maxRecDepth 10000
abbrev Dm(l:U8):Fc:=l.map λ(x:Nat)=>[.int .i64 (x:Int)]
theorem Qxy(l:U8):∀c∈Dm l,c.length=1:=λc hc=>by obtain⟨x,_,rfl⟩:=Q8.1 hc;rfl
theorem SI{l:U8}(hd:Dg l):U3 176 [.one (.row (Dm l))] [.one (nd (S9 l))]:=by
 refine G5 func176 rfl (ln 0 rfl rfl λhl=>?_);rw[Ze]at hl;refine Uv [] rfl ?_;refine lp (S:=Nat) 0 (λL1 n=>(3,.v (.oi n))::L1) (λ_=>[]) id (λn=>n<=l.length/\∀j x,n<=j->l[j]? = some x->x=0) (Dm l).length ⟨Fp,λj x h1 h2=>by
  have:=(Qd.1 h2).1;simp at h1;omega⟩ rfl (λ_ _=>rfl) rfl λn ⟨h1,h2⟩=>?_
 cases n with
 |zero=>exact Ux [.g 8 false Fp,.f rfl,.i 0] rfl (by have:=tW hd h1 h2 (λh=>Fj);unfold nd;rw[<-this];simp[dl]) Fw
 |
  succ n =>
  obtain⟨x,hx⟩:=gxE (l:=l) (i:=n) Fj;by_cases h0:x=0
  ·refine Uw [.g 8 true Fp,.r 11 (v:=.oi n) Fp,.x (Re hx),.t (by simp[h0]),.r 17 (v:=.oi n) Fp] rfl ?_;exact rd n Fp ⟨Fj,λj y h3 h4=>by
    rcases V3 h3 with rfl|h3
    ·rw[hx]at h4;injection h4 with h4;rw[<-h4,h0]
    ·exact h2 j y h3 h4⟩ rfl
  ·exact Ux [.g 8 true Fp,.r 11 (v:=.oi n) Fp,.x (Re hx),.f (by simp[h0]),.i (n+1)] rfl (by have:=tW hd h1 h2 (λ_=>⟨x,hx,h0⟩);unfold nd;rw[<-this];simp[dl,List.map_take]) Fv
variable{x:Nat}
theorem Qak{kd:Nat}(hxs:sz x<=100000000)(hk:0<kd/\kd<=65536):U3 175 [.one (nd x),.oi kd] [.one (nd (x / kd)),.oi ((x % kd:Nat):Int)]:=by
 have hln:=Qc (Bm x) hxs;obtain⟨l,hl⟩:=nmE (Ho x);have hx:S9 l=x:=by rw[hl,Tv]
 have hd:Dg l:=by rw[hl];exact D9 x
 show U3 175 [.one (.row (Dm (Ho x))),.oi kd] _;rw[<-hl]at hln ⊢;rw[<-hx];have hll:=Pn l;refine G5 func175 rfl ?_;refine Uw [.i (Dm l).length,.i (Dm l).length] rfl ?_;rw[hll,show List.replicate l.length [LV.int .i64 0]=Dm (List.replicate l.length 0) from by simp[Dm]];refine U0 (S:=Nat×U8×Nat) 1 (λL1 s=>(8,.v (.oi ((s.1:Int)-1)))::(7,.v (.oi (s.2.2:Int)))::L1) (λs=>[.row false 3 1 (Dm s.2.1)]) (λs=>s.1) (λs=>s.1<=l.length/\s.2.1.length=l.length/\Dg s.2.1/\S9 (s.2.1.drop s.1)=S9 (l.drop s.1) / kd/\s.2.2=S9 (l.drop s.1) % kd) (l.length,List.replicate l.length 0,0) ⟨Qm _,Fp,Dg.zeros _,by simp[S9],by simp[S9]⟩ rfl rfl λ⟨k,o,R⟩ ⟨j1,j2,j3,j4,hR⟩=>?_
 dsimp only at j1 j2 j3 j4 hR ⊢;cases k with
 |
  zero =>
  have cc:=SI j3;rw[X7,X7]at j4;rw[j4]at cc;exact Ux [.f Fp,.k cc] rfl (by rw[hR,X7]) trivial
 |
  succ k =>
  obtain⟨d,hdk⟩:=gxE (l:=l) (i:=k) Fj;have hd0:=hd d (Qa hdk);have hdd:=YU hdk;obtain⟨s1,s2,s3⟩:=tG (V:=S9 (l.drop (k+1))) (kd:=kd) (d:=d) hk.1;rw[<-hdd]at s1 s2;have hr:=Xi (S9 (l.drop (k+1))) hk.1;rw[<-hR]at s1 s2 s3 hr;have e:((k+1:Nat):Int)-1=(k:Int):=Fj;have htd:((R:Int)*10000+(d:Int)).tdiv (kd:Int)=(((R*10000+d) / kd:Nat):Int):=rfl;have hle:=Ya (R*10000+d) kd;have htb:0<=((R:Int)*10000+(d:Int)).tdiv (kd:Int)/\((R:Int)*10000+(d:Int)).tdiv (kd:Int)<=655369999:=by
   rw[htd];revert hle;generalize (R*10000+d) / kd=Q;intro hle;omega
  rw[e];refine Uw [.t Fp,.x (Re hdk),.r 26 (eI (b:=((R*10000+d:Nat):Int)) Fj),.r 31 (eI (b:=(((R*10000+d) / kd:Nat):Int)) (by rfl)),.i k,.r 35 (eI (b:=(((R*10000+d) % kd:Nat):Int)) (by rfl))] rfl ?_;exact rd (k,o.set k ((R*10000+d) / kd),(R*10000+d) % kd) Ft ⟨Ft,by simp[j2],j3.set (s3 hd0),by dsimp only;rw[PK Fj];simp only[S9];rw[j4,s1],by dsimp only;exact s2.symm⟩ (by simp[Dm,List.map_set];rfl)
theorem Qzz(x k:Nat):sz (x / k)<=sz x:=Tx (Ya _ _)
theorem lI{y:Nat}{o:U8}(h:He x=o++He y)(h0:y≠0):He x=(o++[y % 4294967296])++He (y / 4294967296):=by
 rw[h,Ij h0];simp
theorem Qse(o:U8)(z:Nat):lm (o++[z])=lm o++[[.int .u32 (z:Int)]]:=by simp[lm]
theorem Q1c(hx:sz x<=100000000):U3 100 [.one (nd x)] [lr (He x)]:=by
 have hlx:=Sy hx;refine G5 func100 rfl ?_;refine Uv [.o 3 125 1] rfl ?_;refine U0 (S:=Nat×U8) 1 (λL1 s=>(0,.v (.one (nd s.1)))::(3,.v (.one (.orow 0 1 none)))::L1) (λs=>[.row false 125 1 (lm s.2)]) (λs=>s.1) (λs=>He x=s.2++He s.1/\s.1<=x) (x,[]) ⟨rfl,Qm _⟩ rfl rfl λ⟨y,o⟩ ⟨j1,j2⟩=>?_
 dsimp only at j1 j2 ⊢;by_cases h0:y=0
 ·subst h0;rw[Rr,Zw]at j1;rw[j1];exact Ux [.f (by simp[Tn])] rfl
 ·have hs:=lI j1 h0;have hsy:sz y<=100000000:=Qc (Tx j2) hx;have c1:=Qak (x:=y) (kd:=65536) hsy Fl;have c2:=Qak (x:=y / 65536) (kd:=65536) (Qc (Qzz _ _) hsy) Fl;have hl:(Ho y).length≠0:=λh=>h0 (CN.1 h)
  have ol:o.length<=(He x).length:=by rw[j1];simp
  have e:y / 65536 % 65536*65536+y % 65536=y % 4294967296:=Fj;have e2:y / 65536 / 65536=y / 4294967296:=Fj;refine go tt [.t Fo,.k c1,.k c2,.r 26 (A0 (b:=((y % 4294967296:Nat):Int)) Fj),.s (sz:=1) (l:=[[.int .u32 ((y % 4294967296:Nat):Int)]]) (λc hc=>by rw[Ql.1 hc];rfl)] rfl (by simp[Gd,Gb];omega) ?_;rw[<-e2]at hs;exact rd (y / 65536 / 65536,o++[y % 4294967296]) Ft ⟨hs,Ft⟩ (by rw[Qse];rfl)
abbrev ri(z:Int):Fb:=[nd z.natAbs,sg z]
theorem Q2e(b:Bool)(m:Nat):[nd m,LV.bool (b && decide (0<m))]=ri (Gi b m):=by
 simp only[ri,sg,So,OX]
theorem Qy3(x:Nat):(0<(Ho x).length)↔0<x:=by
 have:=CN (x:=x);omega
theorem Cw(b:Bool)(m:Nat):U3 105 [.one (nd m),.one (.bool b)] [.agg (ri (Gi b m))]:=by
 rw[<-Q2e];have e:=Qy3 m;cases b with
 |false=>exact Uy func105 rfl [.g 7 false rfl] rfl
 |true=>exact Uy func105 rfl [.g 7 true rfl] rfl (by simp[e]) trivial
variable{z:Int}
theorem Eo:U3 101 [.agg (ri z)] [.one (.bool (decide (z=0)))] :=
 Uy func101 rfl [] rfl (by have h:=CN (x:=z.natAbs);simp only[Pn];congr 3;rw[decide_eq_decide];omega) trivial
theorem XK:U3 102 [.agg (ri z)] [.agg (ri (-z))]:=by
 have h:=Cw (!decide (z<0)) z.natAbs;have e:Gi (!decide (z<0)) z.natAbs=-z:=by unfold Gi;by_cases h:z<0 <;> simp[h] <;> omega
 rw[e]at h;exact Uy func102 rfl [.k h] rfl
theorem Qqp(hz:Gl z<=100000000):U3 48 [.agg (ri z)] [.agg (Rj z)] :=
 Uy func48 rfl [.k (Q1c hz)] rfl
theorem eBo{a b:Bool}(h:a=b):TV.one (LV.bool a)=.one (.bool b):=h ▸ rfl
theorem Oz(l:U8)(x:Nat):Dm (l++[x])=Dm l++[[.int .i64 (x:Int)]]:=by simp[Dm]
theorem tK{y:Nat}{o:U8}(h:Ho x=o++Ho y)(h0:y≠0):Ho x=(o++[y % 10000])++Ho (y / 10000):=by
 rw[h,KR h0];simp
theorem Qw8{b:Bool}(hx:x<=4000000000000000000)(hb:b=true->0<x):U3 54 [.oi (Gi b x)] [.agg (ri (Gi b x))]:=by
 have hl:(Ho x).length<=100:=by
  have:=Bm x;have h2:sz x<=64:=Cu.2 Fj;omega
 have hm:=Cw b x;refine G5 func54 rfl ?_;cases b with
 |
  false =>
  show AK prog _ _ _ (WI 0 [.oi x]) [];refine Uv [.f (by simp <;> omega),.r 3 (eBo (b:=false) Fp),.f rfl,.o 4 3 1] rfl ?_;refine U0 (S:=Nat×U8) 2 (λL1 s=>(0,.v (.oi (s.1:Int)))::(4,.v (.one (.orow 1 1 none)))::L1) (λs=>[.blk 57 [.nils,.bool false],.row false 3 1 (Dm s.2)]) (λs=>s.1) (λs=>Ho x=s.2++Ho s.1/\s.1<=x) (x,[]) ⟨rfl,Qm _⟩ rfl rfl λ⟨y,o⟩ ⟨j1,j2⟩=>?_
  dsimp only at j1 j2 ⊢;by_cases h0:y=0
  ·subst h0;rw[Tn,Zw]at j1;rw[<-j1];exact Ux [.f Fp,.k hm] rfl
  ·have hs:=tK j1 h0;have ol:o.length<=(Ho x).length:=by rw[j1];simp
   refine go tt [.t Fo,.r 18 (eI (b:=((y % 10000:Nat):Int)) (by rfl)),.s (sz:=1) (l:=[[.int .i64 ((y % 10000:Nat):Int)]]) (λc hc=>by rw[Ql.1 hc];rfl),.r 22 (eI (b:=((y / 10000:Nat):Int)) (by rfl))] rfl (by simp[Gd,Pn];omega) ?_;exact rd (y / 10000,o++[y % 10000]) Ft ⟨hs,Ft⟩ (by rw[Oz];rfl)
 |
  true =>
  show AK prog _ _ _ (WI 0 [.oi (-(x:Int))]) [];refine Uw [.f (by simp <;> omega),.r 3 (eBo (b:=true) (by simpa using hb rfl)),.t rfl,.r 0 (eI (b:=(x:Int)) Fj),.o 4 3 1] rfl ?_;refine U0 (S:=Nat×U8) 2 (λL1 s=>(0,.v (.oi (s.1:Int)))::(4,.v (.one (.orow 1 1 none)))::L1) (λs=>[.blk 57 [.nils,.bool false],.row false 3 1 (Dm s.2)]) (λs=>s.1) (λs=>Ho x=s.2++Ho s.1/\s.1<=x) (x,[]) ⟨rfl,Qm _⟩ rfl rfl λ⟨y,o⟩ ⟨j1,j2⟩=>?_
  dsimp only at j1 j2 ⊢;by_cases h0:y=0
  ·subst h0;rw[Tn,Zw]at j1;rw[<-j1];exact Ux [.f Fp,.k hm] rfl
  ·have hs:=tK j1 h0;have ol:o.length<=(Ho x).length:=by rw[j1];simp
   refine go tt [.t Fo,.r 18 (eI (b:=((y % 10000:Nat):Int)) (by rfl)),.s (sz:=1) (l:=[[.int .i64 ((y % 10000:Nat):Int)]]) (λc hc=>by rw[Ql.1 hc];rfl),.r 22 (eI (b:=((y / 10000:Nat):Int)) (by rfl))] rfl (by simp[Gd,Pn];omega) ?_;exact rd (y / 10000,o++[y % 10000]) Ft ⟨hs,Ft⟩ (by rw[Oz];rfl)
theorem JO{n:Int}(hn:-4000000000000000000<=n/\n<=4000000000000000000):U3 54 [.oi n] [.agg (ri n)]:=by
 have e:Gi (decide (n<0)) n.natAbs=n:=by unfold Gi;by_cases h:n<0 <;> simp[h] <;> omega
 have h:=Qw8 (b:=decide (n<0)) (x:=n.natAbs) Fj (λh=>by have:=of_decide_eq_true h;omega);rwa[e]at h
abbrev fr(q:Rat):Fb:=ri q.num++ri (q.den:Int)
theorem Oy:Ho 1=[1]:=by rw[KR Fl];rw[Tn]
variable{n:Int}
theorem Iv:U3 49 [.agg (ri n),.agg (ri 1)] [.agg (fr (n:Rat))]:=by
 have h0:(Dm (Ho (1:Int).natAbs))[0]? = some [LV.int .i64 1]:=by rw[show(1:Int).natAbs=1 from rfl,Oy];rfl
 have h1:decide (((Dm (Ho (1:Int).natAbs)).length:Int)=1)=true:=by rw[show(1:Int).natAbs=1 from rfl,Oy];rfl
 exact Uy func49 rfl [.k (Eo (z:=1)),.f rfl,.f rfl,.g 19 true h1,.x h0,.t rfl] rfl
theorem SC(hn:-4000000000000000000<=n/\n<=4000000000000000000):U3 17 [.oi n,.oi 1] [.agg (fr (n:Rat))] :=
 Uy func17 rfl [.k (JO hn),.k (JO (n:=1) Fl),.k Iv] rfl
theorem rS{q:Rat}(hq:Qs 100000000 q):U3 13 [.agg (fr q)] [.agg (rl q)] :=
 Uy func13 rfl [.k (Qqp hq.1),.k (Qqp hq.2)] rfl
end Orr
namespace Orr
open Go Go.Proofs Tryz Orq
set_option maxRecDepth 10000
theorem QP{a:Tm}(ha:Va a):GE a a=some 0:=by
 obtain⟨c,c1,c2⟩:=GA ha ha;rcases c2 with⟨_,h⟩|⟨e,_⟩|⟨_,h⟩
 ·exact absurd h λh=>QU ha.cut ha.cut h h
 ·rw[c1,e]
 ·exact absurd h λh=>QU ha.cut ha.cut h h
variable{c:Cr}{l:List Pt}{r1:Fc}{ws:List Wt}
theorem vE{l':List Pt}(hc:CrOk c)(hl:∀p∈l',Sc p.c)(hn:l'.length≤1000)(h:Pd c.l c.now (Gu (UF l' c.now))=some ws):
 Ga prog 366 [.one (.ow 0 0),.agg [pts l'],.oi 0] [.blk 185 (Tc c (Fx l) r1)] [.oi 0] [.blk 185 (Tc ⟨c.now,ws,c.ev⟩ (Fx l') (cN l' c.now))]:=by
 have hB:=cQ hl hn;have cn:=XY (T:=185) (c:=c) (r0:=Fx l') (r1:=r1) hc.n;have cb:=zB (c:=c) (r1:=r1) hl hn hc.n;have cg:=KU (T:=185) (r0:=Fx l') (r1:=cN l' c.now) hc hc.n (QP hc.n) (Yv 0) (hB.p _ hc.n) (hB.n _ hc.n) h;refine G5 func366 rfl ?_;exact Uz [] [0] [.f rfl,.c [0] cn,.c [0] cb,.c [0] cg] rfl
theorem Qw3{s:List Pt}(hs:s.length<=1000000):Ga prog 64 [.one (.ow 0 0)] [.blk 185 (Tc c (Fx l) (Fx s))] [.one (ids (s.map (·.id)))] [.blk 185 (Tc c (Fx l) (Fx s))]:=by
 have hcl:=Ha s;refine G5 func64 rfl ?_;refine Uv [.o 3 3 1] rfl ?_;refine U0 (S:=Nat) 2 (λL1 i=>(11,.v (.oi i))::(3,.v (.one (.orow 1 1 none)))::L1) (λi=>[.blk 185 (Tc c (Fx l) (Fx s)),.row false 3 1 (((s.take i).map (·.id)).map λ(z:Int)=>[LV.int .i64 z])]) (λi=>s.length-i) (λi=>i<=s.length) 0 (Qg _) rfl rfl λi hi=>?_
 by_cases hlt:i<s.length
 ·obtain⟨p,hp⟩:=gxE (l:=s) (i:=i) hlt;have hg:(((s.take (i+1)).map (·.id)).map λ(z:Int)=>[LV.int .i64 z])=(((s.take i).map (·.id)).map λ(z:Int)=>[LV.int .i64 z])++[[.int .i64 p.id]]:=by
   rw[Xb,hp];simp
  refine Uw [.t (by simp[hcl];omega),.x (Hf hp),.s (sz:=1) (l:=[[.int .i64 p.id]]) (λc hc=>by rw[Ql.1 hc];rfl)] rfl ?_;exact rd (i+1) Fj hlt (by rw[hg];rfl)
 ·obtain rfl:i=s.length:=Fj;rw[Q6];exact Uz [1] [0] [.f (by simp[hcl])] rfl
theorem Qw4{lx ly:Fc}{px py:U6}{x y:LV}{d id:Int}(hx:IsInts lx px)(hy:IsInts ly py)(hd:Hh x y d)(hk:Cs 4294967294 1073741824 (Crv.mk px py d))(hll:l.length<=900)
 (he:FT l ⟨Crv.norm (Crv.mk px py d),id⟩=0) (hc:CrOk c) (hl:∀p∈put l ⟨Crv.norm (Crv.mk px py d),id⟩,Sc p.c) (hn:(put l ⟨Crv.norm (Crv.mk px py d),id⟩).length≤1000) (h:Pd c.l c.now (Gu (UF (put l ⟨Crv.norm (Crv.mk px py d),id⟩) c.now))=some ws) :
 Ga prog 362 [.one (.ow 0 0),.agg [.row lx,.row ly,x,y,.int .i64 id]] [.blk 185 (Tc c (Fx l) r1)] [.oi 0] [.blk 185 (Tc ⟨c.now,ws,c.ev⟩ (Fx (put l ⟨Crv.norm (Crv.mk px py d),id⟩)) (cN (put l ⟨Crv.norm (Crv.mk px py d),id⟩) c.now))]:=by
 have cp:=rR (l:=l) (id:=id) hx hy hd hk Fj;rw[if_pos he,he]at cp;have cw:=vE (l:=l) (r1:=r1) hc hl hn h;refine G5 func362 rfl ?_;obtain⟨b,l',rfl,rfl,_⟩:=hd;exact Uz [] [0] [.k cp,.c [0] cw] rfl
theorem Qw2{t:Rat}{K:Nat}{c':Cr}{r1':Fc}{n:Int}(ht:Qs 1640000 t)(hl:∀p∈l,Sc p.c)(hn:l.length≤1000)(hc:CrOk c)(hev:0≤c.ev/\c.ev+K≤1000000000000000000)(h:Gx c.now t≤0)(hg:SV (UF l) (cN l) t K c r1 0=some (c',r1',n)):
 Ga prog 359 [.one (.ow 0 0),.agg (rl t)] [.blk 185 (Tc c (Fx l) r1)] [.oi n,.oi 0] [.blk 185 (Tc c' (Fx l) r1')]:=by
 have cg:=Q04 (T:=185) (r0:=Fx l) ht (cQ hl hn) (λa c r1 ha _=>zB (c:=c) (r1:=r1) hl hn ha) hc hev h hg;refine G5 func359 rfl ?_;exact Uz [] [0] [.k (Cx (ht.mono Fl)),.c [0] cg] rfl
theorem Qh3{r0:Fc}:Ga prog 126 [.one (.ow 0 0)] [.blk 185 (Tc c r0 r1)] [.one (.ow 1 0)] [.blk 185 (Tc c r0 r1),.blk 185 (Tc c r0 r1)]:=by
 refine G5 func126 rfl ?_;exact Uz [] [0,1] [] rfl
abbrev idl(l:U6):Fc:=l.map λ(z:Int)=>[.int .i64 z]
def Pj(v n:Int):Int:=if n<1 then 0 else v.emod n
theorem Qgc{v n:Int}(h:0<n):(if v.tmod n<0 then v.tmod n+n else v.tmod n)=v % n:=by
 have h3:=Yx v (show n≠0 by omega);have h4:=Yd v h;have h1:=Int.tmod_eq_emod (a:=v) (b:=n);have hn:((n.natAbs:Nat):Int)=n:=Fj
 split at h1
 ·rw[h1];simp;omega
 ·rename_i hc;rw[h1,hn];have:v % n≠0:=λe=>hc (.inr (V0 e))
  rw[if_pos Fj];omega
theorem D6{v n:Int}(hv:-9223372036854775808<=v/\v<=9223372036854775807)(hn:n<=1000000000):U3 8 [.oi v,.oi n] [.oi (Pj v n)]:=by
 unfold Pj;by_cases h:n<1
 ·rw[if_pos h];exact Uy func8 rfl [.t (by simpa using h)] rfl
 ·rw[if_neg h];have e:=Qgc (v:=v) (n:=n) Fj;have h3:=Yx v (show n≠0 by omega);have h4:=Yd v (show 0<n by omega);show U3 8 [.oi v,.oi n] [.oi (v % n)];by_cases h0:v.tmod n<0
  ·rw[if_pos h0]at e;have b:-n<=v.tmod n:=Fj;exact Uy func8 rfl [.f (by simpa using h),.t (by simpa using h0)] rfl (by rw[e]) Fu
  ·rw[if_neg h0]at e;exact Uy func8 rfl [.f (by simpa using h),.f (by simpa using h0)] rfl (by rw[e]) Fu
end Orr
namespace Orr
open Go Go.Proofs Tryz Orq
end Orr
namespace Orr
open Go Go.Proofs Tryz Orq
set_option maxRecDepth 10000
def bU(l:List Pt)(a:Tm):List Ct:=Lz (Gm a) l
abbrev brP(l:List Pt)(a:Tm):Fc:=Fx (Oe (Gm a) l)
variable{l:List Pt}
theorem oY{a:Tm}:∀x∈bU l a,x.p∈qN l:=λx hx=>by
 match l,hx with
 |
  u::v::l',hx =>
  unfold bU at hx;simp only[Lz]at hx;obtain⟨h3,h4⟩:=Ad (Gm a) (l:=u::v::l') (G9 (u::v::l')) (u,v) ⟨Fp,Fp⟩ (Se _ _);obtain⟨m,hm,rfl⟩:=PW hx;obtain⟨h1,h2⟩:=Se _ _ m hm;rw[ID];exact LU h3 h4 h1 h2
theorem Qg4(hl:∀p∈l,Sc p.c)(hn:l.length≤10):BuildOk (bU l) :=
 ⟨λ_ _ x hx=>GK hl _ (oY x hx),λa _=>by
  have:=jA (Gm a) l;have:l.length*l.length<=10*10:=Zg hn hn;show(Lz (Gm a) l).length<=1000;omega⟩
def Q0x(l:List Pt)(a:Tm):Cr:=⟨a,(Gu (bU l a)).map fresh,0⟩
variable{c:Cr}
theorem Qqb{t:Rat}{K:Nat}{c':Cr}{r1 r1':Fc}{n:Int}(ht:Qs 1640000 t)(hl:∀p∈l,Sc p.c)(hn:l.length≤10)(hc:CrOk c)(hev:0≤c.ev/\c.ev+K≤1000000000000000000)(h:Gx c.now t≤0)(hg:SV (bU l) (brP l) t K c r1 0=some (c',r1',n)):
 Ga prog 397 [.one (.ow 0 0),.agg (rl t)] [.blk 194 (Tc c (Fx l) r1)] [.oi n,.oi 0] [.blk 194 (Tc c' (Fx l) r1')]:=by
 have cg:=Qws (T:=194) (r0:=Fx l) ht (Qg4 hl hn) (λa c r1 ha _=>zN (c:=c) (r1:=r1) hl hn ha) hc hev h hg;refine G5 func397 rfl ?_;exact Uz [] [0] [.k (Cx (ht.mono Fl)),.c [0] cg] rfl
variable{r0:Fc}
theorem oN{a b:Pt}:Ga prog 68 [.one (.ow 0 0)] [.blk 194 (Tc c r0 (Fx [a,b]))] [.oi a.id,.oi b.id,.one (.bool true)] [.blk 194 (Tc c r0 (Fx [a,b]))]:=by
 refine G5 func68 rfl ?_;exact Uz [] [0] [.f rfl,.x (l:=Fx [a,b]) (i:=0) (xs:=Ge a) rfl,.x (l:=Fx [a,b]) (i:=1) (xs:=Ge b) rfl] rfl
theorem rH:Ga prog 68 [.one (.ow 0 0)] [.blk 194 (Tc c r0 [])] [.oi 0,.oi 0,.one (.bool false)] [.blk 194 (Tc c r0 [])]:=by
 refine G5 func68 rfl ?_;exact Uz [] [0] [.t rfl] rfl
end Orr
namespace Orr
open Go
def HY(q:U6->Int)(a b:Pt):Pt×Pt:=if M5 q a b=true then(a,b)else(b,a)
def ZS(q:U6->Int):Nat->List Pt->List Pt×List (Pt×Pt)
 | 0,l=>(l,[])
 |
  k+1,l=>if l.length<2 then(l,[])else
  match (ZS q k (l.take ((l.length+1) / 2))).1,(ZS q k (l.drop ((l.length+1) / 2))).1 with
  |a::_,b::_=>([(HY q a b).1],(ZS q k (l.take ((l.length+1) / 2))).2++(ZS q k (l.drop ((l.length+1) / 2))).2++[HY q a b])
  |_,_=>([],[])
theorem Ei(q:U6->Int):∀(k:Nat) (l:List Pt),l.length<=k->ZS q k l=ZS q l.length l
 | 0,l,h=>by rw[show l.length=0 by omega]
 |
  k+1,l,h=>by
  cases hl:l.length with
  |zero=>simp[ZS,hl]
  |
   succ m =>
   simp only[ZS];by_cases h2:l.length<2
   ·rw[if_pos h2,if_pos h2]
   ·rw[if_neg h2,if_neg h2];have h3:(l.take ((l.length+1) / 2)).length<=m:=by rw[Qq];omega
    have h4:(l.drop ((l.length+1) / 2)).length<=m:=by rw[Q9];omega
    rw[Ei q k (l.take ((l.length+1) / 2)) Fj,Ei q k (l.drop ((l.length+1) / 2)) Fj,Ei q m (l.take ((l.length+1) / 2)) h3,Ei q m (l.drop ((l.length+1) / 2)) h4]
termination_by k=>k
def Ny(q:U6->Int)(l:List Pt):List Pt×List (Pt×Pt):=ZS q l.length l
variable{l:List Pt}
theorem Cn(q:U6->Int)(h:l.length<2):Ny q l=(l,[]):=by
 unfold Ny;cases hl:l.length with
 |zero=>rfl
 |succ m=>simp only[ZS];rw[if_pos h]
theorem Im(q:U6->Int)(h:¬l.length<2){a b:Pt}(ha:(Ny q (l.take ((l.length+1) / 2))).1=[a])(hb:(Ny q (l.drop ((l.length+1) / 2))).1=[b]):
 Ny q l=([(HY q a b).1],(Ny q (l.take ((l.length+1) / 2))).2++(Ny q (l.drop ((l.length+1) / 2))).2++[HY q a b]):=by
 unfold Ny at ha hb ⊢;obtain⟨m,hm⟩:∃m,l.length=m+1:=⟨l.length-1,Fj⟩;have h3:(l.take ((l.length+1) / 2)).length<=m:=by rw[Qq];omega
 have h4:(l.drop ((l.length+1) / 2)).length<=m:=by rw[Q9];omega
 rw[<-Ei q m _ h3]at ha ⊢;rw[<-Ei q m _ h4]at hb ⊢;rw[show ZS q l.length l=ZS q (m+1) l by rw[hm]];simp only[ZS];rw[if_neg h,ha,hb]
theorem Nz(q:U6->Int):∀(k:Nat) (l:List Pt),l.length≤k->0<l.length->∃a,(Ny q l).1=[a]/\a∈l/\∀m∈(Ny q l).2,m.1∈l/\m.2∈l
 | 0,l,h,h0=>Fj
 |
  k+1,l,h,h0=>by
  by_cases h2:l.length<2
  ·rw[Cn q h2]
   match l,h0,h2 with
   | [a],_,_=>exact⟨a,rfl,Fp,Fp⟩
  ·obtain⟨a,ha,hal,ham⟩:=Nz q k (l.take ((l.length+1) / 2)) (by rw[Qq];omega) (by rw[Qq];omega);obtain⟨b,hb,hbl,hbm⟩:=Nz q k (l.drop ((l.length+1) / 2)) (by rw[Q9];omega) (by rw[Q9];omega);rw[Im q h2 ha hb];have hd:(HY q a b).1∈l/\(HY q a b).2∈l:=by
    unfold HY;split
    ·exact⟨Qn hal,Qx hbl⟩
    ·exact⟨Qx hbl,Qn hal⟩
   refine⟨_,rfl,hd.1,λm hm=>?_⟩;rcases Qp.1 hm with hm|hm
   ·rcases Qp.1 hm with hm|hm
    ·exact⟨Qn (ham m hm).1,Qn (ham m hm).2⟩
    ·exact⟨Qx (hbm m hm).1,Qx (hbm m hm).2⟩
   ·rw[Ql.1 hm];exact hd
theorem Ej(q:U6->Int):∀(k:Nat) (l:List Pt),l.length<=k->(Ny q l).2.length<=l.length-1
 | 0,l,h=>by rw[Cn q Fj];simp
 |
  k+1,l,h=>by
  by_cases h2:l.length<2
  ·rw[Cn q h2];simp
  ·obtain⟨a,ha,_⟩:=Nz q l.length (l.take ((l.length+1) / 2)) (by rw[Qq];omega) (by rw[Qq];omega);obtain⟨b,hb,_⟩:=Nz q l.length (l.drop ((l.length+1) / 2)) (by rw[Q9];omega) (by rw[Q9];omega);rw[Im q h2 ha hb];have h3:=Ej q k (l.take ((l.length+1) / 2)) (by rw[Qq];omega);have h4:=Ej q k (l.drop ((l.length+1) / 2)) (by rw[Q9];omega);rw[Qq]at h3;rw[Q9]at h4;simp only[Qu,Kb];omega
abbrev Qfn(m:Pt×Pt):Fb:=[pl m.1.c.x,pl m.1.c.y,sg m.1.c.d,mg m.1.c.d,.int .i64 m.1.id,pl m.2.c.x,pl m.2.c.y,sg m.2.c.d,mg m.2.c.d,.int .i64 m.2.id]
end Orr
namespace Orq
open Orr Go
def FY(q:Rat)(x y:Pt):Prop:=py y q<py x q\/py y q=py x q/\(px y q<px x q\/px y q=px x q/\x.id<y.id)
theorem Qll(q:Rat)(x:Pt):¬FY q x x:=by unfold FY;grind
theorem Qbw(q:Rat)(x y z:Pt)(h:FY q x y)(h':FY q y z):FY q x z:=by unfold FY at *;grind
variable{q:Rat}
theorem sA{x y:Pt}(h:x.id≠y.id)(h':¬FY q x y):FY q y x:=by unfold FY at *;grind
variable{a:Tm}
theorem Qdn(ha:Va a){x y:Pt}(hx:Sc x.c)(hy:Sc y.c)(h1:G7 (Gm a) (Hq y.c x.c)=Gn (Gf (Hq y.c x.c) q))(h2:G7 (Gm a) (Hr y.c x.c)=Gn (Gf (Hr y.c x.c) q)):M5 (Gm a) x y=true↔FY q x y:=by
 rw[MB hy hx]at h1;rw[MC hy hx]at h2;have d1:=(B9 hy hx).dp;have d2:=(Ca hy hx).dp;unfold M5;simp only[Ap];have t1:=G6 (py x q-py y q);have t2:=G6 (px x q-px y q);by_cases e1:(Hq y.c x.c).length=0
 ·rw[if_neg Fj];rw[Qi e1,YR]at h1;have:py x q=py y q:=Fq;by_cases e2:(Hr y.c x.c).length=0
  ·rw[if_neg Fj];rw[Qi e2,YR]at h2;unfold FY;simp only[decide_eq_true_eq];grind
  ·rw[if_pos Fj];have:=(A3 ha d2 e2).2;unfold FY;simp only[decide_eq_true_eq];grind
 ·rw[if_pos Fj];have:=(A3 ha d1 e1).2;unfold FY;simp only[decide_eq_true_eq];grind
variable{l:List Pt}
theorem LD(hl:∀p∈l,Sc p.c)(ha:Va a):∃y,Gx a y=-1/\∀q,Gx a q=-1->q≤y->∀u∈l,∀v∈l,(M5 (Gm a) u v=true↔FY q u v):=by
 obtain⟨y,y1,y2⟩:=YT ha (Is l) λp hp=>(XQ hl p hp).dp
 refine⟨y,y1,λq q1 q2 u hu v hv=>?_⟩;have h:=y2 q q1 q2;exact Qdn ha (hl u hu) (hl v hv) (h _ (Pz hv hu).2) (h _ (Pz hv hu).1)
theorem eY{b:Tm}{x y:Pt}(h:G7 (Gm b) (Oa x y)=G7 (Gm a) (Oa x y)):M5 (Gm b) x y=M5 (Gm a) x y:=by
 unfold Oa Ao at h;unfold M5;simp only[Ap];by_cases e1:0<(Hq y.c x.c).length
 ·rw[if_pos e1,if_pos e1];rw[if_pos e1]at h;rw[h]
 ·rw[if_neg e1,if_neg e1];rw[if_neg e1]at h;rw[h]
theorem lT{k:Nat}(h2:¬l.length<2)(hk:l.length<=k+1):(l.take ((l.length+1) / 2)).length<=k/\(l.drop ((l.length+1) / 2)).length<=k/\0<(l.take ((l.length+1) / 2)).length/\0<(l.drop ((l.length+1) / 2)).length:=by
 rw[Qq,Q9];omega
theorem MF{sa sb:U6->Int}:∀(k:Nat) (l:List Pt),l.length≤k->l.Pairwise (λx y=>x.id≠y.id)->(∀u∈l,∀v∈l,u.id≠v.id->M5 sa u v=false->M5 sa v u=true)->(∀u∈l,∀v∈l,M5 sb v u=true->M5 sb u v=false)->(∀m∈(Ny sa l).2,M5 sb m.1 m.2=M5 sa m.1 m.2)->Ny sb l=Ny sa l
 | 0,l,hk,_,_,_,_=>by rw[Cn _ Fj,Cn _ Fj]
 |
  k+1,l,hk,hd,h1,h2,hm=>by
  by_cases hs:l.length<2
  ·rw[Cn _ hs,Cn _ hs]
  ·obtain⟨k1,k2,k3,k4⟩:=lT hs hk;obtain⟨a,ha,hal,_⟩:=Nz sa k (l.take ((l.length+1) / 2)) k1 k3;obtain⟨b,hb,hbl,_⟩:=Nz sa k (l.drop ((l.length+1) / 2)) k2 k4;have Dz:=Im sa hs ha hb;rw[Dz]at hm;have hd':=hd;rw[<-Zf ((l.length+1) / 2) l]at hd';obtain⟨d1,d2,d3⟩:=Zp.1 hd';have i1:=MF k _ k1 d1 (λu hu v hv=>h1 u (Qn hu) v (Qn hv)) (λu hu v hv=>h2 u (Qn hu) v (Qn hv)) λm hm'=>hm m (by simp[hm'])
   have i2:=MF k _ k2 d2 (λu hu v hv=>h1 u (Qx hu) v (Qx hv)) (λu hu v hv=>h2 u (Qx hu) v (Qx hv)) λm hm'=>hm m (by simp[hm'])
   have hal':=Qn hal;have hbl':=Qx hbl;have e:HY sb a b=HY sa a b:=by
    have hmem:=hm (HY sa a b) Fp;unfold HY at hmem ⊢;by_cases h:M5 sa a b=true
    ·rw[if_pos h]at hmem ⊢;rw[if_pos (hmem.trans h)]
    ·rw[if_neg h]at hmem ⊢;have h:M5 sa a b=false:=by simpa using h
     have:=h2 a hal' b hbl' (hmem.trans (h1 a hal' b hbl' (d3 a hal b hbl) h));rw[if_neg (by simp[this])]
   rw[Dz,Im sb hs (by rw[i1];exact ha) (by rw[i2];exact hb),i1,i2,e]
theorem MU{sa:U6->Int}{R:Pt->Pt->Prop}(tr:∀x y z,R x y->R y z->R x z):∀(k:Nat) (l:List Pt),l.length≤k->0<l.length->l.Pairwise (λx y=>x.id≠y.id)->(∀u∈l,∀v∈l,u.id≠v.id->(M5 sa u v=true->R u v)/\(M5 sa u v=false->R v u))->∃a,(Ny sa l).1=[a]/\a∈l/\∀x∈l,x=a\/R a x
 | 0,l,hk,h0,_,_=>Fj
 |
  k+1,l,hk,h0,hd,h1=>by
  by_cases hs:l.length<2
  ·rw[Cn _ hs]
   match l,h0,hs with
   | [a],_,_=>exact⟨a,rfl,Fp,λx hx=>.inl (by simpa using hx)⟩
  ·obtain⟨k1,k2,k3,k4⟩:=lT hs hk;have hd':=hd;rw[<-Zf ((l.length+1) / 2) l]at hd';obtain⟨d1,d2,d3⟩:=Zp.1 hd';obtain⟨a,ha,hal,ha2⟩:=MU (sa:=sa) tr k _ k1 k3 d1 λu hu v hv=>h1 u (Qn hu) v (Qn hv)
   obtain⟨b,hb,hbl,hb2⟩:=MU (sa:=sa) tr k _ k2 k4 d2 λu hu v hv=>h1 u (Qx hu) v (Qx hv)
   have hal':=Qn hal;have hbl':=Qx hbl;rw[Im sa hs ha hb];have hsplit:∀x∈l,x∈l.take ((l.length+1) / 2)\/x∈l.drop ((l.length+1) / 2):=λx hx=>by
    rw[<-Qp,Zf];exact hx
   have hh:=h1 a hal' b hbl' (d3 a hal b hbl);by_cases h:M5 sa a b=true
   ·refine⟨a,by unfold HY;rw[if_pos h],hal',λx hx=>?_⟩;rcases hsplit x hx with hx|hx
    ·exact ha2 x hx
    ·rcases hb2 x hx with rfl|h3
     ·exact .inr (hh.1 h)
     ·exact .inr (tr _ _ _ (hh.1 h) h3)
   ·have hf:M5 sa a b=false:=by simpa using h
    refine⟨b,by unfold HY;rw[if_neg h],hbl',λx hx=>?_⟩;rcases hsplit x hx with hx|hx
    ·rcases ha2 x hx with rfl|h3
     ·exact .inr (hh.2 hf)
     ·exact .inr (tr _ _ _ (hh.2 hf) h3)
    ·exact hb2 x hx
end Orq
namespace Orr
open Orq Go
def zG(l:List Pt)(a:Tm):List Ct:=(Ny (Gm a) l).2.map λm=>Ev (Gm a) m.1 m.2
def cB(l:List Pt)(a:Tm):Fc×Fc:=((Ny (Gm a) l).1.map Ge,(Ny (Gm a) l).2.map Qfn)
variable{l:List Pt}
theorem VR{sg:U6->Int}:∀m∈(Ny sg l).2,m.1∈l/\m.2∈l:=λm hm=>by
 by_cases h:0<l.length
 ·obtain⟨_,_,_,h3⟩:=Nz sg l.length l (Qm _) h;exact h3 m hm
 ·rw[Cn _ Fj]at hm;cases hm
theorem Qwd(hl:∀p∈l,Sc p.c){a:Tm}:∀x∈zG l a,Cp x.p:=λx hx=>by
 obtain⟨m,hm,rfl⟩:=Q8.1 hx;obtain⟨h1,h2⟩:=VR m hm;exact KP (B9 (hl _ h2) (hl _ h1)) (Ca (hl _ h2) (hl _ h1))
theorem cZ(hl:∀p∈l,Sc p.c)(hn:l.length≤1000):BuildOk (zG l) :=
 ⟨λa _=>Qwd hl,λa _=>by
  unfold zG;rw[List.length_map];have:=Ej (Gm a) l.length l (Qm _);omega⟩
theorem Qps{a:Tm}:∀x∈zG l a,x.p∈Is l:=λx hx=>by
 obtain⟨m,hm,rfl⟩:=Q8.1 hx;obtain⟨h1,h2⟩:=VR m hm;show Oa m.1 m.2∈Is l;unfold Oa Ao;split
 ·exact(Pz h2 h1).2
 ·exact(Pz h2 h1).1
theorem Q2q(hl:∀p∈l,Sc p.c)(hn:l.length≤1000)(hd:l.Pairwise λx y=>x.id≠y.id):Stab (zG l) (cB l):=by
 refine⟨cZ hl hn,⟨Is l,XQ hl,λa _ x hx=>?_⟩,λa b ha hb h=>?_⟩
 ·obtain⟨m,hm,rfl⟩:=Q8.1 hx;obtain⟨h1,h2⟩:=VR m hm;show Oa m.1 m.2∈Is l;unfold Oa Ao;split
  ·exact(Pz h2 h1).2
  ·exact(Pz h2 h1).1
 ·obtain⟨y,y1,y2⟩:=LD hl ha;obtain⟨z,z1,z2⟩:=LD hl hb;have ga:=y2 y y1 Qr;have gb:=z2 z z1 Qr;have e:Ny (Gm b) l=Ny (Gm a) l:=MF l.length l (Qm _) hd (λu hu v hv hne hf=>(ga v hv u hu).2 (sA hne λh=>by
   rw[(ga u hu v hv).2 h]at hf;cases hf)) (λu hu v hv ht=>by
   cases hb':M5 (Gm b) u v
   ·rfl
   ·exact absurd (Qbw z u v u ((gb u hu v hv).1 hb') ((gb v hv u hu).1 ht)) (Qll z u)) λm hm=>eY (h (Ev (Gm a) m.1 m.2) (Q8.2 ⟨m,hm,rfl⟩))
  refine⟨?_,by unfold cB;rw[e]⟩;unfold zG;rw[e];refine Xx λm hm=>?_
  have:=h (Ev (Gm a) m.1 m.2) (Q8.2 ⟨m,hm,rfl⟩);unfold Ev;rw[show G7 (Gm b) (Oa m.1 m.2)=G7 (Gm a) (Oa m.1 m.2) from this]
end Orr
namespace Orq
open Orr Go
def JS(a:Crv):U7:=[Gy a.x a.d,Gy a.y a.d,Eh (Hg a.x a.x) (Hg a.y a.y),[a.d*a.d]]
def tX(a b c d:Crv):List U7:=[JS a,JS b,JS c,JS d]
def To(a b c d:Crv):U6:=Cj 4 (tX a b c d)
variable{s:Nat}
theorem RB{k:Crv}(hn:KX k)(hc:Cs s 3 k):(∀p∈JS k,Gk p/\Bd (s+s+3) p)/\∀(j:Nat) (p:U6),(JS k)[j]? = some p->p.length≤[2,2,4,0].getD j 0+1:=by
 have l1:=G8 k.x k.d;have l2:=G8 k.y k.d;have l3:=Pm k.x k.x;have l4:=Pm k.y k.y;have l5:=ZQ (Hg k.x k.x) (Hg k.y k.y);have kx:=hc.lx;have ky:=hc.ly;have bx:Bd (s+s+2) (Hg k.x k.x):=Mv hc.x hc.x Fj;have by_:Bd (s+s+2) (Hg k.y k.y):=Mv hc.y hc.y Fj;have hd:=hn.2.2.1;have hd0:k.d*k.d≠0:=λe=>by rcases Yy.1 e with e|e <;> omega
 have td:Gk [k.d*k.d]:=by unfold Gk;simp[trim,hd0]
 refine⟨λp hp=>?_,λj p hp=>?_⟩
 ·simp only[JS,Qk,Jk,or_false]at hp;rcases hp with rfl|rfl|rfl|rfl
  ·exact⟨Gw _ _,Fz (Hi hc.x hc.d) Fj⟩
  ·exact⟨Gw _ _,Fz (Hi hc.y hc.d) Fj⟩
  ·exact⟨Gw _ _,Fz (KV bx by_) Fj⟩
  ·refine⟨td,λz hz=>?_⟩;rw[Ql.1 hz];have:=Hb k.d k.d;have:=hc.d;omega
 ·match j,hp with
  | 0,hp=>injection hp with hp;subst hp;show _<=3;omega
  | 1,hp=>injection hp with hp;subst hp;show _<=3;omega
  | 2,hp=>injection hp with hp;subst hp;show _<=5;omega
  | 3,hp=>injection hp with hp;subst hp;exact Qm _
  |j+4,hp=>simp[JS]at hp
theorem nF{a b c d:Crv}(na:KX a)(nb:KX b)(nc:KX c)(nd:KX d)(ca:Cs s 3 a)(cb:Cs s 3 b)(cc:Cs s 3 c)(cd:Cs s 3 d):Sq (s+s+3) [2,2,4,0] 4 4 (tX a b c d):=by
 have hr:∀r∈tX a b c d,∃k:Crv,KX k/\Cs s 3 k/\r=JS k:=λr hr=>by
  simp only[tX,Qk,Jk,or_false]at hr;rcases hr with rfl|rfl|rfl|rfl
  ·exact⟨a,na,ca,rfl⟩
  ·exact⟨b,nb,cb,rfl⟩
  ·exact⟨c,nc,cc,rfl⟩
  ·exact⟨d,nd,cd,rfl⟩
 refine⟨rfl,λr h=>?_,λr h p hp=>?_,λr h p hp=>?_,λr h j p hp=>?_⟩
 all_goals obtain⟨k,kn,kc,rfl⟩:=hr r h
 ·rfl
 ·exact((RB kn kc).1 p hp).1
 ·exact((RB kn kc).1 p hp).2
 ·exact(RB kn kc).2 j p hp
theorem kR{a b c d:Crv}(ha:Sc a)(hb:Sc b)(hc:Sc c)(hd:Sc d):Cp (To a b c d):=by
 obtain⟨h1,h2,h3⟩:=DF 4 [2,2,4,0] (tX a b c d) Fl rfl Fl (nF ha.n hb.n hc.n hd.n ha.c hb.c hc.c hd.c);exact⟨h1,Qc h3 Fl,Fz h2 Fl⟩
def jP(sg:U6->Int)(a b c d:Pt):Ct:=⟨4,a.id,b.id,c.id,d.id,To a.c b.c c.c d.c,G7 sg (To a.c b.c c.c d.c)⟩
abbrev P3:=Pt×(Pt×Pt)
abbrev P4:=Pt×P3
def Ek:Nat->List Pt->List P3
 | 0,_=>[]
 |_+1,[]=>[]
 |k+1,x::l=>(G9 l).map (λm=>(x,m))++Ek k l
def H7(l:List Pt):List P3:=Ek l.length l
def Ia:Nat->List Pt->List P4
 | 0,_=>[]
 |_+1,[]=>[]
 |k+1,x::l=>(H7 l).map (λm=>(x,m))++Ia k l
def Av(l:List Pt):List P4:=Ia l.length l
theorem ZA:∀(l:List Pt) (i:Nat) (x:Pt),l[i]? = some x->Ek (i+1) l=Ek i l++(G9 (l.drop (i+1))).map (λm=>(x,m))
 | [],i,x,h=>by simp at h
 |y::l,0,x,h=>by simp at h;subst h;simp[Ek]
 |
  y::l,i+1,x,h=>by
  have ih:=ZA l i x (by simpa using h);show(G9 l).map _++Ek (i+1) l=((G9 l).map _++Ek i l)++_;rw[ih,Za];rfl
theorem MH:∀(l:List Pt) (i:Nat) (x:Pt),l[i]? = some x->Ia (i+1) l=Ia i l++(H7 (l.drop (i+1))).map (λm=>(x,m))
 | [],i,x,h=>by simp at h
 |y::l,0,x,h=>by simp at h;subst h;simp[Ia]
 |
  y::l,i+1,x,h=>by
  have ih:=MH l i x (by simpa using h);show(H7 l).map _++Ia (i+1) l=((H7 l).map _++Ia i l)++_;rw[ih,Za];rfl
theorem qG:∀(k:Nat) (l:List Pt),∀m∈Ek k l,m.1∈l/\m.2.1∈l/\m.2.2∈l
 | 0,l,m,h=>by simp[Ek]at h
 |k+1,[],m,h=>by simp[Ek]at h
 |
  k+1,x::l,m,h=>by
  rcases Qp.1 h with h|h
  ·obtain⟨y,hy,rfl⟩:=Q8.1 h;obtain⟨h1,h2⟩:=Se _ _ y hy;exact⟨Qw ..,Qh _ h1,Qh _ h2⟩
  ·obtain⟨h1,h2,h3⟩:=qG k l m h;exact⟨Qh _ h1,Qh _ h2,Qh _ h3⟩
theorem mP:∀(k:Nat) (l:List Pt),∀m∈Ia k l,m.1∈l/\m.2.1∈l/\m.2.2.1∈l/\m.2.2.2∈l
 | 0,l,m,h=>by simp[Ia]at h
 |k+1,[],m,h=>by simp[Ia]at h
 |
  k+1,x::l,m,h=>by
  rcases Qp.1 h with h|h
  ·obtain⟨y,hy,rfl⟩:=Q8.1 h;obtain⟨h1,h2,h3⟩:=qG _ _ y hy;exact⟨Qw ..,Qh _ h1,Qh _ h2,Qh _ h3⟩
  ·obtain⟨h1,h2,h3,h4⟩:=mP k l m h;exact⟨Qh _ h1,Qh _ h2,Qh _ h3,Qh _ h4⟩
variable{l:List Pt}
theorem JY(h:l.length<=6):(H7 l).length<=20/\(Av l).length<=15:=by
 match l,h with
 | [],_=>exact⟨Zi rfl,Zi rfl⟩
 | [_],_=>exact⟨Zi rfl,Zi rfl⟩
 | [_,_],_=>exact⟨Zi rfl,Zi rfl⟩
 | [_,_,_],_=>exact⟨Zi rfl,Zi rfl⟩
 | [_,_,_,_],_=>exact⟨Zi rfl,Zi rfl⟩
 | [_,_,_,_,_],_=>exact⟨Zi rfl,Zi rfl⟩
 | [_,_,_,_,_,_],_=>exact⟨Zi rfl,Zi rfl⟩
 |_::_::_::_::_::_::_::_,h=>simp at h
abbrev Ni:=List (U6×LV)
def BL(sg:U6->Int)(m:P3):Ct:=Ab sg m.1 m.2.1 m.2.2
def PQ(sg:U6->Int)(m:P4):Ct:=jP sg m.1 m.2.1 m.2.2.1 m.2.2.2
def Ls(m:P3):U6:=[m.1.id,m.2.1.id,m.2.2.id]
def Qlh(m:P4):U6:=[m.1.id,m.2.1.id,m.2.2.1.id,m.2.2.2.id]
def Al(V:List (U6×Int)):Ni:=V.foldl (λM e=>Cq M e.1 (.int .i64 e.2)) []
def Om(sg:U6->Int)(ps:List P3):List (U6×Int):=ps.map λm=>(Ls m,(BL sg m).want)
def JQ(sg:U6->Int)(ps:List P4):List (U6×Int):=ps.map λm=>(Qlh m,(PQ sg m).want)
theorem iP(sg:U6->Int)(ps:List P3)(m:P3):Al (Om sg (ps++[m]))=Cq (Al (Om sg ps)) (Ls m) (.int .i64 (BL sg m).want):=by simp[Al,Om]
def I2(T:Ni)(s:Int)(n:U6)(F:Ni)(skip:Nat):Ni:=if Db T (n.eraseIdx skip)*(if (3-skip) % 2=1 then -s else s)>0 then Cq F (n.eraseIdx skip) (.bool true)else F
def NT(T:Ni)(s:Int)(n:U6)(F:Ni):Ni:=I2 T s n (I2 T s n (I2 T s n (I2 T s n F 0) 1) 2) 3
def O3(T:Ni)(V:List (U6×Int)):Ni:=V.foldl (λF e=>NT T e.2 e.1 F) []
theorem lG(sg:U6->Int)(T:Ni)(ps:List P4)(m:P4):O3 T (JQ sg (ps++[m]))=NT T (PQ sg m).want (Qlh m) (O3 T (JQ sg ps)):=by simp[O3,JQ]
def IH(T F:Ni)(m:P3):Bool:=decide (Db T (Ls m)≠0) && !(Oo F (Ls m))
variable{ps:List P3}{m:P3}
theorem Qyb{T F:Ni}(h:IH T F m=true):(ps++[m]).filter (IH T F)=ps.filter (IH T F)++[m]:=by simp[Jf,h]
theorem Qkl{T F:Ni}(h:IH T F m=false):(ps++[m]).filter (IH T F)=ps.filter (IH T F):=by simp[Jf,h]
def pK(sg:U6->Int)(l:List Pt):List Ct:=(H7 (Gv l)).map (BL sg)++(Av (Gv l)).map (PQ sg)
def NA(sg:U6->Int)(l:List Pt):List P3:=(H7 (Gv l)).filter (IH (Al (Om sg (H7 (Gv l)))) (O3 (Al (Om sg (H7 (Gv l)))) (JQ sg (Av (Gv l)))))
abbrev trL(m:P3):Fb:=[.int .i64 m.1.id,.int .i64 m.2.1.id,.int .i64 m.2.2.id]
def VA(l:List P3):Fc:=l.map trL
theorem TE(l:List P3):(VA l).length=l.length:=by simp[VA]
theorem Qoc{l:List P3}{i:Nat}(h:l[i]? = some m):(VA l)[i]? = some (trL m):=Rm h
theorem Qfj(sg:U6->Int)(h:l.length<=6):(NA sg l).length<=20:=by
 have hw:=Bh l;exact Qc (X8 _ _) (JY (l:=Gv l) Fj).1
theorem Qfh(sg:U6->Int)(h:l.length<=6):(pK sg l).length<=35:=by
 have hw:=Bh l;obtain⟨h1,h2⟩:=JY (l:=Gv l) Fj;unfold pK;rw[Qu,Ze,Ze];omega
def gJ(l:List Pt)(a:Tm):List Ct:=pK (Gm a) l
abbrev cR(l:List Pt)(a:Tm):Fc:=VA (NA (Gm a) l)
def Qdj(l:List Pt):U7:=(H7 (Gv l)).map (λm=>Gj m.1.c m.2.1.c m.2.2.c)++(Av (Gv l)).map λm=>To m.1.c m.2.1.c m.2.2.1.c m.2.2.2.c
theorem vR(hl:∀p∈l,Sc p.c):∀p∈Qdj l,Cp p:=λp hp=>by
 have hw:=λ(x:Pt) (h:x∈Gv l)=>hl x (Hu h)
 rcases Qp.1 hp with hp|hp
 ·obtain⟨m,hm,rfl⟩:=Q8.1 hp;obtain⟨h1,h2,h3⟩:=qG _ _ m hm;exact QN (hw _ h1) (hw _ h2) (hw _ h3)
 ·obtain⟨m,hm,rfl⟩:=Q8.1 hp;obtain⟨h1,h2,h3,h4⟩:=mP _ _ m hm;exact kR (hw _ h1) (hw _ h2) (hw _ h3) (hw _ h4)
theorem vP{a:Tm}:∀x∈gJ l a,x.p∈Qdj l:=λx hx=>by
 rcases Qp.1 hx with hx|hx
 ·obtain⟨m,hm,rfl⟩:=Q8.1 hx;exact Zy _ (Q8.2 ⟨m,hm,rfl⟩)
 ·obtain⟨m,hm,rfl⟩:=Q8.1 hx;exact X9 _ (Q8.2 ⟨m,hm,rfl⟩)
theorem Qgv(h:l.length<=6):(Qdj l).length<=1000000:=by
 have hw:=Bh l;obtain⟨h1,h2⟩:=JY (l:=Gv l) Fj;unfold Qdj;rw[Qu,Ze,Ze];omega
theorem bI(hl:∀p∈l,Sc p.c)(hn:l.length≤6):BuildOk (gJ l) :=
 ⟨λ_ _ x hx=>vR hl _ (vP x hx),λa _=>Qc (Qfh _ hn) Fl⟩
theorem Q2m(hl:∀p∈l,Sc p.c)(hn:l.length≤6):Stab (gJ l) (cR l):=by
 refine⟨bI hl hn,⟨Qdj l,vR hl,λa _=>vP⟩,λa b _ _ h=>?_⟩;have e1:∀m∈H7 (Gv l),BL (Gm b) m=BL (Gm a) m:=λm hm=>by
  have:=h (BL (Gm a) m) (Zy _ (Q8.2 ⟨m,hm,rfl⟩));have e:G7 (Gm b) (Gj m.1.c m.2.1.c m.2.2.c)=G7 (Gm a) (Gj m.1.c m.2.1.c m.2.2.c):=this;unfold BL Ab;rw[e]
 have e2:∀m∈Av (Gv l),PQ (Gm b) m=PQ (Gm a) m:=λm hm=>by
  have:=h (PQ (Gm a) m) (X9 _ (Q8.2 ⟨m,hm,rfl⟩));have e:G7 (Gm b) (To m.1.c m.2.1.c m.2.2.1.c m.2.2.2.c)=G7 (Gm a) (To m.1.c m.2.1.c m.2.2.1.c m.2.2.2.c):=this;unfold PQ jP;rw[e]
 have t1:Om (Gm b) (H7 (Gv l))=Om (Gm a) (H7 (Gv l)):=Xx λm hm=>by rw[e1 m hm]
 have t2:JQ (Gm b) (Av (Gv l))=JQ (Gm a) (Av (Gv l)):=Xx λm hm=>by rw[e2 m hm]
 constructor
 ·unfold gJ pK;rw[Xx e1,Xx e2]
 ·unfold cR NA;rw[t1,t2]
def Q0v(l:List Pt)(a:Tm):Cr:=⟨a,(Gu (gJ l a)).map fresh,0⟩
def gR(M:Ni):Prop:=∀k,(I5 M k).getD (.int .i64 0)=.int .i64 (Db M k)/\-1<=Db M k/\Db M k<=1
def WA(M:Ni):Prop:=∀k,(I5 M k).getD (.bool false)=.bool (Oo M k)
theorem KC(M:Ni)(k:U6)(x:LV)(k':U6):I5 (Cq M k x) k'=if k'=k then some x else I5 M k':=by
 induction M with
 |nil=>simp[Cq,I5]
 |
  cons e M ih =>
  simp only[Cq];by_cases h:k=e.1
  ·rw[if_pos h];simp only[I5];by_cases h2:k'=k
   ·rw[if_pos h2,if_pos h2]
   ·rw[if_neg h2,if_neg h2,if_neg (λe2=>h2 (e2.trans h.symm))]
  ·rw[if_neg h];simp only[I5];by_cases h2:k'=e.1
   ·rw[if_pos h2,if_pos h2,if_neg (λe2=>h (e2.symm.trans h2))]
   ·rw[if_neg h2,if_neg h2,ih]
theorem Qlc:gR []:=λ_=>⟨rfl,show(-1:Int)<=0 by decide,show(0:Int)<=1 by decide⟩
theorem Qdo:WA []:=λ_=>rfl
theorem Qld{M:Ni}(h:gR M){k:U6}{n:Int}(hn:-1<=n/\n<=1):gR (Cq M k (.int .i64 n)):=by
 intro k';have h1:=h k';unfold Db at h1 ⊢;rw[KC];by_cases e:k'=k
 ·rw[if_pos e];exact⟨rfl,hn.1,hn.2⟩
 ·rw[if_neg e];exact h1
theorem Qdp{M:Ni}(h:WA M){k:U6}{b:Bool}:WA (Cq M k (.bool b)):=by
 intro k';have h1:=h k';unfold Oo at h1 ⊢;rw[KC];by_cases e:k'=k
 ·rw[if_pos e];rfl
 ·rw[if_neg e];exact h1
variable{s:Int}
theorem P0{T F:Ni}{n:U6}{k:Nat}(h:WA F):WA (I2 T s n F k):=by
 unfold I2;generalize (if (3-k) % 2=1 then -s else s)=s'
 split
 ·exact Qdp h
 ·exact h
theorem cU{T F:Ni}{n:U6}(h:WA F):WA (NT T s n F):=P0 (P0 (P0 (P0 h)))
theorem ZV{x:Int}(hx:-1<=x/\x<=1)(hs:-1<=s/\s<=1):-9223372036854775808<=x*s/\x*s<=9223372036854775807:=by
 have h:x=-1\/x=0\/x=1:=Fj;rcases h with rfl|rfl|rfl <;> omega
structure MOk(M:List Pt):Prop where
 sc:∀p∈M,Sc p.c
 ln:M.length<=6
 so:Ry M
theorem MOk.df{M:List Pt}(h:MOk M):M.Pairwise λx y=>x.id≠y.id:=h.so.imp λh e=>Fj
structure Knd(β:Type) where
 bc:List Pt->Tm->List Ct
 br:List Pt->Tm->β
 al:List Pt->List (List Int)
structure KndOk{β:Type}(k:Knd β):Prop where
 st:∀M,MOk M->Stab (k.bc M) (k.br M)
 cp:∀M,MOk M->∀p∈k.al M,Cp p
 al:∀M a,∀x∈k.bc M a,x.p∈k.al M
 ln:∀M,MOk M->(k.al M).length<=1000000
abbrev kS:Knd Fc:=⟨UF,cN,Is⟩
abbrev kT:Knd (Fc×Fc):=⟨zG,cB,Is⟩
abbrev kH:Knd Fc:=⟨qT,brH,λl=>Is l++LF l⟩
abbrev kP:Knd Fc:=⟨bU,brP,qN⟩
abbrev kD:Knd Fc:=⟨gJ,cR,Qdj⟩
theorem LG{l:List Pt}(h:l.length<=6):(Is l).length<=72:=by
 rw[Qgw];exact Qc (Zg h (Zg h (Qm 2))) Fl
theorem HT{α β:Type}{f:α->List β}{n:Nat}(l:List α)(h:∀x∈l,(f x).length=n):(l.flatMap f).length=l.length*n:=by
 induction l with
 |nil=>simp
 |
  cons x l ih =>
  rw[Yk,Qu,h x Fp,ih λy hy=>h y (Qh _ hy),Q5,Jn];omega
theorem Qpm(l:List Pt):(LF l).length=l.length*(l.length*l.length):=by
 unfold LF;exact HT l λx _=>HT l λy _=>Fp
theorem Qpk(l:List Pt):(qN l).length=l.length*(l.length*(l.length*l.length)):=by
 unfold qN;exact HT l λx _=>HT l λy _=>HT l λz _=>Fp
theorem okS:KndOk kS:=⟨λM h=>Q2p h.sc (by have:=h.ln;omega) h.df,λM h=>XQ h.sc,λM a=>oV,λM h=>Qc (LG h.ln) Fl⟩
theorem okT:KndOk kT:=⟨λM h=>Q2q h.sc (by have:=h.ln;omega) h.df,λM h=>XQ h.sc,λM a=>Qps,λM h=>Qc (LG h.ln) Fl⟩
theorem okH:KndOk kH:=⟨λM h=>Q2n h.sc (by have:=h.ln;omega) h.df,λM h=>CQ h.sc,λM a=>vM,λM h=>by
 have h1:=LG h.ln;have h2:=Qpm M;have h3:M.length*(M.length*M.length)<=6*(6*6):=Zg h.ln (Zg h.ln h.ln);show(Is M++LF M).length<=_;rw[Qu];omega⟩
theorem okP:KndOk kP:=⟨λM h=>Q2o h.sc (by have:=h.ln;omega) h.df,λM h=>GK h.sc,λM a=>oY,λM h=>by
 have h3:M.length*(M.length*(M.length*M.length))<=6*(6*(6*6)):=Zg h.ln (Zg h.ln (Zg h.ln h.ln));show(qN M).length<=_;rw[Qpk];omega⟩
theorem okD:KndOk kD:=⟨λM h=>Q2m h.sc h.ln,λM h=>vR h.sc,λM a=>vP,λM h=>Qgv h.ln⟩
open Classical in
noncomputable def cnt(bc:Tm->List Ct)(q t:Rat):Nat:=if h:∃E,Evs bc t (tq q) E then(Classical.choose h).length else 0
theorem Qxq{β:Type}{Bc:Tm->List Ct}{Br:Tm->β}(S:Stab Bc Br){q t:Rat}(hq:Va (tq q)){E:List Tm}(h:Evs Bc t (tq q) E):cnt Bc q t=E.length:=by
 have hx:∃E,Evs Bc t (tq q) E:=⟨E,h⟩;unfold cnt;rw[dif_pos hx];exact Qx9 S hq (Classical.choose_spec hx) h
structure At{β:Type}(k:Knd β)(M:List Pt)(q:Rat)(c:Cr):Prop where
 now:c.now=tq q
 st:KSt (k.bc M) (k.br M) c (k.br M (tq q))
section
variable{β:Type}{k:Knd β}(ok:KndOk k){M M':List Pt}{q t:Rat}{c:Cr}
include ok
theorem At.again(h:At k M q c)(hM:MOk M'):∃ws,Pd c.l c.now (Gu (k.bc M' c.now))=some ws/\At k M' q ⟨tq q,ws,c.ev⟩:=by
 obtain⟨⟨o,kk⟩,hcs,hr⟩:=h.st;have S:=ok.st M' hM;obtain⟨ws,l1,l2⟩:=lD o.n o.l (Gu (k.bc M' c.now));have o':=Orr.lay_ok c.ev o o.n (S.ok.p _ o.n) (S.ok.n _ o.n) l1;have hl:=Qbr o.n o.n (λh=>QU o.n.cut o.n.cut h h) o.l kk l1;rw[h.now]at o' hl l2;exact⟨ws,l1,rfl,⟨⟨o',hl⟩,l2,rfl⟩⟩
theorem At.adv(h:At k M q c)(hM:MOk M)(ht:Qs 1640000 t)(hqt:q<=t) :
 ∃(K:Nat) (c':Cr),K<=67000001/\SV (k.bc M) (k.br M) t K c (k.br M (tq q)) 0=some (c',k.br M (tq t),((cnt (k.bc M) q t:Nat):Int))/\At k M t c'/\c'.ev=c.ev+((cnt (k.bc M) q t:Nat):Int)/\cnt (k.bc M) q t<=67000000/\cnt (k.bc M) q t<=((k.al M).flatMap vJ).length:=by
 have S:=ok.st M hM;have hP:=ok.cp M hM;have hm:=Qc7 hP;have hmu:=Q16 ((k.al M).flatMap vJ) c.now;have hl:=ok.ln M hM;have hv:=h.st.inv.ok.n;have hc:Gx c.now t<=0:=by rw[h.now,Qc9];rcases D7 q t with⟨e,e'⟩|⟨e,e'⟩|⟨e,e'⟩ <;> first|omega|(exfalso;grind)
 obtain⟨c',r',E,g1,g2,g3,g4,g5,g6⟩:=Q1u S ht hP (λa _=>ok.al M a) (mu ((k.al M).flatMap vJ) c.now) c _ 0 (Qm _) h.st λh'=>by
  have:=(EE hv.cut).2 h';omega
 have hr:r'=k.br M (tq t):=by rw[g3.r,g2]
 rw[hr]at g1 g3;rw[Int.zero_add]at g1;rw[h.now]at g6;have he:=Qxq S (by rw[<-h.now];exact hv) g6;rw[he];exact⟨_,c',Fj,g1,⟨g2,g3⟩,g4,Fj,Fj⟩
end
theorem At.begin{β:Type}{k:Knd β}(ok:KndOk k){M:List Pt}{q:Rat}(hM:MOk M)(hq:Qs 1640000 q):At k M q ⟨tq q,(Gu (k.bc M (tq q))).map fresh,0⟩:=⟨rfl,Qwi (ok.st M hM) (BI hq)⟩
end Orq
namespace Orq
open Orr Go
theorem VK{α:Type}:∀(L:List α) {R:List α},L.Pairwise (λx y=>x≠y)->(∀x∈L,x∈R)->L.length≤R.length
 | [],_,_,_=>Qg _
 |
  x::L,R,h,hs=>by
  obtain⟨h1,h2⟩:=Q0.1 h;obtain⟨A,B,rfl⟩:=Kx (hs x Fp);have:=VK L (R:=A++B) h2 λy hy=>by
   have:=hs y (Qh _ hy);simp only[Qp,Qk]at this ⊢;rcases this with h|h|h
   ·exact .inl h
   ·exact absurd h.symm (h1 y hy)
   ·exact .inr h
  simp only[Qu,Q5]at this ⊢;omega
theorem HU{α:Type}{Q:α->α->Prop}{x y:α}{l':List α}:∀(l:List α),Edg Q (l++x::y::l')->Q x y
 | [],h=>h.1
 |_::l,h=>HU l (Edg.tail h)
theorem kF{α:Type}{R:α->α->α->Prop}{x y z:α}{l':List α}:∀(l:List α),Cnv R (l++x::y::z::l')->R x y z
 | [],h=>h.1
 |_::l,h=>kF l (Cnv.tail h)
theorem zI{X Y:Pt->Rat}{R:List Pt}{f z p:Pt}{A:List Pt}(c:LowC X Y R (f::A++[z]))(hp:p∈A):0<H6 X Y f p z:=by
 obtain⟨A1,A2,rfl⟩:=Kx hp;obtain⟨L1,x,hx⟩:∃L1 x,f::A1=L1++[x]:=⟨(f::A1).dropLast,(f::A1).getLast Fp,(Vg Fp).symm⟩;obtain⟨y,L2,hy⟩:∃y L2,A2++[z]=y::L2:=by
  cases A2 with
  |nil=>exact⟨z,[],rfl⟩
  |cons y A2=>exact⟨y,A2++[z],rfl⟩
 have e:f::(A1++p::A2)++[z]=L1++x::p::y::L2:=by
  have e1:f::(A1++p::A2)++[z]=(f::A1)++p::(A2++[z]):=Fp;rw[e1,hx,hy];simp
 have hf:f∈R:=c.mem f Fp;have hz:z∈R:=c.mem z Fp;have srt:=c.srt;have edg:=c.edg;have cnv:=c.cnv;have srt0:=srt;rw[e]at srt edg cnv;have t0:=kF L1 cnv;have t1:=HU L1 edg f hf;have t2:0<=H6 X Y p y z:=by
  have:L1++x::p::y::L2=(L1++[x])++p::y::L2:=Fp;rw[this]at edg;exact HU _ edg z hz
 obtain⟨_,s2,_⟩:=Zp.1 srt;obtain⟨sx,s2⟩:=Q0.1 s2;obtain⟨sp,_⟩:=Q0.1 s2;have lxp:=sx p Fp;have lpy:=sp y Fp;have lfp:lx X Y f p:=(Q0.1 (Zp.1 srt0).1).1 p Fp;have lpz:lx X Y p z:=by
  have:=(Zp.1 srt0).2.2 p Fp z Fp;exact this
 have vf:=Nm lfp;have vx:=Nm lxp;have vy:=Nm lpy;have vz:=Nm lpz;have a1:0<=(X p-X f)*(Y p-Y x)-(X p-X x)*(Y p-Y f):=by unfold H6 at t1;grind
 have a2:0<(X p-X x)*(Y y-Y p)-(X y-X p)*(Y p-Y x):=by unfold H6 at t0;grind
 have a3:0<=(X y-X p)*(Y z-Y p)-(X z-X p)*(Y y-Y p):=by unfold H6 at t2;grind
 have b1:=(ang vf vx vy a1 (Qt a2)).2 (.inr a2);have b2:=(ang vf vy vz (Qt b1) a3).2 (.inl b1);unfold H6;grind
theorem EI{M:List Pt}{a:Tm}{q:Rat}(S:Soon M a q):(Hn M a).Pairwise λx y=>x≠y:=by
 by_cases h3:3<=(Ra a (Gv M)).length
 ·obtain⟨f,z,A,B,hA,hB,c1,c2,_⟩:=C6 S h3;have e:Hn M a=f::A++(z::B):=by
   unfold Hn Mf;rw[if_neg Fj,hA,hB,Xg,Xg]
  rw[e];have p1:=c1.srt;have p2:=c2.srt;obtain⟨p3,_,p4⟩:=Zp.1 p1;obtain⟨p5,_,p6⟩:=Zp.1 p2;refine Zp.2 ⟨List.Pairwise.imp (λ{u v} (h:lx (px · q) (py · q) u v) (e:u=v)=>by subst e;exact Mn _ h) p3,List.Pairwise.imp (λ{u v} (h:lx (λp=>-px p q) (λp=>-py p q) u v) (e:u=v)=>by subst e;exact Mn _ h) p5,λx hx y hy e=>?_⟩;subst e;rcases Qk.1 hx with rfl|hxA
  ·exact Mn _ (p6 x hy x Fp)
  ·rcases Qk.1 hy with rfl|hyB
   ·exact Mn _ (p4 x hx x Fp)
   ·have h1:=zI c1 hxA;have h2:=zI c2 hyB;unfold H6 at h1 h2;grind
 ·have e:Hn M a=Ra a (Gv M):=by unfold Hn Mf;rw[if_pos Fj]
  rw[e];exact S.r.imp λh e=>by subst e;exact Mn _ h
section
variable{M:List Pt}(hM:MOk M){a:Tm}(ha:Va a)
include hM ha
theorem Qk6:(Hn M a).length<=M.length:=by
 obtain⟨q,S⟩:=QZ hM.sc hM.df ha;have hl:(Ra a (Gv M)).length<=M.length:=by rw[Mq];exact Bh M
 exact Qc (VK _ (R:=Ra a (Gv M)) (EI S) λx hx=>FB hx) hl
end
section
variable{M:List Pt}(hM:MOk M){a:Tm}(ha:Va a)
include hM ha
end
theorem MY:∀(k:Nat) {l:List Pt},Ry l->∀m∈Rz k l,m.1.id<m.2.id
 | 0,l,_,m,h=>by simp[Rz]at h
 |k+1,[],_,m,h=>by simp[Rz]at h
 |
  k+1,x::l,hs,m,h=>by
  obtain⟨s1,s2⟩:=Q0.1 hs;rcases Qp.1 h with h|h
  ·obtain⟨y,hy,rfl⟩:=Q8.1 h;exact s1 y hy
  ·exact MY k s2 m h
theorem IE(sg:U6->Int):∀(ps:List (Pt×Pt)) (s:Pt×Pt),Ri sg s ps=s\/Ri sg s ps∈ps
 | [],s=>.inl rfl
 |
  m::ps,s=>by
  rw[A6];rcases IE sg ps (Mz sg s m)with h|h
  ·rw[h];rcases WZ sg s m with e|e
   ·rw[e];exact .inr Fp
   ·rw[e];exact .inl rfl
  ·exact .inr (Qh _ h)
theorem Qs3(sg:U6->Int){M:List Pt}(hs:Ry M):(M.length<2/\Oe sg M=[])\/(2<=M.length/\∃x y,Oe sg M=[x,y]/\x∈M/\y∈M/\x.id<y.id):=by
 match M,hs with
 | [],_=>exact .inl ⟨Fl,rfl⟩
 | [_],_=>exact .inl ⟨Nat.lt_of_sub_eq_succ rfl,rfl⟩
 |
  a::b::l,hs =>
  right;refine⟨Fp,_,_,rfl,?_⟩;have hab:(a,b)∈G9 (a::b::l):=Zy _ (Q8.2 ⟨b,Fp,rfl⟩);have hm:Ri sg (a,b) (G9 (a::b::l))∈G9 (a::b::l):=by
   rcases IE sg (G9 (a::b::l)) (a,b)with h|h
   ·rw[h];exact hab
   ·exact h
  obtain⟨m1,m2⟩:=Se _ _ _ hm;exact⟨m1,m2,MY _ hs _ hm⟩
theorem Q0b(sg:U6->Int)(M:List Pt):(M=[]/\(Ny sg M).1=[])\/(0<M.length/\∃w,(Ny sg M).1=[w]/\w∈M):=by
 cases M with
 |nil=>exact .inl ⟨rfl,rfl⟩
 |
  cons x l =>
  obtain⟨w,h1,h2,_⟩:=Nz sg (x::l).length (x::l) (Qm _) Fp;exact .inr ⟨Fp,w,h1,h2⟩
end Orq
namespace Orq
open Orr Go
structure DgC(D:Nat)(k:Crv):Prop where
 x:k.x.length<=D+1
 y:k.y.length<=D+1
section
variable{D:Nat}{a b c d:Crv}
end
theorem uK(x:Pt)(l:List Pt):G9 (x::l)=l.map (λy=>(x,y))++G9 l:=rfl
theorem jO:∀{l:List Pt} {x y:Pt},x∈l->y∈l->x=y\/(x,y)∈G9 l\/(y,x)∈G9 l
 | [],_,_,h,_=>by cases h
 |
  z::l,x,y,hx,hy=>by
  rw[uK];rcases Qk.1 hx with e|h1
  ·rcases Qk.1 hy with e'|h2
   ·exact .inl (e.trans e'.symm)
   ·exact .inr (.inl (Zy _ (Q8.2 ⟨y,h2,by rw[e]⟩)))
  ·rcases Qk.1 hy with e'|h2
   ·exact .inr (.inr (Zy _ (Q8.2 ⟨x,h1,by rw[e']⟩)))
   rcases jO h1 h2 with h|h|h
   ·exact .inl h
   ·exact .inr (.inl (X9 _ h))
   ·exact .inr (.inr (X9 _ h))
section
variable{M:List Pt}{D:Nat}(hM:MOk M)(hd:∀p∈M,DgC D p.c)
include hM hd
end
end Orq
namespace Orr
open Go Go.Proofs Tryz
set_option maxRecDepth 10000
theorem HZ(x:Nat):(Dm (Ho x)).length=(Ho x).length:=Pn _
theorem Qfo(z:Int):∀c∈[[LV.int .i64 z]],c.length=1:=λc hc=>by rw[Ql.1 hc];rfl
variable{x:Nat}
theorem Q1p(h:x<=1000000000):(Ho x).length<=3:=Qer Fj
theorem tdn(n:Nat):((n:Nat):Int).tdiv 10000=((n / 10000:Nat):Int):=rfl
theorem FI(n:Nat):((n:Nat):Int).tdiv 2=((n / 2:Nat):Int):=rfl
theorem GL{mu c0:Nat}(hx:sz x<=100000000)(hmu:mu<=65536)(hc:c0<=1000000000):U3 177 [.one (nd x),.oi mu,.oi c0] [.one (nd (x*mu+c0))]:=by
 have hxl:=Qc (Bm x) hx;have hll:=HZ x;show U3 177 [.one (.row (Dm (Ho x))),.oi mu,.oi c0] _;refine G5 func177 rfl ?_;refine Uw [.r 11 (eI (b:=(((Ho x).length+2:Nat):Int)) (by rw[hll];omega)),.i 0,.i ((Ho x).length+2)] rfl ?_;refine U0 (S:=Nat×Nat×U8) 1 (λL1 s=>(8,.v (.oi (s.1:Int)))::(7,.v (.one (.orow 0 1 none)))::(2,.v (.oi (s.2.1:Int)))::L1.filter (λx=>x.1 != 12)) (λs=>[.row false 3 1 (Dm s.2.2)]) (λs=>((Ho x).length-s.1)*4+(Ho s.2.1).length) (λs=>Dg s.2.2/\s.2.2.length=s.1/\S9 s.2.2+s.2.1*10000^s.1=S9 ((Ho x).take s.1)*mu+c0/\(s.1<=(Ho x).length\/s.1+(Ho s.2.1).length<=(Ho x).length+3)/\s.2.1<=1000000000) (0,c0,[]) ⟨Dg.nil,rfl,by simp[S9],.inl (Qg _),hc⟩ rfl rfl λs hs=>?_
 obtain⟨i,c,o⟩:=s;obtain⟨hp0,hp1,hp2,hp3,hp4⟩:=hs;dsimp only at hp0 hp1 hp2 hp3 hp4 ⊢;have hcl:=Q1p (x:=c) hp4;by_cases h1:i<(Ho x).length
 ·obtain⟨d,hd⟩:=gxE (l:=(Ho x)) (i:=i) h1;have hd9:=D9 x d (Qa hd);have hdm:d*mu<=9999*65536:=Zg Fj hmu;have hc3:=Q1p (x:=(c+d*mu) / 10000) Fj;have hol:(Dm o).length=i:=by rw[Pn,hp1]
  refine go tt [.g 17 true U5,.t rfl,.T,.x (Re hd),.r 33 (eI (b:=((d*mu:Nat):Int)) Fp),.r 34 (eI (b:=((c+d*mu:Nat):Int)) Fj),.r 37 (eI (b:=(((c+d*mu) % 10000:Nat):Int)) (by rfl)),.s (sz:=1) (Qfo _),.r 41 (eI (b:=(((c+d*mu) / 10000:Nat):Int)) (by rfl))] rfl (by simp[Gd,hol,tdn,FI,-Int.natCast_add,-Int.natCast_mul];omega) ?_;exact rd (i+1,(c+d*mu) / 10000,o++[(c+d*mu) % 10000]) Ft ⟨hp0.snoc (Nat.mod_lt _ Fl),by dsimp only;rw[List.length_append];show o.length+1=_;omega,by
   dsimp only;rw[My,Pk hd,hp1,Nat.pow_succ];simp only[S9,Nat.mul_zero,Nat.add_zero];have:=xJ (d:=d) (m:=mu) rfl hp2;rw[this];grind,.inl Ft,Ft⟩ (by rw[Oz];rfl)
 ·by_cases h2:0<c
  ·have hdc:=Ox (x:=c) Fj;have hol:(Dm o).length=i:=by rw[Pn,hp1]
   refine go tt [.g 17 false U4,.T,.F,.r 37 (eI (b:=((c % 10000:Nat):Int)) (by rfl)),.s (sz:=1) (Qfo _),.r 41 (eI (b:=((c / 10000:Nat):Int)) (by rfl))] rfl (by simp[Gd,hol,tdn,FI,-Int.natCast_add];omega) ?_;exact rd (i+1,c / 10000,o++[c % 10000]) Ft ⟨hp0.snoc (Nat.mod_lt _ Fl),by dsimp only;rw[List.length_append];show o.length+1=_;omega,by
    dsimp only;rw[My,hp1,Nat.pow_succ];simp only[S9,Nat.mul_zero,Nat.add_zero];have:=xJ (d:=0) (m:=mu) rfl hp2;simp only[Nat.zero_mul,Nat.mul_zero,Nat.add_zero]at this;rw[this,List.take_of_length_le Fj,List.take_of_length_le Fj],.inr Ft,Ft⟩ (by rw[Oz];rfl)
  ·have cc:=SI hp0;rw[show S9 o=x*mu+c0 from by
    have h:=hp2;rw[Qo Fj,Tv,show c=0 by omega]at h;omega]at cc
   exact Ux [.g 17 false U4,.F,.k cc] rfl
variable{l:U8}
theorem Qge{j d:Nat}(h:l[j]? = some d):val (l.drop j)=d+4294967296*val (l.drop (j+1)):=by
 have hi:=(Qd.1 h).1;rw[Zq hi,(Qd.1 h).2];rfl
theorem BS:∀(l:U8) (j:Nat),val (l.drop j)<=val l
 |l,0=>Qm _
 | [],j+1=>Fp
 |
  x::l,j+1=>by
  have:=BS l j;rw[Kq];simp only[val];omega
theorem Qp2(hu:∀u∈l,u<4294967296)(hl:l.length≤1099511627776)(hx:sz (val l)≤100000000):U3 110 [lr l] [.one (nd (val l))]:=by
 have hll:=Gb l;show U3 110 [.one (.row (lm l))] _;refine G5 func110 rfl ?_;refine Uw [.z 3,.r 7 (eI (b:=((l.length:Nat):Int)-1) (by rw[hll]))] rfl ?_;refine U0 (S:=Nat×U8) 0 (λL1 s=>(4,.v (.oi ((s.1:Int)-1)))::(3,.v (.one (.row (Dm s.2))))::L1) (λ_=>[]) (λs=>s.1) (λs=>s.1<=l.length/\s.2=Ho (val (l.drop s.1))) (l.length,[]) ⟨Nat.le_refl _,by dsimp only;rw[List.drop_eq_nil_of_le (Nat.le_refl _)];show []=Ho 0;rw[Tn]⟩ rfl rfl λs hs=>?_
 obtain⟨j,o⟩:=s;obtain⟨hj,ho⟩:=hs;dsimp only at hj ho ⊢;subst ho;cases j with
 |zero=>exact Ux [.f Fp] rfl (by rw[X7];rfl) trivial
 |
  succ j =>
  obtain⟨d,hd⟩:=gxE (l:=l) (i:=j) Fj;have hd9:=hu d (Qa hd);have hdd:=Qge hd;have hle:=BS l j;have hs2:sz (val (l.drop (j+1))*65536+d / 65536)<=100000000:=Qc (Tx Fj) hx;have hs1:sz (val (l.drop (j+1)))<=100000000:=Qc (Tx Fj) hx;have c1:=GL (x:=val (l.drop (j+1))) (mu:=65536) (c0:=d / 65536) hs1 Fj Fj;have c2:=GL (x:=val (l.drop (j+1))*65536+d / 65536) (mu:=65536) (c0:=d % 65536) hs2 Fj Fj;have ej:((j+1:Nat):Int)-1=(j:Int):=Fj;have e2:(val (l.drop (j+1))*65536+d / 65536)*65536+d % 65536=val (l.drop j):=by rw[hdd];omega
  rw[e2]at c2;rw[ej];refine go tt [.T,.x (Rh hd),.r 17 (A0 (b:=((d / 65536:Nat):Int)) (by rfl)),.k c1,.x (Rh hd),.r 25 (A0 (b:=((d % 65536:Nat):Int)) (by rfl)),.k c2] rfl (by simp[Gd,IntKind.bits];omega) ?_;exact rd (j,Ho (val (l.drop j))) Ft ⟨Ft,rfl⟩ rfl
variable{y:Nat}
theorem cO(hx:sz x<=200000000)(hy:sz y<=200000000):U3 107 [.one (nd x),.one (nd y)] [.oi (JB x y)]:=by
 have hxl:=Qc (Bm x) hx;have hyl:=Qc (Bm y) hy;have lx:=HZ x;have ly:=HZ y;show U3 107 [.one (.row (Dm (Ho x))),.one (.row (Dm (Ho y)))] _;refine G5 func107 rfl ?_;by_cases hl:(Ho x).length=(Ho y).length
 ·refine Uw [.f Fo,.r 18 (eI (b:=((Ho x).length:Int)-1) (by rw[lx]))] rfl ?_;refine U0 (S:=Nat) 0 (λL1 j=>(5,.v (.oi ((j:Int)-1)))::L1) (λ_=>[]) (λj=>j) (λj=>j<=(Ho x).length/\(Ho x).drop j=(Ho y).drop j) (Ho x).length ⟨Qm _,by rw[Vj (Qm _),Vj Fj]⟩ rfl rfl λj hs=>?_
  obtain⟨hj,hp⟩:=hs;cases j with
  |
   zero =>
   have hxy:x=y:=by rw[X7,X7]at hp;rw[<-Tv x,<-Tv y,hp]
   exact Ux [.f Fp] rfl (by rw[Qat hxy]) trivial
  |
   succ j =>
   obtain⟨d,hd⟩:=gxE (l:=(Ho x)) (i:=j) Fj;obtain⟨e,he⟩:=gxE (l:=(Ho y)) (i:=j) Fj;have ej:((j+1:Nat):Int)-1=(j:Int):=Fj;rw[ej];by_cases h2:d=e
   ·refine Uw [.T,.x (Re hd),.x (Re he),.f (by simp[h2])] rfl ?_;exact rd j Fj ⟨Fj,by rw[Zq (by omega:j<(Ho x).length),Zq (by omega:j<(Ho y).length),hp,(Qd.1 hd).2,(Qd.1 he).2,h2]⟩ rfl
   ·by_cases h3:d<e
    ·have hxy:=AY (D9 x) hd he hp h3;rw[Tv,Tv]at hxy;exact Ux [.T,.x (Re hd),.x (Re he),.t Fo,.x (Re hd),.x (Re he),.T] rfl (by rw[CS hxy]) trivial
    ·have hxy:=AY (D9 y) he hd hp.symm Fj;rw[Tv,Tv]at hxy;exact Ux [.T,.x (Re hd),.x (Re he),.t Fo,.x (Re hd),.x (Re he),.F] rfl (by rw[CH hxy]) trivial
 ·by_cases hlt:(Ho x).length<(Ho y).length
  ·exact Ux [.t Fo,.T] rfl (by rw[CS (tV hlt)]) trivial
  ·exact Ux [.t Fo,.F] rfl (by rw[CH (tV Fj)]) trivial
theorem KH{o c s P V:Nat}(h:o+c*P=V):o+P*((c+s) % 10000)+(c+s) / 10000*(P*10000)=V+P*s:=by
 have e:=Xt (c+s) 10000;generalize (c+s) / 10000=q at *;generalize (c+s) % 10000=r at *;have e2:P*(c+s)=P*(10000*q+r):=by rw[e]
 grind
theorem QC{i:Nat}(h:l.length<=i):S9 (l.take (i+1))=S9 (l.take i):=by rw[Qo Fj,Qo h]
theorem Qa5{p v u:Nat}(h:l[p]? = some v):S9 (l.set p u)+10000^p*v=S9 l+10000^p*u:=by
 have hp:=(Qd.1 h).1;rw[CB (l.set p u) p (by rw[Xs];omega),CB l p Fj,YU h,PK hp,List.take_set_of_le (Qm _)];simp only[S9];generalize 10000^p=P;grind
theorem O1{p u:Nat}(h:p<l.length):S9 ((l.set p u).take (p+1))=S9 (l.take p)+10000^p*u:=by
 rw[Pk (l:=l.set p u) (i:=p) (x:=u) (by simp[h]),List.take_set_of_le (Qm _)]
structure AddI(x y:Nat)(s:Nat×Nat×List Nat):Prop where
 d:Dg s.2.2
 l:s.2.2.length=s.1
 v:S9 s.2.2+s.2.1*10000^s.1=S9 ((Ho x).take s.1)+S9 ((Ho y).take s.1)
 c:s.2.1<=1
 b:s.1<=max (Ho x).length (Ho y).length\/s.1=max (Ho x).length (Ho y).length+1/\10000^(max (Ho x).length (Ho y).length)<=x+y/\s.2.1=0
theorem Qwl(hx:sz x<=200000000)(hy:sz y<=200000000):U3 106 [.one (nd x),.one (nd y)] [.one (nd (x+y))]:=by
 have hxl:=Qc (Bm x) hx;have hyl:=Qc (Bm y) hy;have lx:=HZ x;have ly:=HZ y;show U3 106 [.one (.row (Dm (Ho x))),.one (.row (Dm (Ho y)))] _;refine G5 func106 rfl ?_;refine Uv [.o 5 3 1] rfl ?_;refine U0 (S:=Nat×Nat×U8) 1 (λL1 s=>(7,.v (.oi (s.1:Int)))::(6,.v (.oi (s.2.1:Int)))::(5,.v (.one (.orow 0 1 none)))::L1) (λs=>[.row false 3 1 (Dm s.2.2)]) (λs=>(max (Ho x).length (Ho y).length-s.1)*2+s.2.1) (AddI x y) (0,0,[]) ⟨Dg.nil,rfl,by simp[S9],Fl,.inl (Qg _)⟩ rfl rfl λs hs=>?_
 obtain⟨i,c,o⟩:=s;obtain⟨hp0,hp1,hp2,hp3,hp4⟩:=hs;dsimp only at hp0 hp1 hp2 hp3 hp4 ⊢;have hol:(Dm o).length=i:=by rw[Pn,hp1]
 by_cases h1:i<(Ho x).length
 ·obtain⟨d,hd⟩:=gxE (l:=(Ho x)) (i:=i) h1;have hd9:=D9 x d (Qa hd);by_cases h2:i<(Ho y).length
  ·obtain⟨e,he⟩:=gxE (l:=(Ho y)) (i:=i) h2;have he9:=D9 y e (Qa he);refine go tt [.g 12 true U5,.g 18 true rfl,.t rfl,.T,.x (Re hd),.r 33 (eI (b:=((c+d:Nat):Int)) Fj),.T,.x (Re he),.r 43 (eI (b:=((c+(d+e):Nat):Int)) Fj),.r 46 (eI (b:=(((c+(d+e)) % 10000:Nat):Int)) (by rfl)),.s (sz:=1) (Qfo _),.r 50 (eI (b:=(((c+(d+e)) / 10000:Nat):Int)) (by rfl))] rfl (by simp[Gd,hol,tdn,FI,-Int.natCast_add];omega) ?_;exact rd (i+1,(c+(d+e)) / 10000,o++[(c+(d+e)) % 10000]) Ft ⟨hp0.snoc (Nat.mod_lt _ Fl),by dsimp only;rw[List.length_append];show o.length+1=_;omega,by
    dsimp only;rw[My,hp1,Nat.pow_succ];simp only[S9,Nat.mul_zero,Nat.add_zero];have:=KH (s:=d+e) hp2;rw[this,Pk hd,Pk he];grind,Ft,.inl Ft⟩ (by rw[Oz];rfl)
  ·refine go tt [.g 12 true U5,.g 18 true rfl,.t rfl,.T,.x (Re hd),.r 33 (eI (b:=((c+d:Nat):Int)) Fj),.F,.r 46 (eI (b:=(((c+d) % 10000:Nat):Int)) (by rfl)),.s (sz:=1) (Qfo _),.r 50 (eI (b:=(((c+d) / 10000:Nat):Int)) (by rfl))] rfl (by simp[Gd,hol,tdn,FI,-Int.natCast_add];omega) ?_;exact rd (i+1,(c+d) / 10000,o++[(c+d) % 10000]) Ft ⟨hp0.snoc (Nat.mod_lt _ Fl),by dsimp only;rw[List.length_append];show o.length+1=_;omega,by
    dsimp only;rw[My,hp1,Nat.pow_succ];simp only[S9,Nat.mul_zero,Nat.add_zero];have:=KH (s:=d) hp2;rw[this,Pk hd,QC (l:=Ho y) Fj];grind,Ft,.inl Ft⟩ (by rw[Oz];rfl)
 ·by_cases h2:i<(Ho y).length
  ·obtain⟨e,he⟩:=gxE (l:=(Ho y)) (i:=i) h2;have he9:=D9 y e (Qa he);refine go tt [.g 12 false U4,.g 18 true U5,.t rfl,.F,.T,.x (Re he),.r 43 (eI (b:=((c+e:Nat):Int)) Fj),.r 46 (eI (b:=(((c+e) % 10000:Nat):Int)) (by rfl)),.s (sz:=1) (Qfo _),.r 50 (eI (b:=(((c+e) / 10000:Nat):Int)) (by rfl))] rfl (by simp[Gd,hol,tdn,FI,-Int.natCast_add];omega) ?_;exact rd (i+1,(c+e) / 10000,o++[(c+e) % 10000]) Ft ⟨hp0.snoc (Nat.mod_lt _ Fl),by dsimp only;rw[List.length_append];show o.length+1=_;omega,by
    dsimp only;rw[My,hp1,Nat.pow_succ];simp only[S9,Nat.mul_zero,Nat.add_zero];have:=KH (s:=e) hp2;rw[this,Pk he,QC (l:=Ho x) Fj];grind,Ft,.inl Ft⟩ (by rw[Oz];rfl)
  ·by_cases h3:0<c
   ·refine go tt [.g 12 false U4,.g 18 false U4,.T,.F,.F,.r 46 (eI (b:=((c % 10000:Nat):Int)) (by rfl)),.s (sz:=1) (Qfo _),.r 50 (eI (b:=((c / 10000:Nat):Int)) (by rfl))] rfl (by simp[Gd,hol,tdn,FI,-Int.natCast_add];omega) ?_;exact rd (i+1,c / 10000,o++[c % 10000]) Ft ⟨hp0.snoc (Nat.mod_lt _ Fl),by dsimp only;rw[List.length_append];show o.length+1=_;omega,by
     dsimp only;rw[My,hp1,Nat.pow_succ];simp only[S9,Nat.mul_zero,Nat.add_zero];have:=KH (s:=0) hp2;rw[Nat.add_zero,Nat.mul_zero,Nat.add_zero]at this;rw[this,QC (l:=Ho y) Fj,QC (l:=Ho x) Fj],Ft,.inr ⟨Ft,by
      have h:=hp2;rw[List.take_of_length_le Fj,List.take_of_length_le Fj,Tv,Tv,show c=1 by omega,Nat.one_mul,show i=(max (Ho x).length (Ho y).length) by omega]at h;omega,Ft⟩⟩ (by rw[Oz];rfl)
   ·have hv:S9 o=x+y:=by
     have h:=hp2;rw[Qo Fj,Qo Fj,Tv,Tv,show c=0 by omega]at h;omega
    have hfin:o=Ho (x+y):=by
     have h:=Qjs (o:=o) hp0;rw[hv]at h;refine h ?_;have m1:=YV (x:=x) (y:=x+y) Fj;have m2:=YV (x:=y) (y:=x+y) Fj;rcases hp4 with hb|⟨_,hb,_⟩
     ·omega
     ·have:=Qeq hb;omega
    exact Ux [.g 12 false U4,.g 18 false U4,.F] rfl (by rw[hfin];rfl) trivial
theorem KN{o b a c P u d e c':Nat}(h:o+b=a+c*P)(hs:u+e+c=d+10000*c'):(o+P*u)+(b+P*e)=(a+P*d)+c'*(P*10000):=by
 have e2:P*(u+e+c)=P*(d+10000*c'):=by rw[hs]
 grind
theorem XT(o:U8)(i u:Nat):Dm (o.set i u)=(Dm o).set i [.int .i64 (u:Int)]:=by simp[Dm,Kc]
theorem dV(hx:sz x<=200000000)(hy:sz y<=200000000)(hyx:y<=x):U3 108 [.one (nd x),.one (nd y)] [.one (nd (x-y))]:=by
 have hxl:=Qc (Bm x) hx;have hyl:=Qc (Bm y) hy;have lx:=HZ x;have ly:=HZ y;have hmy:=YV hyx;show U3 108 [.one (.row (Dm (Ho x))),.one (.row (Dm (Ho y)))] _;refine G5 func108 rfl ?_;refine Uw [.i (Dm (Ho x)).length,.i (Dm (Ho x)).length] rfl ?_;rw[lx,show List.replicate (Ho x).length [LV.int .i64 0]=Dm (List.replicate (Ho x).length 0) from by simp[Dm]];refine U0 (S:=Nat×Nat×U8) 1 (λL1 s=>(14,.v (.oi (s.1:Int)))::(6,.v (.oi (s.2.1:Int)))::L1) (λs=>[.row false 3 1 (Dm s.2.2)]) (λs=>(Ho x).length-s.1) (λs=>s.1<=(Ho x).length/\s.2.2.length=(Ho x).length/\Dg s.2.2/\S9 (s.2.2.take s.1)+S9 ((Ho y).take s.1)=S9 ((Ho x).take s.1)+s.2.1*10000^s.1/\s.2.1<=1) (0,0,List.replicate (Ho x).length 0) ⟨Qg _,Jx ..,Dg.zeros _,by simp[S9],Qg _⟩ rfl rfl λs hs=>?_
 obtain⟨i,c,o⟩:=s;obtain⟨hp0,hp1,hp2,hp3,hp4⟩:=hs;dsimp only at hp0 hp1 hp2 hp3 hp4 ⊢;have hol:(Dm o).length=(Ho x).length:=by rw[Pn,hp1]
 by_cases h1:i<(Ho x).length
 ·obtain⟨d,hd⟩:=gxE (l:=(Ho x)) (i:=i) h1;have hd9:=D9 x d (Qa hd);by_cases h2:i<(Ho y).length
  ·obtain⟨e,he⟩:=gxE (l:=(Ho y)) (i:=i) h2;have he9:=D9 y e (Qa he);by_cases h3:d<c+e
   ·refine go tt [.T,.x (Re hd),.T,.x (Re he),.T,.r 36 (eI (b:=((d+10000-c-e:Nat):Int)) Fj),.i i] rfl (by simp[Gd,hol,tdn,FI,-Int.natCast_add];omega) ?_;exact rd (i+1,1,o.set i (d+10000-c-e)) Ft ⟨Ft,by dsimp only;rw[List.length_set];exact hp1,hp2.set Fj,by
     dsimp only;rw[O1 Fj,Pk hd,Pk he,Nat.pow_succ];exact KN hp3 (u:=d+10000-c-e) (d:=d) (e:=e) (c':=1) Fj,Ft⟩ (by rw[XT];rfl)
   ·refine go tt [.T,.x (Re hd),.T,.x (Re he),.r 32 (eI (b:=((d-c-e:Nat):Int)) Fj),.F,.i i] rfl (by simp[Gd,hol,tdn,FI,-Int.natCast_add];omega) ?_;exact rd (i+1,0,o.set i (d-c-e)) Ft ⟨Ft,by dsimp only;rw[List.length_set];exact hp1,hp2.set Fj,by
     dsimp only;rw[O1 Fj,Pk hd,Pk he,Nat.pow_succ];exact KN hp3 (u:=d-c-e) (d:=d) (e:=e) (c':=0) Fj,Ft⟩ (by rw[XT];rfl)
  ·have hy0:S9 ((Ho y).take (i+1))=S9 ((Ho y).take i)+10000^i*0:=by rw[QC Fj,Vn,X5]
   by_cases h3:d<c
   ·refine go tt [.T,.x (Re hd),.F,.T,.r 36 (eI (b:=((d+10000-c:Nat):Int)) Fj),.i i] rfl (by simp[Gd,hol,tdn,FI,-Int.natCast_add];omega) ?_;exact rd (i+1,1,o.set i (d+10000-c)) Ft ⟨Ft,by dsimp only;rw[List.length_set];exact hp1,hp2.set Fj,by
     dsimp only;rw[O1 Fj,Pk hd,hy0,Nat.pow_succ];exact KN hp3 (u:=d+10000-c) (d:=d) (e:=0) (c':=1) Fj,Ft⟩ (by rw[XT];rfl)
   ·refine go tt [.T,.x (Re hd),.r 22 (eI (b:=((d-c:Nat):Int)) Fj),.F,.F,.i i] rfl (by simp[Gd,hol,tdn,FI,-Int.natCast_add];omega) ?_;exact rd (i+1,0,o.set i (d-c)) Ft ⟨Ft,by dsimp only;rw[List.length_set];exact hp1,hp2.set Fj,by
     dsimp only;rw[O1 Fj,Pk hd,hy0,Nat.pow_succ];exact KN hp3 (u:=d-c) (d:=d) (e:=0) (c':=0) Fj,Ft⟩ (by rw[XT];rfl)
 ·have hi:i=(Ho x).length:=Fj;have hv:S9 o=x-y:=by
   have h:=hp3;rw[Qo Fj,Qo Fj,Qo Fj,Tv,Tv]at h;have hlt:=AS hp2;rw[hp1,<-hi]at hlt;have hc0:c=0:=by
    rcases Q4 c with h0|h0
    ·exact h0
    ·exfalso;have:c=1:=Fj;rw[this,W7]at h;omega
   rw[hc0]at h;omega
  have cc:=SI hp2;rw[hv]at cc;exact Ux [.F,.k cc] rfl
theorem AH{o o2 c P u v s V:Nat}(h:o+c*P=V)(hs:o2+P*v=o+P*u){q:Nat}(hu:u+10000*q=v+c+s):o2+q*(P*10000)=V+P*s:=by
 have e2:P*(u+10000*q)=P*(v+c+s):=by rw[hu]
 grind
theorem Q1q(S:Nat):S % 10000+10000*(S / 10000)=S:=Wy S 10000
structure MulI(x y i d:Nat)(s:Nat×Nat×List Nat):Prop where
 l:s.2.2.length=(Ho x).length+(Ho y).length
 dg:Dg s.2.2
 v:S9 s.2.2+s.2.1*10000^(i+s.1)=S9 ((Ho x).take i)*y+10000^i*d*S9 ((Ho y).take s.1)
 c:s.2.1<10000
 b:s.1<=(Ho y).length/\(∀j v,i+(Ho y).length<=j->s.2.2[j]? = some v->v=0)\/s.1=(Ho y).length+1/\s.2.1=0/\∀j v,i+(Ho y).length+1<=j->s.2.2[j]? = some v->v=0
theorem Qww(hx:sz x<=200000000)(hy:sz y<=200000000):U3 109 [.one (nd x),.one (nd y)] [.one (nd (x*y))]:=by
 have hxl:=Qc (Bm x) hx;have hyl:=Qc (Bm y) hy;have lx:=HZ x;have ly:=HZ y;show U3 109 [.one (.row (Dm (Ho x))),.one (.row (Dm (Ho y)))] _;refine G5 func109 rfl ?_;refine Uw [.r 14 (eI (b:=(((Ho x).length+(Ho y).length:Nat):Int)) (by rw[lx,ly];omega)),.i ((Ho x).length+(Ho y).length),.i ((Ho x).length+(Ho y).length)] rfl ?_;rw[show List.replicate ((Ho x).length+(Ho y).length) [LV.int .i64 0]=Dm (List.replicate ((Ho x).length+(Ho y).length) 0) from by simp[Dm]];refine U0 (S:=Nat×U8) 1 (λL1 s=>(18,.v (.oi (s.1:Int)))::L1) (λs=>[.row false 3 1 (Dm s.2)]) (λs=>(Ho x).length-s.1) (λs=>s.1<=(Ho x).length/\s.2.length=(Ho x).length+(Ho y).length/\Dg s.2/\S9 s.2=S9 ((Ho x).take s.1)*y/\∀j v,s.1+(Ho y).length<=j->s.2[j]? = some v->v=0) (0,List.replicate ((Ho x).length+(Ho y).length) 0) ⟨Qg _,Jx ..,Dg.zeros _,by rw[AP (λx hx=>Z0 hx)];simp[S9],λj v _ hv=>Z0 (Qa hv)⟩ rfl rfl λs hs=>?_
 obtain⟨i,o⟩:=s;obtain⟨hp0,hp1,hp2,hp3,hp4⟩:=hs;dsimp only at hp0 hp1 hp2 hp3 hp4 ⊢;by_cases h1:i<(Ho x).length
 ·obtain⟨d,hd⟩:=gxE (l:=(Ho x)) (i:=i) h1;have hd9:=D9 x d (Qa hd);refine Uv [.T] rfl ?_;refine U0 (S:=Nat×Nat×U8) 1 (λL1 s=>(8,.v (.oi (s.1:Int)))::(7,.v (.oi (s.2.1:Int)))::L1) (λs=>[.row false 3 1 (Dm s.2.2)]) (λs=>((Ho y).length-s.1)*2+min s.2.1 1) (MulI x y i d) (0,0,o) ⟨hp1,hp2,by dsimp only;rw[hp3];simp[S9],by show 0<10000;decide,.inl ⟨Nat.zero_le _,hp4⟩⟩ rfl rfl λs hs=>?_
  obtain⟨k,c,o2⟩:=s;obtain⟨hq0,hq1,hq2,hq3,hq4⟩:=hs;dsimp only at hq0 hq1 hq2 hq3 hq4 ⊢;have hol:(Dm o2).length=(Ho x).length+(Ho y).length:=by rw[Pn,hq0]
  by_cases h2:k<(Ho y).length
  ·obtain⟨e,he⟩:=gxE (l:=(Ho y)) (i:=k) h2;have he9:=D9 y e (Qa he);have hde:d*e<=9999*9999:=Zg Fj Fj;obtain⟨v,hoi⟩:=gxE (l:=o2) (i:=i+k) Fj;have hv9:=hq1 v (Qa hoi);refine go tt [.g 25 true U5,.t rfl,.r 34 (eI (b:=((i+k:Nat):Int)) Fj),.i (i+k),.x (Re hoi),.r 38 (eI (b:=((v+c:Nat):Int)) Fj),.T,.x (Re hd),.x (Re he),.r 52 (eI (b:=((d*e:Nat):Int)) Fp),.r 53 (eI (b:=((v+c+d*e:Nat):Int)) Fj),.r 57 (eI (b:=((i+k:Nat):Int)) Fj),.r 59 (eI (b:=(((v+c+d*e) % 10000:Nat):Int)) (by rfl)),.i (i+k),.r 62 (eI (b:=(((v+c+d*e) / 10000:Nat):Int)) (by rfl))] rfl (by simp[Gd,hol,tdn,FI,-Int.natCast_add,-Int.natCast_mul];omega) ?_;exact rd (k+1,(v+c+d*e) / 10000,o2.set (i+k) ((v+c+d*e) % 10000)) Ft ⟨by dsimp only;rw[List.length_set];exact hq0,hq1.set (Nat.mod_lt _ Fl),by
    dsimp only;rw[<-Nat.add_assoc i k 1,Nat.pow_succ];have:=AH hq2 (Qa5 hoi (u:=((v+c)+(d*e)) % 10000)) (s:=d*e) (q:=((v+c)+(d*e)) / 10000) (by rw[Q1q]);rw[this,Pk he,Nat.pow_add];grind,Ft,.inl ⟨Ft,λj w hj hw=>(by
     dsimp only at hw;rcases hq4 with⟨_,h⟩|⟨_,_,h⟩ <;> (rw[Yz Fj]at hw;exact h j w Fj hw))⟩⟩ (by rw[XT];rfl)
  ·by_cases h3:0<c
   ·have hk:k=(Ho y).length:=Fj;have hz:∀j v,i+(Ho y).length<=j->o2[j]? = some v->v=0:=by
     rcases hq4 with⟨_,h⟩|⟨_,h,_⟩
     ·exact h
     ·omega
    obtain⟨v,hoi⟩:=gxE (l:=o2) (i:=i+k) Fj;have hv0:v=0:=hz (i+k) v Fj hoi;have hv9:=hq1 v (Qa hoi);refine go tt [.g 25 false U4,.T,.r 34 (eI (b:=((i+k:Nat):Int)) Fj),.i (i+k),.x (Re hoi),.r 38 (eI (b:=((v+c:Nat):Int)) Fj),.F,.r 57 (eI (b:=((i+k:Nat):Int)) Fj),.r 59 (eI (b:=(((v+c) % 10000:Nat):Int)) (by rfl)),.i (i+k),.r 62 (eI (b:=(((v+c) / 10000:Nat):Int)) (by rfl))] rfl (by simp[Gd,hol,tdn,FI,-Int.natCast_add];omega) ?_;exact rd (k+1,(v+c) / 10000,o2.set (i+k) ((v+c) % 10000)) Ft ⟨by dsimp only;rw[List.length_set];exact hq0,hq1.set (Nat.mod_lt _ Fl),by
     dsimp only;rw[<-Nat.add_assoc i k 1,Nat.pow_succ];have:=AH hq2 (Qa5 hoi (u:=(v+c) % 10000)) (s:=0) (q:=(v+c) / 10000) (by rw[Q1q];rfl);rw[this,Nat.mul_zero,Nat.add_zero,QC Fj],Ft,.inr ⟨Ft,Ft,λj w hj hw=>(by
      dsimp only at hw;rw[Yz Fj]at hw;exact hz j w Fj hw)⟩⟩ (by rw[XT];rfl)
   ·refine Uw [.g 25 false U4,.F] rfl ?_;exact rd (i+1,o2) Ft ⟨Ft,hq0,hq1,by
     dsimp only;rw[Pk hd,Jn];have h:=hq2;rw[show c=0 by omega,Qo (l:=Ho y) (i:=k) Fj,Tv]at h;rw[Y6,X5]at h;exact h,by
     dsimp only;rcases hq4 with⟨_,h⟩|⟨_,_,h⟩
     ·exact λj w hj hw=>h j w Fj hw
     ·exact λj w hj hw=>h j w Fj hw⟩ rfl
 ·have hv:S9 o=x*y:=by rw[hp3,Qo Fj,Tv]
  have cc:=SI hp2;rw[hv]at cc;exact Ux [.F,.k cc] rfl
theorem Qav:JB x y<=0↔x<=y:=by
 unfold JB;constructor
 ·intro h;split at h
  ·omega
  ·split at h <;> omega
 ·intro h;split
  ·omega
  ·split <;> omega
theorem Qet{R lo:Nat}(h1:y*lo<=R)(h2:R<y*(lo+1)):R / y=lo/\R % y=R-y*lo:=by
 have hy:0<y:=by
  rcases Q4 y with h|h
  ·subst h;simp at h2
  ·exact h
 have e:R / y=lo:=Nat.div_eq_of_lt_le (by rw[Zr];exact h1) (by rw[Zr];exact h2);refine⟨e,?_⟩;have:=Xt R y;rw[e]at this;omega
theorem Qn6{R:Nat}(h:R<y*10000):sz R<=sz y+14:=by
 refine Cu.2 (Xn h ?_);have:=RY y;rw[Xu];have e:(2:Nat)^14=16384:=Fl;rw[e];exact Zg Fj Fl
theorem Qf8(y:Nat):sz (y*10000)<=sz y+14:=by
 refine Cu.2 ?_;have:=RY y;rw[Xu];have e:(2:Nat)^14=16384:=Fl;rw[e];omega
theorem dX(hx:sz x<=90000000)(hy:sz y<=90000000)(hy0:0<y):U3 131 [.one (nd x),.one (nd y)] [.one (nd (x / y)),.one (nd (x % y))]:=by
 have hxl:=Qc (Bm x) hx;have hyl:=Qc (Bm y) hy;have lx:=HZ x;show U3 131 [.one (.row (Dm (Ho x))),.one (nd y)] _;refine G5 func131 rfl ?_;refine Uw [.i (Dm (Ho x)).length,.i (Dm (Ho x)).length,.z 7,.r 17 (eI (b:=((Ho x).length:Int)-1) (by rw[lx]))] rfl ?_;rw[lx,show List.replicate (Ho x).length [LV.int .i64 0]=Dm (List.replicate (Ho x).length 0) from by simp[Dm]];refine U0 (S:=Nat×U8×U8) 1 (λL1 s=>(8,.v (.oi ((s.1:Int)-1)))::(7,.v (.one (.row (Dm s.2.1))))::L1) (λs=>[.row false 3 1 (Dm s.2.2)]) (λs=>s.1) (λs=>s.1<=(Ho x).length/\s.2.2.length=(Ho x).length/\Dg s.2.2/\S9 (s.2.2.drop s.1)=S9 ((Ho x).drop s.1) / y/\s.2.1=Ho (S9 ((Ho x).drop s.1) % y)) ((Ho x).length,[],List.replicate (Ho x).length 0) ⟨Nat.le_refl _,List.length_replicate ..,Dg.zeros _,by dsimp only;rw[List.drop_eq_nil_of_le Fp,List.drop_eq_nil_of_le (Nat.le_refl _)];simp[S9],by dsimp only;rw[List.drop_eq_nil_of_le (Nat.le_refl _)];simp[S9,Tn]⟩ rfl rfl λs hs=>?_
 obtain⟨j,R,o⟩:=s;obtain⟨hp0,hp1,hp2,hp3,hp4⟩:=hs;dsimp only at hp0 hp1 hp2 hp3 hp4 ⊢;cases j with
 |
  zero =>
  have cc:=SI hp2;rw[X7,X7,Tv]at hp3;rw[X7,Tv]at hp4;rw[hp3]at cc;exact Ux [.f Fp,.k cc] rfl (by rw[hp4];rfl) trivial
 |
  succ j =>
  obtain⟨d,hd⟩:=gxE (l:=(Ho x)) (i:=j) Fj;have hd9:=D9 x d (Qa hd);have hdd:=YU hd;obtain⟨hq1,hq2,hq3⟩:=tG (V:=S9 ((Ho x).drop (j+1))) (kd:=y) (d:=d) hy0;rw[<-hdd]at hq1 hq2;have hq3:=hq3 hd9;obtain⟨rr,hrr0⟩:=nmE (S9 ((Ho x).drop (j+1)) % y);have hrr:rr<y:=by rw[hrr0];exact Xi _ hy0
  rw[<-hrr0]at hp4 hq1 hq2 hq3;subst hp4;have hrl:(Ho rr).length<=(Ho y).length:=YV Fj;have hR:rr*10000+d<y*10000:=Fj;have hRs:=Qn6 hR;have hdv:Dg (d::Ho rr):=λz hz=>by
   rcases Qk.1 hz with rfl|hz
   ·exact hd9
   ·exact D9 rr z hz
  have cc:=SI hdv;rw[show S9 (d::Ho rr)=rr*10000+d from by simp only[S9];rw[Tv];omega]at cc;have hol:(Dm o).length=(Ho x).length:=by rw[Pn,hp1]
  have hrrl:=Pn (Ho rr);have ej:((j+1:Nat):Int)-1=(j:Int):=Fj;rw[ej];refine go tt [.T,.x (Re hd),.lo,.s (sz:=1) (Qxy (Ho rr)),.k cc] rfl (by simp[Gd,HZ];omega) ?_;refine U0 (S:=Nat×Nat) 2 (λL1 s=>(9,.v (.oi (s.1:Int)))::(10,.v (.oi (s.2:Int)))::L1) (λ_=>[.row false 3 1 (Dm o),.gone]) (λs=>s.2-s.1) (λs=>s.1<=s.2/\s.2<=9999/\y*s.1<=rr*10000+d/\rr*10000+d<y*(s.2+1)) (0,9999) ⟨Fl,Fl,Ft,Ft⟩ rfl rfl λs hs=>?_
  obtain⟨lo,hi⟩:=s;obtain⟨hb0,hb1,hb2,hb3⟩:=hs;dsimp only at hb0 hb1 hb2 hb3 ⊢;by_cases h2:lo<hi
  ·obtain⟨m,hm⟩:=nmE ((lo+hi+1) / 2);have hym:y*m<=y*10000:=Zv y Fj;have c1:=GL (x:=y) (mu:=m) (c0:=0) Fj Fj Fj;have c2:=cO (x:=y*m+0) (y:=rr*10000+d) (Qc (Tx (show _<=y*10000 by omega)) (Qc (Qf8 y) Fj)) Fj;by_cases h3:y*m+0<=rr*10000+d
   ·refine go tt [.T,.r 35 (eI (b:=((lo+hi:Nat):Int)) Fj),.r 36 (eI (b:=((lo+hi+1:Nat):Int)) Fj),.r 37 (eI (b:=(m:Int)) (by rw[hm];rfl)),.k c1,.k c2,.t (decide_eq_true (Qav.2 h3))] rfl (by simp[Gd,FI,-Int.natCast_add];omega) ?_;exact rd (m,hi) Ft ⟨Ft,hb1,Ft,hb3⟩ rfl
   ·refine go tt [.T,.r 35 (eI (b:=((lo+hi:Nat):Int)) Fj),.r 36 (eI (b:=((lo+hi+1:Nat):Int)) Fj),.r 37 (eI (b:=(m:Int)) (by rw[hm];rfl)),.k c1,.k c2,.f (decide_eq_false λh=>h3 (Qav.1 h)),.r 46 (eI (b:=((m-1:Nat):Int)) Fj)] rfl (by simp[Gd,FI,-Int.natCast_add];omega) ?_;exact rd (lo,m-1) Ft ⟨Ft,Ft,hb2,by dsimp only;rw[show m-1+1=m by omega];omega⟩ rfl
  ·have hlh:lo=hi:=Fj;have hfd:=Qet hb2 (by rw[hlh];exact hb3);have c1:=GL (x:=y) (mu:=lo) (c0:=0) Fj Fj Fj;have c2:=dV (x:=rr*10000+d) (y:=y*lo+0) Fj (Qc (Tx (show _<=rr*10000+d by omega)) Fj) Fj;rw[show rr*10000+d-(y*lo+0)=S9 ((Ho x).drop j) % y from by rw[hq2,hfd.2];omega]at c2;refine go tt [.F,.i j,.k c1,.k c2] rfl (by simp[Gd,hol,tdn,FI,-Int.natCast_add];omega) ?_;exact rd (j,Ho (S9 ((Ho x).drop j) % y),o.set j lo) Ft ⟨Ft,by dsimp only;rw[List.length_set];exact hp1,hp2.set Fj,by
    dsimp only;rw[PK Fj];simp only[S9];rw[hp3,hq1,hfd.1],rfl⟩ (by rw[XT];rfl)
variable{a b:Int}
theorem Qtx(h:(decide (a<0) == decide (b<0))=true):Gi (decide (a<0)) (a.natAbs+b.natAbs)=a+b:=by
 unfold Gi;by_cases h1:a<0 <;> by_cases h2:b<0 <;> simp[h1,h2]at h ⊢ <;> omega
theorem Qtz(h:¬(decide (a<0) == decide (b<0))=true)(hl:b.natAbs<=a.natAbs):Gi (decide (a<0)) (a.natAbs-b.natAbs)=a+b:=by
 unfold Gi;by_cases h1:a<0 <;> by_cases h2:b<0 <;> simp[h1,h2]at h ⊢ <;> omega
theorem Qno(h:¬(decide (a<0) == decide (b<0))=true)(hl:¬b.natAbs<=a.natAbs):Gi (decide (b<0)) (b.natAbs-a.natAbs)=a+b:=by
 unfold Gi;by_cases h1:a<0 <;> by_cases h2:b<0 <;> simp[h1,h2]at h ⊢ <;> omega
theorem WU(a:Int):(∃m:Nat,a=(m:Int))\/∃m:Nat,a=-(m:Int)/\0<m:=by
 rcases Kv a 0 with h|h
 ·exact .inr ⟨a.natAbs,Fj,Fj⟩
 ·exact .inl ⟨a.natAbs,Fj⟩
theorem TS(a b:Int):Gi (!(decide (a<0) == decide (b<0))) (a.natAbs*b.natAbs)=a*b:=by
 rcases WU a with⟨m,rfl⟩|⟨m,rfl,hm⟩ <;> rcases WU b with⟨n,rfl⟩|⟨n,rfl,hn⟩
 ·simp[Gi,show ¬((m:Int)<0) by omega,show ¬((n:Int)<0) by omega]
 ·simp[Gi,show ¬((m:Int)<0) by omega,show(-(n:Int)<0) by omega,hn,Kn]
 ·simp[Gi,show(-(m:Int)<0) by omega,show ¬((n:Int)<0) by omega,hm,Ko]
 ·simp[Gi,show(-(m:Int)<0) by omega,show(-(n:Int)<0) by omega,hm,hn,Up]
theorem Qty(h:a % b=0):Gi (!(decide (a<0) == decide (b<0))) (a.natAbs / b.natAbs)=a / b:=by
 by_cases hb:b=0
 ·subst hb;simp[Gi]
 obtain⟨c,rfl⟩:=V0 h;rw[Jw _ hb,Ys,Nat.mul_div_cancel_left _ Fj];rcases WU b with⟨n,rfl⟩|⟨n,rfl,hn⟩ <;> rcases WU c with⟨m,rfl⟩|⟨m,rfl,hm⟩
 ·have:¬((n:Int)*(m:Int)<0):=by rw[<-V2];omega
  simp[Gi,this,show ¬((n:Int)<0) by omega]
 ·have h1:0<n*m:=Yn Fj hm;have:((n:Int)*-(m:Int)<0):=by rw[Kn,<-V2];omega
  simp only[this,show ¬((n:Int)<0) by omega];simp[Gi]
 ·by_cases h0:m=0
  ·subst h0;simp[Gi]
  ·have h1:0<n*m:=Yn hn Fj;have:(-(n:Int)*(m:Int)<0):=by rw[Ko,<-V2];omega
   simp only[this,show(-(n:Int)<0) by omega];simp[Gi]
 ·have:¬(-(n:Int)*-(m:Int)<0):=by rw[Up,<-V2];omega
  simp only[this,show(-(n:Int)<0) by omega];simp[Gi]
theorem Qau{x y:Nat}:0<=JB x y↔y<=x:=by
 unfold JB;constructor
 ·intro h;split at h
  ·omega
  ·omega
 ·intro h;split
  ·omega
  ·split <;> omega
theorem AZ{x e:Nat}(h:(Ho x).length=1)(he:(Ho x)[0]? = some e):x=e:=by
 rcases hd:Ho x with _|⟨u,l⟩
 ·rw[hd]at h;cases h
 ·rcases l with _|⟨w,l⟩
  ·rw[hd]at he;simp at he;have:=Tv x;rw[hd]at this;simp[S9]at this;omega
  ·rw[hd]at h;simp at h
theorem lU(hb:0<b):ri (a / ((Int.gcd a b:Nat):Int))++ri (b / ((Int.gcd a b:Nat):Int))=fr (Rat.divInt a b):=by
 obtain⟨h1,h2⟩:=Qb0 (n:=a) hb;rw[E7,Int.gcd_comm]at h1 h2;rw[h1,h2]
theorem lF(a:Int):ri a++ri 1=fr (Rat.divInt a 1):=by
 have h:=lU (a:=a) (b:=1) Fl;rw[show((Int.gcd a 1:Nat):Int)=1 by simp]at h;simpa using h
theorem jY(hb:b≠0)(ha2:Gl a<=90000000)(hb2:Gl b<=90000000):Gl ((Int.gcd a b:Nat):Int)<=90000000/\((Int.gcd a b:Nat):Int)≠0/\a % ((Int.gcd a b:Nat):Int)=0/\b % ((Int.gcd a b:Nat):Int)=0:=by
 have h1:=Qbm (n:=a) hb hb2;have h2:=sW (n:=a) hb;have h3:=IJ a b;have h4:=IY a b;rw[E7,Int.gcd_comm]at h1 h2 h3 h4;exact⟨h1,Fj,h3,h4⟩
theorem yG(h:b<0):Hm a b=Rat.divInt (-a) (-b):=by
 unfold Hm;rw[if_neg Fj];exact(Rat.neg_divInt_neg a b).symm
theorem yH(h:0<b):Hm a b=Rat.divInt a b:=by
 unfold Hm;rw[if_neg Fj]
theorem zF(a b:Rat):Hm (a.num*(b.den:Int)+b.num*(a.den:Int)) ((a.den:Int)*(b.den:Int))=a+b:=by
 unfold Hm;rw[if_neg (Jy (Ef a) (Ef b)),<-Rat.divInt_add_divInt _ _ (Ef a) (Ef b),Xj,Xj]
theorem jM(a b:Rat):Hm (a.num*b.num) ((a.den:Int)*(b.den:Int))=a*b:=by
 unfold Hm;rw[if_neg (Jy (Ef a) (Ef b)),<-Rat.divInt_mul_divInt,Xj,Xj]
theorem yF{a b:Rat}(h:b≠0):Hm (a.num*(b.den:Int)) ((a.den:Int)*b.num)=a / b:=by
 have hn:b.num≠0:=λe=>h (Rat.num_eq_zero.1 e)
 unfold Hm;rw[if_neg (Jy (Ef a) hn),<-Rat.divInt_mul_divInt,Xj,Yo];congr 1
 conv=>rhs;rw[<-Xj b,Rat.inv_divInt]
theorem Qze{s:Nat}{a b:Rat}(ha:Qs s a)(hb:Qs s b):Qs (2*s+1) (a+b):=by
 rw[<-zF];unfold Hm;rw[if_neg (Jy (Ef a) (Ef b))];refine Qs.divInt (Qc (XC _ _) ?_) (Qc (Hb _ _) (by have:=ha.2;have:=hb.2;omega)) Fj;have h1:=Hb a.num (b.den:Int);have h2:=Hb b.num (a.den:Int);have:=ha.1;have:=ha.2;have:=hb.1;have:=hb.2;omega
theorem dU(ha:Gl a<=200000000)(hb:Gl b<=200000000):U3 50 [.agg (ri a),.agg (ri b)] [.agg (ri (a+b))]:=by
 by_cases hs:(decide (a<0) == decide (b<0))=true
 ·have cm:=Cw (decide (a<0)) (a.natAbs+b.natAbs);rw[Qtx hs]at cm;exact Uy func50 rfl [.t hs,.k (Qwl ha hb),.k cm] rfl
 ·have hs':(decide (a<0) == decide (b<0))=false:=by simpa using hs
  by_cases hl:b.natAbs<=a.natAbs
  ·have cm:=Cw (decide (a<0)) (a.natAbs-b.natAbs);rw[Qtz hs hl]at cm;exact Uy func50 rfl [.f hs',.k (cO ha hb),.t (decide_eq_true (Qau.2 hl)),.k (dV ha hb hl),.k cm] rfl
  ·have cm:=Cw (decide (b<0)) (b.natAbs-a.natAbs);rw[Qno hs hl]at cm;exact Uy func50 rfl [.f hs',.k (cO ha hb),.f (decide_eq_false λh=>hl (Qau.1 h)),.k (dV hb ha Fj),.k cm] rfl
theorem Qio(ha:Gl a<=200000000)(hb:Gl b<=200000000):U3 132 [.agg (ri a),.agg (ri b)] [.agg (ri (a-b))]:=by
 have ca:=dU (a:=a) (b:=-b) ha (by rw[Te];exact hb);rw[show a+-b=a-b from Fj]at ca;exact Uy func132 rfl [.k (XK (z:=b)),.k ca] rfl
theorem Iw(ha:Gl a<=200000000)(hb:Gl b<=200000000):U3 51 [.agg (ri a),.agg (ri b)] [.agg (ri (a*b))]:=by
 have cm:=Cw (!(decide (a<0) == decide (b<0))) (a.natAbs*b.natAbs);rw[TS]at cm;exact Uy func51 rfl [.k (Qww ha hb),.k cm] rfl
theorem EG(ha:Gl a<=90000000)(hb:Gl b<=90000000)(h0:b≠0)(hd:a % b=0):U3 104 [.agg (ri a),.agg (ri b)] [.agg (ri (a / b))]:=by
 have cm:=Cw (!(decide (a<0) == decide (b<0))) (a.natAbs / b.natAbs);rw[Qty hd]at cm;exact Uy func104 rfl [.k (dX ha hb Fj),.k cm] rfl
theorem Qzh(x:Nat):ri ((x:Nat):Int)=[nd x,.bool false]:=by
 unfold ri sg;rw[Xw,decide_eq_false Fj]
theorem kJ(ha:Gl a<=90000000)(hb:Gl b<=90000000):U3 103 [.agg (ri a),.agg (ri b)] [.agg (ri ((Int.gcd a b:Nat):Int))]:=by
 rw[Qzh];refine G5 func103 rfl ?_;refine Uv [] rfl ?_;refine U0 (S:=Nat×Nat) 3 (λL1 s=>(5,.v (.one (nd s.1)))::(6,.v (.one (nd s.2)))::L1) (λ_=>[.blk 57 (ri a),.blk 57 (ri b),.blk 57 [.nils,.bool false]]) (λs=>s.2) (λs=>Nat.gcd s.1 s.2=Int.gcd a b/\sz s.1<=90000000/\sz s.2<=90000000) (a.natAbs,b.natAbs) ⟨rfl,ha,hb⟩ rfl rfl λs hs=>?_
 obtain⟨x,y⟩:=s;obtain⟨hp0,hp1,hp2⟩:=hs;dsimp only at hp0 hp1 hp2 ⊢;have hyn:=CN (x:=y);have hyl:=HZ y;by_cases h1:y=0
 ·have e:Int.gcd a b=x:=by rw[<-hp0,h1,Nat.gcd_zero_right]
  rw[e];exact Ux [.f (by simp only[Pn];exact decide_eq_false Fj)] rfl
 ·have hlt:=Xi x (show 0<y by omega);refine Uv [.t (by simp only[Pn];exact decide_eq_true Fj),.k (dX hp1 hp2 Fj)] rfl ?_;exact rd (y,x % y) Ft ⟨by dsimp only;rw[<-hp0,Nat.gcd_comm x y,Nat.gcd_rec y x,Nat.gcd_comm],hp2,Nat.le_trans (Tx Ft) hp2⟩ rfl
theorem KF(ha:Gl a<=90000000)(hb:Gl b<=90000000):U3 49 [.agg (ri a),.agg (ri b)] [.agg (fr (Hm a b))]:=by
 rcases Wa b 0 with hs|hs|hs
 ·skip
  by_cases h1:-b=1
  ·have h0:(Dm (Ho (-b).natAbs))[0]? = some [LV.int .i64 1]:=by rw[h1,show(1:Int).natAbs=1 from rfl,Oy];rfl
   have hl1:decide (((Dm (Ho (-b).natAbs)).length:Int)=1)=true:=by rw[h1,show(1:Int).natAbs=1 from rfl,Oy];rfl
   have e:fr (Hm a b)=ri (-a)++ri (-b):=by rw[yG hs,h1];exact(lF _).symm
   rw[e];exact Uy func49 rfl [.k (Eo (z:=b)),.F,.t (decide_eq_true hs),.k (XK (z:=a)),.k (XK (z:=b)),.g 19 true hl1,.x h0,.t rfl] rfl
  ·have hgf:=jY (a:=-a) (b:=-b) Fj (by first|exact ha|(rw[Te];exact ha)) (by first|exact hb|(rw[Te];exact hb));have cg:=kJ (a:=-a) (b:=-b) (by first|exact ha|(rw[Te];exact ha)) (by first|exact hb|(rw[Te];exact hb));have q1:=EG (a:=-a) (b:=((Int.gcd (-a) (-b):Nat):Int)) (by first|exact ha|(rw[Te];exact ha)) hgf.1 hgf.2.1 hgf.2.2.1;have q2:=EG (a:=-b) (b:=((Int.gcd (-a) (-b):Nat):Int)) (by first|exact hb|(rw[Te];exact hb)) hgf.1 hgf.2.1 hgf.2.2.2;have e:fr (Hm a b)=ri ((-a) / ((Int.gcd (-a) (-b):Nat):Int))++ri ((-b) / ((Int.gcd (-a) (-b):Nat):Int)):=by rw[yG hs];exact(lU Fj).symm
   rw[e];have hl:=HZ (-b).natAbs;by_cases hl1:(Ho (-b).natAbs).length=1
   ·obtain⟨u,hu⟩:=gxE (l:=(Ho (-b).natAbs)) (i:=0) Fj;have hue:=AZ hl1 hu;exact Uy func49 rfl [.k (Eo (z:=b)),.F,.t (decide_eq_true hs),.k (XK (z:=a)),.k (XK (z:=b)),.g 19 true (by simp only[Pn];exact decide_eq_true Fj),.x (Re hu),.F,.k cg,.k q1,.k q2] rfl
   ·exact Uy func49 rfl [.k (Eo (z:=b)),.F,.t (decide_eq_true hs),.k (XK (z:=a)),.k (XK (z:=b)),.g 19 false (by simp only[Pn];exact decide_eq_false Fj),.f rfl,.k cg,.k q1,.k q2] rfl
 ·subst hs;have h0:(Dm (Ho (1:Int).natAbs))[0]? = some [LV.int .i64 1]:=by rw[show(1:Int).natAbs=1 from rfl,Oy];rfl
  have h1:decide (((Dm (Ho (1:Int).natAbs)).length:Int)=1)=true:=by rw[show(1:Int).natAbs=1 from rfl,Oy];rfl
  have e:fr (Hm a 0)=ri a++ri 1:=(lF a).symm;rw[e];exact Uy func49 rfl [.k (Eo (z:=0)),.t rfl,.k (JO (n:=1) Fl),.f rfl,.g 19 true h1,.x h0,.t rfl] rfl
 ·skip
  by_cases h1:b=1
  ·have h0:(Dm (Ho (b).natAbs))[0]? = some [LV.int .i64 1]:=by rw[h1,show(1:Int).natAbs=1 from rfl,Oy];rfl
   have hl1:decide (((Dm (Ho (b).natAbs)).length:Int)=1)=true:=by rw[h1,show(1:Int).natAbs=1 from rfl,Oy];rfl
   have e:fr (Hm a b)=ri (a)++ri (b):=by rw[yH hs,h1];exact(lF _).symm
   rw[e];exact Uy func49 rfl [.k (Eo (z:=b)),.F,.F,.g 19 true hl1,.x h0,.t rfl] rfl
  ·have hgf:=jY (a:=a) (b:=b) Fj (by first|exact ha|(rw[Te];exact ha)) (by first|exact hb|(rw[Te];exact hb));have cg:=kJ (a:=a) (b:=b) (by first|exact ha|(rw[Te];exact ha)) (by first|exact hb|(rw[Te];exact hb));have q1:=EG (a:=a) (b:=((Int.gcd (a) (b):Nat):Int)) (by first|exact ha|(rw[Te];exact ha)) hgf.1 hgf.2.1 hgf.2.2.1;have q2:=EG (a:=b) (b:=((Int.gcd (a) (b):Nat):Int)) (by first|exact hb|(rw[Te];exact hb)) hgf.1 hgf.2.1 hgf.2.2.2;have e:fr (Hm a b)=ri ((a) / ((Int.gcd (a) (b):Nat):Int))++ri ((b) / ((Int.gcd (a) (b):Nat):Int)):=by rw[yH hs];exact(lU Fj).symm
   rw[e];have hl:=HZ (b).natAbs;by_cases hl1:(Ho (b).natAbs).length=1
   ·obtain⟨u,hu⟩:=gxE (l:=(Ho (b).natAbs)) (i:=0) Fj;have hue:=AZ hl1 hu;exact Uy func49 rfl [.k (Eo (z:=b)),.F,.F,.g 19 true (by simp only[Pn];exact decide_eq_true Fj),.x (Re hu),.F,.k cg,.k q1,.k q2] rfl
   ·exact Uy func49 rfl [.k (Eo (z:=b)),.F,.F,.g 19 false (by simp only[Pn];exact decide_eq_false Fj),.f rfl,.k cg,.k q1,.k q2] rfl
theorem Qu2{n d:Int}(hn:-1000000000<=n/\n<=1000000000)(hd:-1000000000<=d/\d<=1000000000):U3 17 [.oi n,.oi d] [.agg (fr (Hm n d))]:=by
 have b1:Gl n<=90000000:=Qc (Mm.2 (show n.natAbs<2^40 by omega)) Fl;have b2:Gl d<=90000000:=Qc (Mm.2 (show d.natAbs<2^40 by omega)) Fl;exact Uy func17 rfl [.k (JO Fj),.k (JO Fj),.k (KF b1 b2)] rfl
variable{a:Rat}
theorem Qwy:U3 153 [.agg (fr a)] [.agg (fr (-a))]:=by
 have e:fr (-a)=ri (-a.num)++ri (a.den:Int):=rfl;rw[e];exact Uy func153 rfl [.k (XK (z:=a.num))] rfl
theorem cA{b:Rat}(ha:Qs 20000000 a)(hb:Qs 20000000 b):U3 14 [.agg (fr a),.agg (fr b)] [.agg (fr (a+b))]:=by
 have k1:=Hb a.num (b.den:Int);have k2:=Hb b.num (a.den:Int);have k3:=Hb (a.den:Int) (b.den:Int);have k4:=XC (a.num*(b.den:Int)) (b.num*(a.den:Int));have h1:=ha.1;have h2:=ha.2;have h3:=hb.1;have h4:=hb.2;have cm:=KF (a:=a.num*(b.den:Int)+b.num*(a.den:Int)) (b:=(a.den:Int)*(b.den:Int)) Fj Fj;rw[zF]at cm;exact Uy func14 rfl [.k (Iw (a:=a.num) (b:=(b.den:Int)) Fj Fj),.k (Iw (a:=b.num) (b:=(a.den:Int)) Fj Fj),.k (dU Fj Fj),.k (Iw (a:=(a.den:Int)) (b:=(b.den:Int)) Fj Fj),.k cm] rfl
theorem Qhn{b:Rat}(ha:Qs 40000000 a)(hb:Qs 40000000 b):U3 259 [.agg (fr a),.agg (fr b)] [.agg (fr (a*b))]:=by
 have k1:=Hb a.num b.num;have k3:=Hb (a.den:Int) (b.den:Int);have h1:=ha.1;have h2:=ha.2;have h3:=hb.1;have h4:=hb.2;have cm:=KF (a:=a.num*b.num) (b:=(a.den:Int)*(b.den:Int)) Fj Fj;rw[jM]at cm;exact Uy func259 rfl [.k (Iw (a:=a.num) (b:=b.num) Fj Fj),.k (Iw (a:=(a.den:Int)) (b:=(b.den:Int)) Fj Fj),.k cm] rfl
theorem dJ{b:Rat}(ha:Qs 40000000 a)(hb:Qs 40000000 b)(h0:b≠0):U3 218 [.agg (fr a),.agg (fr b)] [.agg (fr (a / b))]:=by
 have k1:=Hb a.num (b.den:Int);have k3:=Hb (a.den:Int) b.num;have h1:=ha.1;have h2:=ha.2;have h3:=hb.1;have h4:=hb.2;have cm:=KF (a:=a.num*(b.den:Int)) (b:=(a.den:Int)*b.num) Fj Fj;rw[yF h0]at cm;exact Uy func218 rfl [.k (Iw (a:=a.num) (b:=(b.den:Int)) Fj Fj),.k (Iw (a:=(a.den:Int)) (b:=b.num) Fj Fj),.k cm] rfl
end Orr
namespace Orr
def L8:U9->U9
 | []=>[]
 |
  x::l=>match L8 l with
  | []=>if x=0 then []else [x]
  |y::k=>x::y::k
theorem VB:∀{l:U9},(∀x∈l,x=0)->L8 l=[]
 | [],_=>rfl
 |
  x::l,h=>by
  have ih:=VB (l:=l) (λy hy=>h y (Qh _ hy));simp[L8,ih,h x (Qw ..)]
theorem OO:∀{l:U9} {m:Nat} {y:Rat},(∀j x,m<j->l[j]? = some x->x=0)->l[m]? = some y->y≠0->L8 l=l.take (m+1)
 | [],m,y,_,h,_=>by simp at h
 |
  x::l,0,y,h1,h2,h3=>by
  have h0:L8 l=[]:=VB λz hz=>by
   obtain⟨j,hj⟩:=Zk.1 hz;exact h1 (j+1) z Fj (by simpa using hj)
  simp at h2;subst h2;simp[L8,h0,h3]
 |
  x::l,m+1,y,h1,h2,h3=>by
  have ih:=OO (l:=l) (m:=m) (y:=y) (λj z hj hz=>h1 (j+1) z Fj (by simpa using hz)) (by simpa using h2) h3;cases hl:l with
  |nil=>subst hl;simp at h2
  |
   cons u k =>
   subst hl;rw[Vy]at ih;simp only[L8]at ih ⊢;rw[ih];simp
theorem yB{l:U9}{m:Nat}(hm:m<=l.length)(h1:∀j x,m<=j->l[j]? = some x->x=0)(h2:0<m->∃y,l[m-1]? = some y/\y≠0):L8 l=l.take m:=by
 rcases Q4 m with h0|h0
 ·subst h0;rw[VB λz hz=>?_];rfl;obtain⟨j,hj⟩:=Zk.1 hz;exact h1 j z Fj hj
 ·obtain⟨y,hy,hy0⟩:=h2 h0;have:=OO (l:=l) (m:=m-1) (y:=y) (λj x hj hx=>h1 j x Fj hx) hy hy0;rwa[show m-1+1=m from Fj]at this
theorem yD:∀(l:U9),∀z∈L8 l,z∈l
 | [],z,h=>h
 |
  x::l,z,h=>by
  simp only[L8]at h;have ih:=yD l
  split at h
  ·split at h
   ·cases h
   ·simp at h;simp[h]
  ·rename_i y k e;rw[e]at ih;rcases Qk.1 h with h|h
   ·simp[h]
   ·exact Qh _ (ih z h)
theorem yC:∀(l:U9),(L8 l).length<=l.length
 | []=>Qm _
 |
  x::l=>by
  have ih:=yC l;simp only[L8]
  split
  ·split <;> simp
  ·rename_i y k e;rw[e]at ih;simp at ih ⊢;omega
def zp(p:U6):U9:=p.map λ(z:Int)=>(z:Rat)
theorem Ic:∀(p:U6),L8 (zp p)=zp (trim p)
 | []=>rfl
 |
  x::l=>by
  have ih:=Ic l;unfold zp at ih ⊢;simp only[Xa,L8,trim,ih];cases h:trim l with
  |
   nil =>
   simp only[Jq];by_cases hx:x=0
   ·subst hx;simp
   ·have:(x:Rat)≠0:=λe=>hx (by exact_mod_cast e)
    simp[hx,this]
  |cons y k=>simp
theorem As(p:U6):(zp p).length=p.length:=Ze _
variable{i:Nat}{z:Int}
theorem Qo0{p:U6}(h:p[i]? = some z):(zp p)[i]? = some (z:Rat):=by simp[zp,h]
theorem LK(p:U6)(i:Nat):(zp p).getD i 0=((p.getD i 0:Int):Rat):=by
 simp only[Qj,zp,Zb];cases p[i]? <;> rfl
def Rb(s:Nat)(p:U9):Prop:=∀q∈p,Qs s q
variable{p:U9}{s:Nat}
theorem Rb.mono{t:Nat}(h:Rb s p)(ht:s<=t):Rb t p:=λq hq=>(h q hq).mono ht
theorem Rb.get(h:Rb s p){q:Rat}(hq:p[i]? = some q):Qs s q:=h q (Qa hq)
theorem Of(h:Gl z<=s)(h1:1<=s):Qs s (z:Rat):=⟨by simpa using h,Qc (show Gl ((1:Nat):Int)<=1 by decide) h1⟩
theorem yR{p:U6}(h:Bd s p)(h1:1<=s):Rb s (zp p):=λq hq=>by
 obtain⟨z,hz,rfl⟩:=Q8.1 hq;exact Of (h z hz) h1
theorem Qtg(h1:1<=s):Qs s 0:=Of (z:=0) (by simp[Ce]) h1
theorem Rb.getD(h:Rb s p)(h1:1<=s)(i:Nat):Qs s (p.getD i 0):=by
 rw[Qj];cases e:p[i]? with
 |none=>exact Qtg h1
 |some q=>exact h.get e
theorem Rb.trim(h:Rb s p):Rb s (L8 p):=λq hq=>h q (yD p q hq)
def WL(f:Nat->Rat)(n:Nat):U9:=(List.range n).map f
theorem qU(f:Nat->Rat)(n:Nat):(WL f n).length=n:=by simp[WL]
theorem vZ(f:Nat->Rat)(n:Nat):WL f (n+1)=WL f n++[f n]:=by simp[WL,Wv]
variable{f:Nat->Rat}
theorem Qt7{n:Nat}(h:∀i,i<n->Qs s (f i)):Rb s (WL f n):=λq hq=>by
 obtain⟨i,hi,rfl⟩:=Q8.1 hq;exact h i (K7.1 hi)
theorem fY{g:Nat->Int}(n:Nat)(h:∀i,i<n->f i=(g i:Rat)):WL f n=zp ((List.range n).map g):=by
 simp only[WL,zp,List.map_map];exact Xx λi hi=>h i (K7.1 hi)
def Qfz(p q:U9):U9:=L8 (WL (λi=>p.getD i 0+q.getD i 0) (max p.length q.length))
def JX(p:U9)(c:Rat):U9:=L8 (WL (λi=>p.getD i 0*c) p.length)
def uE(p:U9):U9:=JX p (-1)
def Qvy(p q:U9):U9:=Qfz p (uE q)
theorem Qti(p q:U6):Qfz (zp p) (zp q)=zp (Eh p q):=by
 unfold Qfz Eh Ol;rw[fY (g:=λk=>p.getD k 0+q.getD k 0) _ λi _=>by rw[LK,LK,Ku],Ic,As,As]
theorem yM(p:U6)(c:Int):JX (zp p) (c:Rat)=zp (Gy p c):=by
 unfold JX Gy Ol;rw[fY (g:=λk=>p.getD k 0*c) _ λi _=>by rw[LK,Ji],Ic,As]
theorem aV(p:U6):Gy p (-1)=Pp p:=by
 unfold Gy Pp Ol;congr 2;funext k;omega
theorem Qcw(p:U6):uE (zp p)=zp (Pp p):=by
 rw[<-aV,<-yM];rfl
theorem tI{p q:U6}(hp:Gk p)(hq:Gk q)(h:∀k,p.getD k 0=q.getD k 0):p=q:=by
 have key:∀{p q:U6},Gk q->(∀k,p.getD k 0=q.getD k 0)->q.length<=p.length:=by
  intro p q hq h;rcases Zc p.length q.length with h1|h1
  ·have h2:=Tt hq Fj;rw[<-h,Qj,Qy Fj]at h2;exact(h2 rfl).elim
  ·exact h1
 exact AB (V4 (key hp λk=>(h k).symm) (key hq h)) λj _=>h j
theorem lQ{n m:Nat}{f g:Nat->Int}(hn:n<=m)(h:∀k,k<n->f k=g k)(h0:∀k,n<=k->k<m->g k=0):Ol n f=Ol m g:=by
 refine tI (Gw _ _) (Gw _ _) λk=>?_
 rw[Mj,Mj];by_cases h1:k<n
 ·rw[if_pos h1,if_pos Fj,h k h1]
 ·rw[if_neg h1];by_cases h2:k<m
  ·rw[if_pos h2,h0 k Fj h2]
  ·rw[if_neg h2]
theorem Qtq(p q:U6):Qvy (zp p) (zp q)=zp (B7 p q):=by
 unfold Qvy;rw[Qcw,Qti];congr 1;have hl:=ZZ q;unfold Eh B7;refine lQ Fj (λk _=>?_) λk h1 h2=>?_
 ·unfold Pp;rw[Mj]
  split
  ·omega
  ·rename_i h;have:q.getD k 0=0:=by rw[Qj,Qy Fj];rfl
   omega
 ·have h3:p.getD k 0=0:=by rw[Qj,Qy Fj];rfl
  have h4:(Pp q).getD k 0=0:=by rw[Qj,Qy Fj];rfl
  unfold Pp at h4;rw[Mj]at h4
  split at h4
  ·omega
  ·have:q.getD k 0=0:=by rw[Qj,Qy Fj];rfl
   omega
end Orr
namespace Orr
open Go Go.Proofs Tryz
set_option maxRecDepth 10000
def frow(p:U9):Fc:=p.map fr
theorem Cc(p:U9):(frow p).length=p.length:=by simp[frow]
variable{p:U9}{i:Nat}
theorem QA{q:Rat}(h:p[i]? = some q):(frow p)[i]? = some (fr q):=Rm h
theorem jX(p:U9)(q:Rat):frow (p++[q])=frow p++[fr q]:=by simp[frow]
theorem Qe4(p:U9):∀c∈frow p,c.length=4:=λc hc=>by obtain⟨x,_,rfl⟩:=Q8.1 hc;rfl
abbrev rp(p:U9):LV:=.row (frow p)
theorem Qfp(q:Rat):∀c∈[fr q],c.length=4:=λc hc=>by rw[Ql.1 hc];rfl
theorem Qin:U3 216 [] [.agg (fr 0)]:=Uy func216 rfl [.k (SC (n:=0) Fl)] rfl
theorem YZ:U3 152 [.one (rp p)] [.one (rp (L8 p))]:=by
 refine G5 func152 rfl (ln 0 rfl rfl λhl=>?_);rw[Cc]at hl;have Dz:=Cc p;refine Uv [] rfl ?_;refine lp (S:=Nat) 0 (λL1 n=>(3,.v (.oi n))::L1) (λ_=>[]) id (λn=>n<=p.length/\∀j x,n<=j->p[j]? = some x->x=0) (frow p).length ⟨by rw[Dz];exact Qm _,λj x h1 h2=>by
  have:=(Qd.1 h2).1;rw[Dz]at h1;omega⟩ rfl (λ_ _=>rfl) rfl λn hs=>?_
 obtain⟨h1,h2⟩:=hs;cases n with
 |
  zero =>
  have e:=yB h1 (λj x h=>h2 j x h) (λh=>absurd h Fl);exact Ux [.g 8 false Fp,.f rfl,.i 0] rfl (by rw[e];rfl) Fw
 |
  succ n =>
  obtain⟨x,hx⟩:=gxE (l:=p) (i:=n) Fj;have hn:=Rat.num_eq_zero (q:=x);by_cases h0:x=0
  ·refine Uw [.g 8 true Fp,.r 11 (eI (b:=(n:Int)) Fp),.x (QA hx),.k (Eo (z:=x.num)),.t (decide_eq_true (hn.2 h0)),.r 18 (eI (b:=(n:Int)) Fp)] rfl ?_;exact rd n Fp ⟨Fj,λj y h3 h4=>by
    rcases V3 h3 with rfl|h3
    ·rw[hx]at h4;injection h4 with h4;rw[<-h4,h0]
    ·exact h2 j y h3 h4⟩ rfl
  ·have e:=yB h1 (λj x h=>h2 j x h) (λ_=>⟨x,hx,h0⟩);exact Ux [.g 8 true Fp,.r 11 (eI (b:=(n:Int)) Fp),.x (QA hx),.k (Eo (z:=x.num)),.f (decide_eq_false λh=>h0 (hn.1 h)),.i (n+1)] rfl (by rw[e];simp[rp,frow,Yf]) (by simp[Gd,Dz] <;> omega)
theorem Qu6(hi:i<1099511627776):U3 270 [.one (rp p),.oi i] [.agg (fr (p.getD i 0))]:=by
 have Dz:=Cc p;by_cases h:i<p.length
 ·have e:p.getD i 0=p[i]:=by rw[Qj,Qf h];rfl
  rw[e];exact Uy func270 rfl [.g 7 false U4,.F,.x (QA (Qf h))] rfl
 ·have e:p.getD i 0=0:=by rw[Qj,Qy Fj];rfl
  rw[e];exact Uy func270 rfl [.g 7 false U4,.T,.k Qin] rfl
theorem Qi2:U3 82 [.one (ids [1])] [.one (rp (zp [1]))]:=by
 have cc:=YZ (p:=zp [1]);rw[Ic,show trim [1]=[1] from rfl]at cc;refine G5 func82 rfl ?_;refine Uv [.o 3 59 4] rfl ?_;refine U0 (S:=Nat) 1 (λL1 i=>(7,.v (.oi i))::(3,.v (.one (.orow 0 4 none)))::L1) (λi=>[.row false 59 4 (frow ((zp [1]).take i))]) (λi=>1-i) (λi=>i<=1) 0 Fl rfl rfl λi hi=>?_
 rcases(show i=0\/i=1 by omega)with rfl|rfl
 ·refine go tt [.t rfl,.x (l:=idl [1]) (i:=0) (xs:=[.int .i64 1]) rfl,.k (SC (n:=1) Fl),.s (sz:=4) (Qfp _)] rfl (by simp[Gd,frow]) ?_;exact rd 1 Fj Fj rfl
 ·exact Ux [.f rfl,.k cc] rfl
theorem Q1f{p:U6}(hb:Bd 90000000 p)(hl:p.length<=1000000):U3 81 [.one (rp (zp p))] [pr p]:=by
 have Dz:(frow (zp p)).length=p.length:=by rw[Cc,As]
 show U3 81 [.one (rp (zp p))] [.one (.row (p.map Rj))];refine G5 func81 rfl ?_;refine Uv [.o 3 35 2] rfl ?_;refine U0 (S:=Nat) 1 (λL1 i=>(7,.v (.oi i))::(3,.v (.one (.orow 0 2 none)))::L1) (λi=>[.row false 35 2 ((p.take i).map Rj)]) (λi=>p.length-i) (λi=>i<=p.length) 0 (Qg _) rfl rfl λi hi=>?_
 have hol:((p.take i).map Rj).length=i:=by rw[Ze,Qq];omega
 by_cases h:i<p.length
 ·obtain⟨z,hz⟩:=gxE (l:=p) (i:=i) h;have hzb:=hb z (Qa hz);have hq:∀c∈[Rj z],c.length=2:=λc hc=>by rw[Ql.1 hc];rfl
  have hg:(p.take (i+1)).map Rj=(p.take i).map Rj++[Rj z]:=by
   rw[Xb,hz];simp
  refine Uw [.T,.x (QA (Qo0 hz)),.k (Qqp (z:=z) Fj),.s (sz:=2) hq] rfl ?_;exact rd (i+1) Fj h (by rw[hg];rfl)
 ·have e:i=p.length:=Fj;rw[e,Q6];exact Ux [.F] rfl
theorem Qxd{q:U9}(hp:Rb 20000000 p)(hq:Rb 20000000 q)(hlp:p.length<=1000000)(hlq:q.length<=1000000):U3 232 [.one (rp p),.one (rp q)] [.one (rp (Qfz p q))]:=by
 have h1:=Cc p;have h2:=Cc q;obtain⟨M,hM⟩:=nmE (max p.length q.length);have cc:=YZ (p:=WL (λi=>p.getD i 0+q.getD i 0) M);unfold Qfz;rw[<-hM];refine G5 func232 rfl ?_;refine Uv [.o 5 59 4] rfl ?_;refine U0 (S:=Nat) 1 (λL1 i=>(6,.v (.oi i))::(5,.v (.one (.orow 0 4 none)))::L1) (λi=>[.row false 59 4 (frow (WL (λi=>p.getD i 0+q.getD i 0) i))]) (λi=>M-i) (λi=>i<=M) 0 (Qg _) rfl rfl λi hi=>?_
 have hol:(frow (WL (λi=>p.getD i 0+q.getD i 0) i)).length=i:=by rw[Cc,qU]
 by_cases h:i<M
 ·refine go tt [.r 12 (eI (b:=(M:Int)) Fj),.T,.k (Qu6 (p:=p) (i:=i) Fj),.k (Qu6 (p:=q) (i:=i) Fj),.k (cA (hp.getD Fl i) (hq.getD Fl i)),.s (sz:=4) (Qfp _)] rfl (by simp[Gd,hol,-List.getD_eq_getElem?_getD];omega) ?_;exact rd (i+1) Fj h (by rw[vZ,jX];rfl)
 ·have e:i=M:=Fj;rw[e];exact Ux [.r 12 (eI (b:=(M:Int)) Fj),.F,.k cc] rfl
theorem ES{c:Rat}(hp:Rb 40000000 p)(hc:Qs 40000000 c)(hlp:p.length<=1000000):U3 260 [.one (rp p),.agg (fr c)] [.one (rp (JX p c))]:=by
 have h1:=Cc p;have cc:=YZ (p:=WL (λi=>p.getD i 0*c) p.length);unfold JX;refine G5 func260 rfl ?_;refine Uv [.o 5 59 4] rfl ?_;refine U0 (S:=Nat) 2 (λL1 i=>(9,.v (.oi i))::(5,.v (.one (.orow 1 4 none)))::L1) (λi=>[.blk 59 (fr c),.row false 59 4 (frow (WL (λi=>p.getD i 0*c) i))]) (λi=>p.length-i) (λi=>i<=p.length) 0 (Qg _) rfl rfl λi hi=>?_
 have hol:(frow (WL (λi=>p.getD i 0*c) i)).length=i:=by rw[Cc,qU]
 by_cases h:i<p.length
 ·have hg:p[i]? = some (p.getD i 0):=by rw[Qj,Qf h];rfl
  refine go tt [.T,.x (QA hg),.k (Qhn (hp.getD Fl i) hc),.s (sz:=4) (Qfp _)] rfl (by simp[Gd,hol,-List.getD_eq_getElem?_getD];omega) ?_;exact rd (i+1) Fj h (by rw[vZ,jX];rfl)
 ·have e:i=p.length:=Fj;rw[e];exact Ux [.F,.k cc] rfl
theorem Qi1(hp:Rb 40000000 p)(hlp:p.length<=1000000):U3 212 [.one (rp p)] [.one (rp (uE p))]:=by
 have cs:=ES (p:=p) (c:=-1) hp ⟨Fl,Fl⟩ hlp;have co:=SC (n:=-1) Fl;rw[show((-1:Int):Rat)=-1 from rfl]at co;exact Uy func212 rfl [.k co,.k cs] rfl
theorem Qte{s t:Nat}{a b:Rat}(ha:Qs s a)(hb:Qs t b):Qs (s+t+1) (a*b):=by
 rw[<-jM];unfold Hm;rw[if_neg (Jy (Ef a) (Ef b))];have h1:=Hb a.num b.num;have h2:=Hb (a.den:Int) (b.den:Int);have:=ha.1;have:=ha.2;have:=hb.1;have:=hb.2;exact Qs.divInt Fj Fj Fj
theorem Qzg{s:Nat}(hp:Rb s p):Rb (s+2) (uE p):=by
 unfold uE JX;refine Rb.trim (Qt7 λi hi=>?_);have h1:Qs (s+0) (p.getD i 0):=by
  have hi:i<p.length:=hi;rw[Qj,Qf hi];exact hp _ (Jd hi)
 have:=Qte h1 (show Qs 1 (-1:Rat) from⟨Fl,Fl⟩);exact this.mono Fj
theorem Qna(p:U9):(uE p).length<=p.length:=by
 unfold uE JX;exact Qc (yC _) (by rw[qU];exact Qm _)
theorem Qho{a b:Int}(ha:Gl a<=40000000)(hb:Gl b<=40000000):U3 259 [.agg (fr (a:Rat)),.agg (fr (b:Rat))] [.agg (fr ((a*b:Int):Rat))]:=by
 have h:=Qhn (Of ha Fl) (Of hb Fl);rw[<-Ji]at h;exact h
theorem Qwm{a b:Int}(ha:Gl a<=20000000)(hb:Gl b<=20000000):U3 14 [.agg (fr (a:Rat)),.agg (fr (b:Rat))] [.agg (fr ((a+b:Int):Rat))]:=by
 have h:=cA (Of ha Fl) (Of hb Fl);rw[<-Ku]at h;exact h
theorem sV(l:U6)(i:Nat)(z:Int):(frow (zp l)).set i (fr (z:Rat))=frow (zp (l.set i z)):=by simp[frow,zp,Kc]
variable{p:U6}{i:Nat}
theorem Qo1(h:i<p.length):(zp p)[i]? = some ((p.getD i 0:Int):Rat):=Qo0 (Sr h)
theorem P5(h:i<p.length):(frow (zp p))[i]? = some (fr ((p.getD i 0:Int):Rat)):=QA (Qo1 h)
theorem jJ(p:U6):(frow (zp p)).length=p.length:=by rw[Cc,As]
abbrev zR:Fb:=[.nils,.bool false,.nils,.bool false]
theorem wJ{n:Nat}(h:i<n):(List.replicate i (fr 0)++List.replicate (n-i) zR).set i (fr 0)=List.replicate (i+1) (fr 0)++List.replicate (n-(i+1)) zR:=by
 rw[List.set_append_right _ _ Fp,Jx,K0,show n-i=n-(i+1)+1 by omega,Ym (n:=n-(i+1)),List.set_cons_zero,List.replicate_succ' (n:=i),Za];rfl
theorem qR(n:Nat):List.replicate n (fr 0)++List.replicate (n-n) zR=frow (zp (List.replicate n 0)):=by simp[zp,frow]
theorem Qxf{q:U6}{s t:Nat}(hlp:p.length<=1000000)(hlq:q.length<=1000000)(hp:Bd s p)(hq:Bd t q)(hst:s+t<=19000000):U3 215 [.one (rp (zp p)),.one (rp (zp q))] [.one (rp (zp (Hg p q)))]:=by
 have Dz:=jJ p;have hql:=jJ q;rcases Q4 p.length with h0|h0
 ·have e:Hg p q=[]:=by unfold Hg;rw[if_pos (.inl h0)]
  rw[e];exact Uy func215 rfl [.g 12 true U5,.t rfl] rfl
 rcases Q4 q.length with h1|h1
 ·have e:Hg p q=[]:=by unfold Hg;rw[if_pos (.inr h1)]
  rw[e];exact Uy func215 rfl [.g 12 false U4,.T] rfl
 have e:Hg p q=trim (Oc p q (List.replicate (p.length+q.length-1) 0) p.length):=by unfold Hg;rw[if_neg Fj]
 rw[e];obtain⟨N,hN⟩:=nmE (p.length+q.length-1);rw[<-hN];obtain⟨o,ho⟩:=nmE (List.replicate N (0:Int));rw[<-ho];have hol:o.length=N:=by rw[ho];simp
 have ho0:∀m,o.getD m 0=0:=λm=>by rw[ho];exact La N m
 have cc:=YZ (p:=zp (Oc p q o p.length));rw[Ic]at cc;refine G5 func215 rfl ?_;refine Uw [.g 12 false U4,.F,.r 22 (eI (b:=(N:Int)) Fj),.i N,.i N,.r 25 (eI (b:=(N:Int)) Fp)] rfl ?_;refine U0 (S:=Nat) 1 (λL1 i=>(26,.v (.oi i))::L1) (λi=>[.row false 59 4 (List.replicate i (fr 0)++List.replicate (N-i) zR)]) (λi=>N-i) (λi=>i<=N) 0 (Qg _) rfl rfl λi hi=>?_
 by_cases hlt:i<N
 ·refine Uw [.T,.k Qin,.i i] rfl ?_;rw[wJ hlt];exact rd (i+1) Fj hlt rfl
 have hiN:i=N:=Fj;rw[hiN,qR,<-ho];clear hiN hlt hi;refine Uv [.F] rfl ?_;refine U0 (S:=Nat) 1 (λL1 i=>(36,.v (.oi i))::L1) (λi=>[.row false 59 4 (frow (zp (Oc p q o i)))]) (λi=>p.length-i) (λi=>i<=p.length) 0 (Qg _) rfl rfl λi hi=>?_
 by_cases hlt:i<p.length
 ·refine Uv [.T] rfl ?_;refine U0 (S:=Nat) 1 (λL1 k=>(41,.v (.oi k))::L1) (λk=>[.row false 59 4 (frow (zp (ZK (p.getD i 0) q i (Oc p q o i) k)))]) (λk=>q.length-k) (λk=>k<=q.length) 0 (Qg _) rfl rfl λk hk=>?_
  by_cases hk2:k<q.length
  ·have hm1:Gl ((ZK (p.getD i 0) q i (Oc p q o i) k).getD (i+k) 0)<=20000000:=Qc (QK (t:=39) (wL (by rw[Ac];omega) (wC (λj hj=>Fj) ho0 (λi j=>Ch (G0 hp i) (G0 hq j))) (λj=>Ch (G0 hp i) (G0 hq j)) (i+k)) (Kz (show i+1<549755813888 by omega) Fl)) Fj;have hm2:Gl (p.getD i 0*q.getD k 0)<=20000000:=Qc (Hb _ _) (by have:=G0 hp i;have:=G0 hq k;omega);have hml:(ZK (p.getD i 0) q i (Oc p q o i) k).length=N:=by rw[ZW,Ac,hol]
   have cm:=Qho (a:=p.getD i 0) (b:=q.getD k 0) (Qc (G0 hp i) Fj) (Qc (G0 hq k) Fj);have hfl:=jJ (ZK (p.getD i 0) q i (Oc p q o i) k);refine go tt [.T,.i (i+k),.x (P5 (p:=ZK (p.getD i 0) q i (Oc p q o i) k) (i:=i+k) Fj),.x (P5 hlt),.x (P5 hk2),.k cm,.k (Qwm hm1 hm2),.i (i+k)] rfl (by simp[Gd,hfl,-List.getD_eq_getElem?_getD] <;> omega) ?_;rw[sV];exact rd (k+1) Fj hk2 rfl
  ·obtain rfl:k=q.length:=Fj;exact go tt [.F] rfl Fu (rd (i+1) Fj hlt rfl)
 ·obtain rfl:i=p.length:=Fj;exact Ux [.F,.k cc] rfl
def tP(p:U6)(n:Nat):U6:=(List.range n).map λk=>p.getD (k+1) 0*((k+1:Nat):Int)
theorem Qj1(p:U6)(n:Nat):(tP p n).length=n:=by simp[tP]
theorem Qew(p:U6)(n:Nat):tP p (n+1)=tP p n++[p.getD (n+1) 0*((n+1:Nat):Int)]:=by simp[tP,Wv]
theorem fO(p:U6)(z:Int):frow (zp (p++[z]))=frow (zp p)++[fr (z:Rat)]:=by simp[frow,zp]
theorem Qi0(hp:Bd 40000000 p)(hl:p.length<=1000000):U3 211 [.one (rp (zp p))] [.one (rp (zp (H5 p)))]:=by
 have Dz:=jJ p;have cc:=YZ (p:=zp (tP p (p.length-1)));rw[Ic]at cc;refine G5 func211 rfl ?_;refine Uv [.o 3 59 4] rfl ?_;refine U0 (S:=Nat) 1 (λL1 j=>(4,.v (.oi ((j+1:Nat):Int)))::(3,.v (.one (.orow 0 4 none)))::L1) (λj=>[.row false 59 4 (frow (zp (tP p j)))]) (λj=>p.length-j) (λj=>j<=p.length-1) 0 (Qg _) rfl rfl λj hj=>?_
 have hfl:=jJ (tP p j);rw[Qj1]at hfl;by_cases h:j+1<p.length
 ·have hk:Gl ((j+1:Nat):Int)<=40000000:=Qc (wF (t:=38) (k:=j+1) (Kz (show j+1<274877906944 by omega) Fl)) Fl;refine go tt [.T,.x (P5 h),.k (SC (n:=((j+1:Nat):Int)) Fj),.k (Qho (G0 hp (j+1)) hk),.s (sz:=4) (Qfp _)] rfl (by simp[Gd,hfl,-List.getD_eq_getElem?_getD] <;> omega) ?_;exact rd (j+1) Fj Fj (by rw[Qew,fO];rfl)
 ·have e:j=p.length-1:=Fj;rw[e];exact Ux [.F,.k cc] rfl
theorem Qtm:[LV.nils,LV.bool false].map RF=ri 0:=by
 show _=[nd 0,sg 0];unfold nd dl;rw[Tn];rfl
end Orr
