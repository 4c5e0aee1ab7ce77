import Derived.Test.YtpbfkdfffbfabaaGreatPart07
import Derived.Test.YtpbfkdfffbfabaaGreatPart00
import Derived.Test.YtpbfkdfffbfabaaGreatPart04
set_option linter.all false
namespace Orq
open Orr Go
section
variable{α:Type}{lt lt':α->α->Bool}
theorem zY{out:List α}{x:α}(h:∀y∈out,lt x y=lt' x y):∀k,If lt out x k=If lt' out x k
 | 0=>rfl
 |
  k+1=>by
  simp only[If];cases a:out[k]? with
  |none=>rfl
  |some y=>simp only[h y (Qc a),zY h k]
theorem BC{l:List α}(h:∀u∈l,∀v∈l,lt u v=lt' u v):∀(m out:List α),(∀x∈m,x∈l)->(∀x∈out,x∈l)->m.foldl (A9 lt) out=m.foldl (A9 lt') out
 | [],_,_,_=>rfl
 |
  x::m,out,h1,h2=>by
  have e:A9 lt out x=A9 lt' out x:=by
   unfold A9;rw[zY λy a=>h x (h1 x Ft) y (h2 y a)]
  simp only[Xn];rw[e];exact BC h m _ (λy a=>h1 y (Qi _ a)) λy a=>by
   rcases TM.1 a with rfl|a
   .exact h1 _ Ft
   .exact h2 y a
end
variable{a:Tm}{l:List Pt}{q:Rat}
theorem Qar(hb:∀u∈l,∀v∈l,(P0 (G6 a) u v=true↔Ef q u v))(hd:l.Pairwise λx y=>x.id≠y.id):(Ml a l).Pairwise (Ef q) :=
 OD (S:=λx=>x∈l) (D:=λx y=>x.id≠y.id) (UG q) (λu v hu hv h=>(hb u hu v hv).1 h) (λu v hu hv b h=>nT (λe=>b e.symm) λc=>by
  rw[(hb u hu v hv).2 c]at h;cases h) l [] .nil (λx hx=>by cases hx) (λx hx=>hx) hd (λx hx=>by cases hx)
theorem Q0o(ha:Va a){u v:Pt}(hu:Sc u.c)(hv:Sc v.c)(h1:Rp (G6 a) (Ht u.c v.c)=Gu (Gf (Ht u.c v.c) q))(h2:Rp (G6 a) (Hr u.c v.c)=Gu (Gf (Hr u.c v.c) q))(b:u.c≠v.c)(h:Ef q u v):lx (px · q) (py · q) u v:=by
 rcases h with h|⟨h,h3⟩
 .exact .inl h
 rcases h3 with h3|⟨h3,_⟩
 .exact .inr ⟨h,h3⟩
 .exfalso;rw[NE hu hv]at h1;rw[NL hu hv]at h2;have i:Gu (px v q-px u q)=0:=Hy.2 Fu;have g:Gu (py v q-py u q)=0:=Hy.2 Fu;rw[i]at h1;rw[g]at h2;have d:(Ht u.c v.c).length=0:=Decidable.byContradiction λe=>(Ix ha (Cz hu hv).dp e).2 h1
  have f:(Hr u.c v.c).length=0:=Decidable.byContradiction λe=>(Ix ha (Cy hu hv).dp e).2 h2
  exact b (Qux hu.n hv.n (Qg d) (Qg f))
structure LowC(X Y:Pt->Rat)(R L:List Pt):Prop where
 hd:L.head? = R.head?
 la:L.getLast? = R.getLast?
 srt:L.Pairwise (lx X Y)
 mem:∀p∈L,p∈R
 edg:Edg (λa b=>∀p∈R,0≤Dz X Y a b p) L
 cnv:Cnv (λa b c=>0<Dz X Y a b c) L
variable{R:List Pt}
theorem jE{X Y:Pt->Rat}{sg:U8->Int}(hs:∀a∈R,∀b∈R,∀c∈R,(TC sg a b c=true↔0<Dz X Y a b c))(i:R.Pairwise (lx X Y))(h0:R≠[]):LowC X Y R (Nc sg R):=by
 cases R with
 |nil=>exact absurd rfl h0
 |
  cons f R =>
  obtain⟨t,st,h,d,g,j⟩:=jA hs i R [f] f [] rfl ⟨K9 _ _,λp hp=>by rw[Qk.1 hp];simp,trivial,trivial⟩ rfl rfl;have e:Nc sg (f::R)=(t::st).reverse:=by
   unfold Nc;rw[<-h];rfl
  rw[e];exact⟨by rw[List.head?_reverse,j],by rw[List.getLast?_reverse];exact g.symm,Wj.2 d.srt,λp hp=>d.mem p (J3.1 hp),d.edg.rev,d.cnv.rev⟩
theorem Q1b{X Y:Pt->Rat}(b:R.Pairwise (lx X Y)):∀p∈R,∀q∈R,p=q\/lx X Y p q\/lx X Y q p:=λp hp q a=>by
 by_cases e:p=q
 .exact .inl e
 .exact .inr (kU b hp a e)
theorem Qnu{X Y:Pt->Rat}{L L':List Pt}(c:R.Pairwise (lx X Y))(h:LowC X Y R L)(a:LowC X Y R L'):L=L':=by
 have b:=h.hd.trans a.hd.symm;have hl:=h.la.trans a.la.symm;cases L with
 |
  nil=>cases L' with
  |nil=>rfl
  |cons _ _=>simp at b
 |
  cons f M=>cases L' with
  |nil=>simp at b
  |
   cons f' M' =>
   simp at b;subst b;obtain⟨z,hz⟩:∃z,(f::M).getLast? = some z:=⟨_,Ve Ft⟩;rw[Qlp (Q1b c) M M' f h.srt a.srt h.mem a.mem h.edg a.edg h.cnv a.cnv hz (hl ▸ hz)]
theorem dU{x y:Rat}(h:Gu x=Gu y):(0<=x->0<=y)/\(0<x->0<y):=by
 have h1:=Hd x;have h2:=Hd y;grind
theorem pE{X Y d f:Pt->Rat}{R:List Pt}:∀{L:List Pt},(∀p∈L,p∈R)->(∀e∈QM L,∀p∈R,Gu (Dz X Y e.1 e.2 p)=Gu (Dz d f e.1 e.2 p))->Cnv (λa b c=>0<Dz X Y a b c) L->Cnv (λa b c=>0<Dz d f a b c) L
 | [],_,_,_=>trivial
 | [_],_,_,_=>trivial
 | [_,_],_,_,_=>trivial
 |a::b::c::l,hm,he,h=>⟨(dU (he (a,b) (by simp[QM]) c (hm c Ft))).2 h.1,pE (λp hp=>hm p (Qi _ hp)) (λe hx=>he e (Qi _ hx)) h.2⟩
theorem nS{X Y a b:Pt->Rat}{L:List Pt}(h:LowC X Y R L)(hl:∀u∈R,∀v∈R,lx X Y u v->lx a b u v)(he:∀e∈QM L,∀p∈R,Gu (Dz X Y e.1 e.2 p)=Gu (Dz a b e.1 e.2 p)):LowC a b R L :=
 ⟨h.hd,h.la,h.srt.imp_of_mem λhu hv c=>hl _ (h.mem _ hu) _ (h.mem _ hv) c,h.mem,fQ.2 λe hx p hp=>(dU (he e hx p hp)).1 (fQ.1 h.edg e hx p hp),pE h.mem he h.cnv⟩
theorem rJ(X Y:Pt->Rat)(a b c:Pt):Dz (λp=>-X p) (λp=>-Y p) a b c=Dz X Y a b c:=by unfold Dz;grind
theorem gQ{X Y:Pt->Rat}{a b:Pt}:lx (λp=>-X p) (λp=>-Y p) a b↔lx X Y b a:=by unfold lx;grind
theorem Qx9{L:List Pt}{f z:Pt}(h1:L.head? = some f)(h2:L.getLast? = some z)(a:f≠z):∃A,L=f::A++[z]:=by
 cases L with
 |nil=>cases h1
 |
  cons g M =>
  simp at h1;subst h1;cases M with
  |nil=>simp at h2;exact absurd h2 a
  |
   cons x M =>
   rw[Yk]at h2;obtain⟨A,hA⟩:=Vm.1 h2;exact⟨A,by rw[hA];rfl⟩
theorem ON{α β:Type}{f g:α->List β}:∀{m:List α},(∀x∈m,f x=g x)->m.flatMap f=m.flatMap g
 | [],_=>rfl
 |x::m,h=>by rw[Yn,Yn,h x Ft,ON λy a=>h y (Qi _ a)]
theorem nV{a sb:U8->Int}{C:List Pt}(h:∀x∈Dx a l C,Rp sb x.p=Rp a x.p):Dx sb l C=Dx a l C:=by
 by_cases h2:C.length<2
 .unfold Dx;rw[if_pos h2,if_pos h2]
 .have e:∀s,Dx s l C=(Sv C).flatMap (Ou s l):=λs=>if_neg h2
  rw[e]at h ⊢;rw[e];refine ON λx hx=>X5 λc hc=>?_
  have:=h (Ar a x.1 x.2 c) (Zs.2 ⟨x,hx,Kr hc⟩);show(⟨3,x.1.id,x.2.id,c.id,0,Ry x.1.c x.2.c c.c,Rp sb (Ry x.1.c x.2.c c.c)⟩:Ct)=⟨3,x.1.id,x.2.id,c.id,0,Ry x.1.c x.2.c c.c,Rp a (Ry x.1.c x.2.c c.c)⟩;have this:Rp sb (Ry x.1.c x.2.c c.c)=Rp a (Ry x.1.c x.2.c c.c):=this;rw[this]
theorem Qfa(hd:l.Pairwise λx y=>x.id≠y.id){u v:Pt}(hu:u∈l)(hv:v∈l)(h:u.id=v.id):u=v:=by
 refine Classical.byContradiction λe=>?_
 rcases kU hd hu hv e with h'|h'
 .exact h' h
 .exact h' h.symm
structure Soon(l:List Pt)(a:Tm)(q:Rat):Prop where
 g:∀p∈Is l++EL l,Rp (G6 a) p=Gu (Gf p q)
 b:∀u∈l,∀v∈l,(P0 (G6 a) u v=true↔Ef q u v)
 o:∀u∈l,∀v∈l,∀w∈l,Rp (G6 a) (Ry u.c v.c w.c)=Gu (Dz (px · q) (py · q) u v w)
 t:∀u∈l,∀v∈l,∀w∈l,(TC (G6 a) u v w=true↔0<Dz (px · q) (py · q) u v w)
 r:(Ml a (Pq l)).Pairwise (lx (px · q) (py · q))
theorem Qp9(hl:∀p∈l,Sc p.c)(hd:l.Pairwise λx y=>x.id≠y.id)(ha:Va a):∃y,Gt a y=-1/\∀q,Gt a q=-1->q≤y->Soon l a q:=by
 obtain⟨y,m,k⟩:=VO ha (Is l++EL l) λp hp=>(DO hl p hp).dp
 refine⟨y,m,λq i j=>?_⟩;have g:=k q i j;have f:=λp hp=>g p (X9 _ hp)
 have b:∀u∈l,∀v∈l,(P0 (G6 a) u v=true↔Ef q u v):=λu hu v hv=>AY ha (hl u hu) (hl v hv) (f _ (Md hu hv).1) (f _ (Md hu hv).2)
 have o:∀u∈l,∀v∈l,∀w∈l,Rp (G6 a) (Ry u.c v.c w.c)=Gu (Dz (px · q) (py · q) u v w):=λu hu v hv w d=>by
  rw[g _ (Jv _ (sP hu hv d)),Qay (hl u hu) (hl v hv) (hl w d)]
 refine⟨g,b,o,λu hu v hv w d=>?_,?_⟩
 .unfold TC;rw[o u hu v hv w d,decide_eq_true_eq];have:=Hd (Dz (px · q) (py · q) u v w);grind
 .have d:∀u∈Pq l,u∈l:=λu hu=>Dh hu
  have h1:=Qar (a:=a) (l:=Pq l) (q:=q) (λu hu v hv=>b u (d u hu) v (d v hv)) (List.Pairwise.sublist (Qqt l) hd);have h2:(Ml a (Pq l)).Pairwise λx y=>x.c≠y.c:=(List.Perm.pairwise_iff (λ{x y} h e=>h e.symm) (Qa5 (lt:=P0 (G6 a)) (Pq l))).2 (Qwi l)
  refine(h1.and h2).imp_of_mem λ{u v} hu hv h=>?_
  have hu:=d u (Tk.1 hu);have hv:=d v (Tk.1 hv);exact Q0o ha (hl u hu) (hl v hv) (f _ (Md hu hv).1) (f _ (Md hu hv).2) h.2 h.1
theorem Qfc(hl:∀p∈l,Sc p.c)(hd:l.Pairwise λx y=>x.id≠y.id)(ha:Va a):∃q,Soon l a q :=
 let⟨y,h1,h2⟩:=Qp9 hl hd ha
 ⟨y,h2 y h1 Qp⟩
theorem ID(S:Soon l a q)(h3:3<=(Ml a (Pq l)).length):∃f z A B,Nc (G6 a) (Ml a (Pq l))=f::A++[z]/\Nc (G6 a) (Ml a (Pq l)).reverse=z::B++[f]/\LowC (px · q) (py · q) (Ml a (Pq l)) (f::A++[z])/\LowC (λp=>-px p q) (λp=>-py p q) (Ml a (Pq l)).reverse (z::B++[f])/\Sv (Nm l a)=QM (f::A++[z])++QM (z::B++[f])/\2<=(Nm l a).length:=by
 obtain⟨R,m⟩:=nmE (Ml a (Pq l));have hm:∀x∈R,x∈l:=λx hx=>by rw[m]at hx;exact Dh (Tk.1 hx)
 have r:=S.r;rw[<-m]at r h3 ⊢;have h0:R≠[]:=λe=>by rw[e]at h3;simp at h3
 have d:=jE (sg:=G6 a) (λu hu v hv w j=>S.t u (hm u hu) v (hm v hv) w (hm w j)) r h0;have r2:R.reverse.Pairwise (lx (λp=>-px p q) (λp=>-py p q)):=Wj.2 (r.imp λh=>gQ.2 h);have i:=jE (sg:=G6 a) (R:=R.reverse) (X:=λp=>-px p q) (Y:=λp=>-py p q) (λu hu v hv w j=>by
  rw[rJ (px · q) (py · q)];exact S.t u (hm u (J3.1 hu)) v (hm v (J3.1 hv)) w (hm w (J3.1 j))) r2 (by simpa using h0)
 obtain⟨f,c⟩:∃f,R.head? = some f:=by cases R with
  |nil=>exact absurd rfl h0
  |cons f _=>exact⟨f,rfl⟩
 obtain⟨z,hz⟩:∃z,R.getLast? = some z:=⟨_,Ve h0⟩;have b:f≠z:=λe=>by
  subst e;cases R with
  |nil=>exact absurd rfl h0
  |
   cons g M =>
   simp at c;subst c;cases M with
   |nil=>simp at h3
   |
    cons x M =>
    rw[Yk]at hz;exact Ia _ ((Zk.1 r).1 g (Kj hz))
 obtain⟨A,hA⟩:=Qx9 (d.hd.trans c) (d.la.trans hz) b;obtain⟨B,k⟩:=Qx9 (i.hd.trans (by rw[List.head?_reverse];exact hz)) (i.la.trans (by rw[List.getLast?_reverse];exact c)) (Ne.symm b);have hc:Nm l a=(f::A++[z]).dropLast++(z::B++[f]).dropLast:=by
  unfold Nm Ii;rw[<-m,if_neg Fo,hA,k]
 rw[hA]at d;rw[k]at i;refine⟨f,z,A,B,hA,k,d,i,by rw[hc];exact mN,?_⟩;rw[hc,Kh,Kh];simp;omega
theorem Qhh(hl:∀p∈l,Sc p.c)(hd:l.Pairwise λx y=>x.id≠y.id){b:Tm}(ha:Va a)(hb:Va b)(h:∀x∈EI l a,Rp (G6 b) x.p=Rp (G6 a) x.p):Nm l b=Nm l a/\EI l b=EI l a:=by
 obtain⟨q,D⟩:=Qfc hl hd ha;obtain⟨r,E⟩:=Qfc hl hd hb;obtain⟨Q,V⟩:=dJ hl hd ha hb λx hx=>h x (X9 _ hx)
 have O:=Qar D.b hd;have pb:=Qar E.b hd;rw[Q]at pb;have J:=O.and pb;have j:∀u∈l,∀v∈l,(Ef q u v↔Ef r u v):=λu hu v hv=>by
  by_cases e:u=v
  .subst e;exact⟨λh=>absurd h (KG _ _),λh=>absurd h (KG _ _)⟩
  .rcases kU J (Tk.2 hu) (Tk.2 hv) e with h'|h'
   .exact⟨λ_=>h'.2,λ_=>h'.1⟩
   .exact⟨λh=>absurd (UG _ _ _ _ h h'.1) (KG _ _),λh=>absurd (UG _ _ _ _ h h'.2) (KG _ _)⟩
 have L:∀u∈l,∀v∈l,P0 (G6 b) u v=P0 (G6 a) u v:=λu hu v hv=>by
  have h1:=D.b u hu v hv;have h2:=E.b u hu v hv;have h3:=j u hu v hv;cases i:P0 (G6 a) u v <;> cases g:P0 (G6 b) u v <;> rw[i]at h1 <;> rw[g]at h2 <;> simp_all
 have s:Ml b (Pq l)=Ml a (Pq l):=BC (l:=Pq l) (λu hu v hv=>L u (Dh hu) v (Dh hv)) (Pq l) [] (λx hx=>hx) λx hx=>by cases hx
 have hm:∀x∈Ml a (Pq l),x∈l:=λx hx=>Dh (Tk.1 hx)
 have I:=E.r;rw[s]at I;have hc:Nm l b=Nm l a:=by
  by_cases h3:(Ml a (Pq l)).length<3
  .unfold Nm Ii;rw[s,if_pos h3,if_pos h3]
  .obtain⟨f,z,A,B,hA,W,T,P,N,U⟩:=ID D Fo;obtain⟨Z,z',A',B',m,F,w,t,R,_⟩:=ID E (by rw[s];omega);rw[s]at m F w t;have G:∀e∈Sv (Nm l a),∀p∈Ml a (Pq l),Gu (Dz (px · q) (py · q) e.1 e.2 p)=Gu (Dz (px · r) (py · r) e.1 e.2 p):=λe he p hp=>by
    obtain⟨n,k⟩:=BM he;have n:=XZ n;have k:=XZ k;have H:=hm p hp;by_cases M:FV e p=true
    .have hx:Ar (G6 a) e.1 e.2 p∈EI l a:=by
      refine Jv _ ?_;unfold Dx;rw[if_neg Fo];exact Zs.2 ⟨e,he,Kr (Y7.2 ⟨H,M⟩)⟩
     have hg:Rp (G6 b) (Ry e.1.c e.2.c p.c)=Rp (G6 a) (Ry e.1.c e.2.c p.c):=h _ hx;rw[<-D.o _ n _ k _ H,<-E.o _ n _ k _ H,hg]
    .have hz:∀X Y:Pt->Rat,Dz X Y e.1 e.2 p=0:=λX Y=>by
      by_cases i:p.id=e.1.id
      .rw[Qfa hd H n i];exact(SY _ _).1
      .by_cases g:p.id=e.2.id
       .rw[Qfa hd H k g];exact(SY _ _).2
       .exact absurd (by simp[FV,i,g]) M
     rw[hz,hz]
   have C:∀u∈Ml a (Pq l),∀v∈Ml a (Pq l),lx (px · q) (py · q) u v->lx (px · r) (py · r) u v:=λu hu v hv d=>by
    have S:=D.r;by_cases e:u=v
    .subst e;exact absurd d (Ia _)
    .rcases kU (S.and I) hu hv e with h'|h'
     .exact h'.2
     .exact absurd (nM d h'.1) (Ia _)
   have i:=Qnu I (nS T C λe he=>G e (by rw[N];exact X9 _ he)) w;have K:(Ml a (Pq l)).reverse.Pairwise (lx (λp=>-px p r) (λp=>-py p r)):=Wj.2 (I.imp λh=>gQ.2 h);have g:=Qnu K (nS P (λu hu v hv d=>gQ.2 (C v (J3.1 hv) u (J3.1 hu) (gQ.1 d))) λe he p hp=>by
    rw[rJ (px · q) (py · q),rJ (px · r) (py · r)];exact G e (by rw[N];exact Jv _ he) p (J3.1 hp)) t
   unfold Nm Ii;rw[s,if_neg h3,if_neg h3,hA,W,m,F,i,g]
 refine⟨hc,?_⟩;unfold EI;rw[hc,V,nV λx hx=>h x (Jv _ hx)]
theorem Q4n(hl:∀p∈l,Sc p.c)(hn:l.length≤10)(hd:l.Pairwise λx y=>x.id≠y.id):Stab (EI l) (brH l):=by
 refine⟨eJ hl hn,⟨Is l++EL l,DO hl,λa _ x hx=>wI x hx⟩,λa b ha hb h=>?_⟩;obtain⟨d,e⟩:=Qhh hl hd ha hb h;exact⟨e,by show Ga _=Ga _;rw[d]⟩
end Orq
namespace Orq
open Orr Go
theorem GG{a b c d:Crv}(ha:Sc a)(hb:Sc b)(hc:Sc c)(hd:Sc d):Cp (Tj a b c d):=by
 have lr:∀{a b:Crv},Sc a->Sc b->(Ht a b).length<=3/\(Hr a b).length<=3:=λ{a b} ha hb=>by
  have:=No (G5 b.x a.d) (G5 a.x b.d);have:=Ha b.x a.d;have:=Ha a.x b.d;have:=No (G5 b.y a.d) (G5 a.y b.d);have:=Ha b.y a.d;have:=Ha a.y b.d;have:=ha.c.lx;have:=hb.c.lx;have:=ha.c.ly;have:=hb.c.ly;unfold Ht Hr;omega
 have f:∀{a b:Crv},Sc a->Sc b->(Mq a b).length<=5/\Bd 517 (Mq a b):=λ{a b} ha hb=>by
  obtain⟨l1,l2⟩:=lr ha hb;have b1:Bd 257 (Ht a b):=E9 (Hj hb.c.x ha.c.d) (Hj ha.c.x hb.c.d);have e:Bd 257 (Hr a b):=E9 (Hj hb.c.y ha.c.d) (Hj ha.c.y hb.c.d);have g:=Mv (u:=2) b1 b1 Fo;have h:=Mv (u:=2) e e Fo;refine⟨?_,Fz (WC g h) Fo⟩;have:=XG (Hb (Ht a b) (Ht a b)) (Hb (Hr a b) (Hr a b));have:=P8 (Ht a b) (Ht a b);have:=P8 (Hr a b) (Hr a b);unfold Mq;omega
 have dd:∀{a b:Crv},Sc a->Sc b->Gm ((a.d*b.d)*(a.d*b.d))<=512:=λ{a b} ha hb=>by
  have:=G9 a.d b.d;have:=G9 (a.d*b.d) (a.d*b.d);have:=ha.c.d;have:=hb.c.d;omega
 obtain⟨l1,b1⟩:=f hc hd;obtain⟨l2,e⟩:=f ha hb;refine⟨Gs _ _,?_,Fz (E9 (Hj b1 (dd ha hb)) (Hj e (dd hc hd))) Fo⟩;have:=No (G5 (Mq c d) ((a.d*b.d)*(a.d*b.d))) (G5 (Mq a b) ((c.d*d.d)*(c.d*d.d)));have:=Ha (Mq c d) ((a.d*b.d)*(a.d*b.d));have:=Ha (Mq a b) ((c.d*d.d)*(c.d*d.d));unfold Tj;omega
def lM(m:Pt×Pt)(q:Rat):Rat:=(px m.2 q-px m.1 q)*(px m.2 q-px m.1 q)+(py m.2 q-py m.1 q)*(py m.2 q-py m.1 q)
theorem Qt0{a b c d:Pt}(ha:Sc a.c)(hb:Sc b.c)(hc:Sc c.c)(hd:Sc d.c)(q:Rat):Gu (Gf (Tj a.c b.c c.c d.c) q)=Gu (lM (c,d) q-lM (a,b) q):=by
 have S6:∀{z:Int},0<z->(0:Rat)<(z:Rat):=λ{z} h=>by exact_mod_cast h
 have i:=S6 ha.n.2.2.1;have pb:=S6 hb.n.2.2.1;have j:=S6 hc.n.2.2.1;have g:=S6 hd.n.2.2.1;have f:∀{p:Pt},0<(p.c.d:Rat)->Gf p.c.x q=px p q*(p.c.d:Rat)/\Gf p.c.y q=py p q*(p.c.d:Rat):=λ{p} h=>by
  unfold px py;exact⟨(Zg Fu).symm,(Zg Fu).symm⟩
 obtain⟨o,r⟩:=f i;obtain⟨xb,l⟩:=f pb;obtain⟨m,s⟩:=f j;obtain⟨t,k⟩:=f g;have e:Gf (Tj a.c b.c c.c d.c) q=(((a.c.d:Rat)*b.c.d)*((a.c.d:Rat)*b.c.d))*(((c.c.d:Rat)*d.c.d)*((c.c.d:Rat)*d.c.d))*(lM (c,d) q-lM (a,b) q):=by
  unfold Tj Mq Ht Hr lM;simp only[Bs,Tn,qI,Gx,Je];rw[o,xb,m,t,r,l,s,k];grind
 rw[e,Eb];have h1:=Xx i pb;have h2:=Xx j g;exact Xx (Xx h1 h1) (Xx h2 h2)
def xT(l:List Pt):U9:=l.flatMap λa=>l.flatMap λb=>l.flatMap λc=>l.map λd=>Tj a.c b.c c.c d.c
variable{l:List Pt}
theorem ED{a b c d:Pt}(ha:a∈l)(hb:b∈l)(hc:c∈l)(hd:d∈l):Tj a.c b.c c.c d.c∈xT l :=
 Zs.2 ⟨a,ha,Zs.2 ⟨b,hb,Zs.2 ⟨c,hc,Q8.2 ⟨d,hd,rfl⟩⟩⟩⟩
theorem RZ(hl:∀p∈l,Sc p.c):∀p∈xT l,Cp p:=λp hp=>by
 obtain⟨a,ha,hp⟩:=Zs.1 hp;obtain⟨b,hb,hp⟩:=Zs.1 hp;obtain⟨c,hc,hp⟩:=Zs.1 hp;obtain⟨d,hd,rfl⟩:=Q8.1 hp;exact GG (hl a ha) (hl b hb) (hl c hc) (hl d hd)
theorem Qdh(hl:∀p∈l,Sc p.c){a:Tm}(ha:Va a):∃y,Gt a y=-1/\∀q,Gt a q=-1->q≤y->∀s m:Pt×Pt,s.1∈l->s.2∈l->m.1∈l->m.2∈l->Rp (G6 a) (Tj s.1.c s.2.c m.1.c m.2.c)=Gu (lM m q-lM s q):=by
 obtain⟨y,f,e⟩:=VO ha (xT l) λp hp=>(RZ hl p hp).dp
 refine⟨y,f,λq b d s m h1 h2 h3 h4=>?_⟩;rw[e q b d _ (ED h1 h2 h3 h4),Qt0 (hl _ h1) (hl _ h2) (hl _ h3) (hl _ h4)]
def Aj(f:Pt×Pt->Rat)(P:List (Pt×Pt))(r:Pt×Pt):Prop:=∃P1 P2,P=P1++r::P2/\(∀m∈P1,f r<f m)/\∀m∈P2,f r≤f m
theorem yP{f:Pt×Pt->Rat}:∀{P:List (Pt×Pt)} {r b:Pt×Pt},Aj f P r->Aj f P b->r=b
 | [],r,b,⟨g,i,h,_⟩,_=>by simp at h
 |
  x::P,r,b,⟨g,i,h,h1,h2⟩,⟨d,j,a,c,e⟩=>by
  cases g with
  |
   nil =>
   simp at h;cases d with
   |nil=>simp at a;exact h.1.symm.trans a.1
   |
    cons y d =>
    simp at a;exfalso;obtain⟨rfl,rfl⟩:=h;obtain⟨rfl,rfl⟩:=a;have a1:=c x Ft;have a2:=h2 b Ft;grind
  |
   cons y g =>
   simp at h;cases d with
   |
    nil =>
    simp at a;exfalso;obtain⟨rfl,rfl⟩:=h;obtain⟨rfl,rfl⟩:=a;have a1:=h1 x Ft;have a2:=e r Ft;grind
   |
    cons z d =>
    simp at h a;exact yP (P:=P) ⟨g,i,h.2,λm hm=>h1 m (by simp[hm]),h2⟩ ⟨d,j,a.2,λm hm=>c m (by simp[hm]),e⟩
variable{f:Pt×Pt->Rat}
theorem Qt1{P:List (Pt×Pt)}{r m:Pt×Pt}(h:Aj f P r):Aj f (P++[m]) (if f m<f r then m else r):=by
 obtain⟨b,a,rfl,h1,h2⟩:=h;by_cases e:f m<f r
 .rw[if_pos e];refine⟨b++r::a,[],rfl,λx hx=>?_,λx hx=>by cases hx⟩;rcases Qr.1 hx with hx|hx
  .have:=h1 x hx;grind
  .rcases Qm.1 hx with rfl|hx
   .exact e
   .have:=h2 x hx;grind
 .rw[if_neg e];refine⟨b,a++[m],Ft,h1,λx hx=>?_⟩;rcases Qr.1 hx with hx|hx
  .exact h2 x hx
  .rw[Qk.1 hx];grind
theorem Qdk{f:Pt×Pt->Rat}{sg:U8->Int}{l:List Pt}(hg:∀s m:Pt×Pt,s.1∈l->s.2∈l->m.1∈l->m.2∈l->Rp sg (Tj s.1.c s.2.c m.1.c m.2.c)=Gu (f m-f s)):∀(ps P:List (Pt×Pt)) (s:Pt×Pt),s.1∈l/\s.2∈l->(∀m∈ps,m.1∈l/\m.2∈l)->Aj f P s->Aj f (P++ps) (Tf sg s ps)
 | [],P,s,_,_,h=>by rw[Zx];exact h
 |
  m::ps,P,s,hs,hp,h=>by
  rw[YW];have hm:=hp m Ft;have e:Ba sg s m=if f m<f s then m else s:=by
   unfold Ba;rw[hg s m hs.1 hs.2 hm.1 hm.2];have:=Hd (f m-f s);by_cases h:f m<f s
   .rw[if_pos h,if_pos Fu]
   .rw[if_neg h,if_neg Fu]
  have hn:(Ba sg s m).1∈l/\(Ba sg s m).2∈l:=by
   rcases NV sg s m with e|e <;> rw[e] <;> assumption
  have:=Qdk hg ps (P++[m]) (Ba sg s m) hn (λx hx=>hp x (Qi _ hx)) (by rw[e];exact Qt1 h);rwa[Zh]at this
theorem oP(a b:Pt)(l:List Pt):∃P,H6 (a::b::l)=(a,b)::P:=⟨_,rfl⟩
theorem Qec{sg:U8->Int}{a b:Pt}(hg:∀s m:Pt×Pt,s.1∈a::b::l->s.2∈a::b::l->m.1∈a::b::l->m.2∈a::b::l->Rp sg (Tj s.1.c s.2.c m.1.c m.2.c)=Gu (f m-f s)):Aj f (H6 (a::b::l)) (Tf sg (a,b) (H6 (a::b::l))):=by
 obtain⟨P,d⟩:=oP a b l;have hm:=Mp (a::b::l).length (a::b::l);have hm:∀m∈H6 (a::b::l),m.1∈a::b::l/\m.2∈a::b::l:=hm;rw[d]at hm ⊢;have h:=Qdk hg P [(a,b)] (a,b) (hm (a,b) Ft) (λm h=>hm m (by simp[h])) ⟨[],[],rfl,λm h=>(by cases h),λm h=>(by cases h)⟩;rw[YW];have e:Ba sg (a,b) (a,b)=(a,b):=by rcases NV sg (a,b) (a,b)with e|e <;> exact e
 rw[e];exact h
theorem Qfb(hd:l.Pairwise λx y=>x.id≠y.id){u v:Pt}(hu:u∈l)(hv:v∈l)(h:u.id=v.id):u=v:=by
 by_cases e:u=v
 .exact e
 .rcases kU hd hu hv e with h'|h'
  .exact absurd h h'
  .exact absurd h.symm h'
theorem Qhx(hl:∀p∈l,Sc p.c)(hd:l.Pairwise λx y=>x.id≠y.id){a b:Tm}(ha:Va a)(hb:Va b)(h:∀x∈Ei (G6 a) l,Rp (G6 b) x.p=Rp (G6 a) x.p):KO (G6 b) l=KO (G6 a) l/\Ei (G6 b) l=Ei (G6 a) l:=by
 match l,hl,hd,h with
 | [],_,_,_=>exact⟨rfl,rfl⟩
 | [x],_,_,_=>exact⟨rfl,rfl⟩
 |
  u::v::l',hl,hd,h =>
  obtain⟨y,E,J⟩:=Qdh hl ha;obtain⟨z,K,H⟩:=Qdh hl hb;have q:=J y E Qp;have w:=H z K Qp;have A:=Qec (f:=λm=>lM m y) q;have C:=Qec (f:=λm=>lM m z) w;simp only[KO,Ei]at h ⊢;have hm:∀m∈H6 (u::v::l'),m.1∈u::v::l'/\m.2∈u::v::l':=Mp _ _;generalize u::v::l'=l at *;obtain⟨r,hr⟩:=nmE (Tf (G6 a) (u,v) (H6 l));rw[<-hr]at A h ⊢;obtain⟨I,B,o,h1,h2⟩:=A;have s:r∈H6 l:=by rw[o];simp
  have i:=hm r s;have n:∀m∈H6 l,m=r\/Rp (G6 b) (Tj r.1.c r.2.c m.1.c m.2.c)=Rp (G6 a) (Tj r.1.c r.2.c m.1.c m.2.c):=λm g=>by
   have d:=hm m g;by_cases e:YD r m=true
   .right;have h0:=h (Cu (G6 a) r.1 r.2 m.1 m.2) (by unfold Ch;exact List.mem_map.2 ⟨m,List.mem_filter.2 ⟨g,e⟩,rfl⟩);rw[qR]at h0;exact h0
   .left;unfold YD at e;simp at e;have D:=Qfb hd d.1 i.1 e.1;have F:=Qfb hd d.2 i.2 e.2;exact Prod.ext D F
  have t:Aj (λm=>lM m z) (H6 l) r:=by
   refine⟨I,B,o,λm g=>?_,λm g=>?_⟩
   .have j:m∈H6 l:=by rw[o];simp[g]
    have k:=h1 m g;have d:=hm m j;rcases n m j with e|e
    .exfalso;rw[e]at k;dsimp only at k;grind
    .rw[q r m i.1 i.2 d.1 d.2,w r m i.1 i.2 d.1 d.2]at e;dsimp only at k ⊢;rw[Tt.2 (by grind:0<lM m y-lM r y)]at e;have:=Tt.1 e;grind
   .have j:m∈H6 l:=by rw[o];simp[g]
    have k:=h2 m g;have d:=hm m j;rcases n m j with e|e
    .rw[e];exact Qp
    .rw[q r m i.1 i.2 d.1 d.2,w r m i.1 i.2 d.1 d.2]at e;dsimp only at k ⊢;have L:=Hd (lM m y-lM r y);have M:=Hd (lM m z-lM r z);grind
  have G:=yP C t;rw[G];refine⟨rfl,?_⟩;unfold Ch;refine X5 λm g=>?_
  have j:=(Y7.1 g).1;rcases n m j with e|e
  .exfalso;have:=(Y7.1 g).2;rw[e]at this;unfold YD at this;simp at this
  .unfold Cu;rw[e]
theorem Q4o(hl:∀p∈l,Sc p.c)(hn:l.length≤10)(hd:l.Pairwise λx y=>x.id≠y.id):Stab (λa=>Ei (G6 a) l) (λa=>Ga (KO (G6 a) l)):=by
 have d:∀a,∀x∈Ei (G6 a) l,x.p∈xT l:=λa x hx=>by
  match l,hx with
  |
   u::v::l',hx =>
   simp only[Ei]at hx;obtain⟨h3,h4⟩:=Au (G6 a) (l:=u::v::l') (H6 (u::v::l')) (u,v) ⟨Ft,Ft⟩ (Mp _ _);obtain⟨m,hm,rfl⟩:=MG hx;obtain⟨h1,h2⟩:=Mp _ _ m hm;rw[qR];exact ED h3 h4 h1 h2
 refine⟨⟨λa _ x hx=>RZ hl _ (d a x hx),λa _=>?_⟩,⟨xT l,RZ hl,λa _=>d a⟩,λa b ha hb h=>?_⟩
 .have:=vE (G6 a) l;have:l.length*l.length<=10*10:=Zf hn hn;show(Ei (G6 a) l).length<=1000;omega
 .obtain⟨h1,h2⟩:=Qhx hl hd ha hb h;exact⟨h2,by show Ga _=Ga _;rw[h1]⟩
end Orq
namespace Orr
open Go Go.Proofs Tryz Orq
set_option maxRecDepth 10000
def KC:Nat->Fe->Fe
 |_,[]=>[]
 | 0,x::l=>SQ x::l
 |k+1,x::l=>x::KC k l
theorem vM:∀(k:Nat) (l:Fe),(KC k l).length=l.length
 |_,[]=>by cases ‹Nat› <;> rfl
 | 0,x::l=>rfl
 |k+1,x::l=>by simp only[KC,Q5,vM k l]
theorem vP:∀(k:Nat) (l:Fe) {j:Nat} {y:LV},(KC k l)[j]? = some y->∃x,l[j]? = some x/\(y=x\/y=SQ x)
 | 0,[],_,_,h=>by simp[KC]at h
 |_+1,[],_,_,h=>by simp[KC]at h
 | 0,x::l,0,y,h=>by simp[KC]at h;exact⟨x,rfl,.inr h.symm⟩
 | 0,x::l,j+1,y,h=>by simp[KC]at h;exact⟨y,by simpa using h,.inl rfl⟩
 |k+1,x::l,0,y,h=>by simp[KC]at h;exact⟨x,rfl,.inl h.symm⟩
 |
  k+1,x::l,j+1,y,h=>by
  simp only[KC,J0]at h;obtain⟨z,h1,h2⟩:=vP k l h;exact⟨z,by simpa using h1,h2⟩
theorem nlc{P:Program}[Mo P]{n:Nat}{Q:Exit->Sg->Fg->Prop}{L:Sg}{B p:Fg}(i d:Nat){T:TypeId}{xs:Fe}{it:List It}(hs:So it=true)(hb:QU B i=some (.blk T xs))(q:QY B i (.blk T (KC d xs))=some p)(k:AK P n Q it L p):AK P n Q it L B:=by
 obtain⟨rfl,hl⟩:=Ds q;have b:B[i]? = some (.blk T xs):=Mx ▸ hb;refine AK.sub (λF E M a w h=>⟨E,M,?_,h.size,h.defers,h.slots⟩) hs k;rw[GE,KI b];refine h.hs.re (λj=>?_) (λj=>?_) (λj=>?_) λj f=>?_
 .by_cases e:j=i
  .subst e;rw[Gy];obtain⟨g,c,m,h1,cs,h2,h3⟩:=h.blk hb;refine⟨g,c,m,h1,cs,h2,F2.of (by rw[vM];exact h3.len) λk v x hv hx=>?_⟩;obtain⟨y,o,l⟩:=vP _ _ hx;rcases l with rfl|rfl
   .exact h3.get' hv o
   .exact Qef (h3.get' hv o)
  .rw[Hl _ _ e];exact h.hs.blk j
 .by_cases e:j=i
  .subst e;rw[Gy,Pa b];rfl
  .rw[Hl _ _ e]
 .by_cases e:j=i
  .subst e;rw[Gy,Pa b];rfl
  .rw[Hl _ _ e]
 .by_cases e:j=i
  .subst e;rw[Pa b]at f;cases f
  .rw[Hl _ _ e];exact f
theorem TZ{l m:Ff}(h:l=m):TV.one (LV.row l)=.one (.row m):=h ▸ rfl
theorem pR{a b:Crv}(ha:WN a)(hb:WN b)(d:Cb a)(cb:Cb b):U5 236 [.agg (cl a),.agg (cl b)] [pr (Mq a b)]:=by
 obtain⟨p1,l1,b1⟩:=bN d cb;obtain⟨p2,l2,c⟩:=bR d cb;have g:=P8 (Ht a b) (Ht a b);have h:=P8 (Hr a b) (Hr a b);have e:=Mv (u:=5) b1 b1 Fo;have f:=Mv (u:=5) c c Fo;exact U0 func236 rfl [.k (RG ha hb d cb),.k (RV ha hb d cb),.k (GY p1.t p1.t Fo Fo b1 b1 Fo),.k (GY p2.t p2.t Fo Fo c c Fo),.k (AL Fo Fo (Fz e Fo) (Fz f Fo))] rfl
theorem Qf6{a b c d:Crv}(ha:WN a)(hb:WN b)(hc:WN c)(hd:WN d)(f:Cb a)(cb:Cb b)(e:Cb c)(cd:Cb d):U5 188 [.agg (cl a),.agg (cl b),.agg (cl c),.agg (cl d)] [pr (Tj a b c d)]:=by
 have m:=Ac ha (f.mono Fo Fo);have o:=Ac hb (cb.mono Fo Fo);have i:=Ac hc (e.mono Fo Fo);have nd:=Ac hd (cd.mono Fo Fo);have t:=iD f cb;have x:=iD e cd;have n:=Qdt f cb;have h:=Qdt e cd;have da:=f.d;have db:=cb.d;have u:=e.d;have dd:=cd.d;obtain⟨v,l1,b1⟩:=bM e cd;obtain⟨z,l2,g⟩:=bM f cb;have y:=Ha (Mq c d) ((a.d*b.d)*(a.d*b.d));have w:=Ha (Mq a b) ((c.d*d.d)*(c.d*d.d));have w1:=Nx (Gb a.d) (Gb b.d) Fo Fo;have l:=Nx (Gb c.d) (Gb d.d) Fo Fo;have r:=Nx (Gb (a.d*b.d)) (Gb (a.d*b.d)) Fo Fo;have s:=Nx (Gb (c.d*d.d)) (Gb (c.d*d.d)) Fo Fo;have p1:=Nl (p:=Mq c d) (c:=(a.d*b.d)*(a.d*b.d)) Fo (Fz b1 Fo) Fo;have p2:=Nl (p:=Mq a b) (c:=(c.d*d.d)*(c.d*d.d)) Fo (Fz g Fo) Fo;have j:=MQ (p:=G5 (Mq c d) ((a.d*b.d)*(a.d*b.d))) (q:=G5 (Mq a b) ((c.d*d.d)*(c.d*d.d))) Fo Fo (Fz (Hj b1 n) Fo) (Fz (Hj g h) Fo);exact U0 func188 rfl [.k m,.k o,.k w1,.k i,.k nd,.k l,.k (pR hc hd e cd),.k r,.k p1,.k (pR ha hb f cb),.k s,.k p2,.k j] rfl
theorem AP{a b c d:Pt}(ha:Sc a.c)(hb:Sc b.c)(hc:Sc c.c)(hd:Sc d.c):U5 188 [.agg (cl a.c),.agg (cl b.c),.agg (cl c.c),.agg (cl d.c)] [pr (Tj a.c b.c c.c d.c)]:=Qf6 ha.n hb.n hc.n hd.n ha.cb hb.cb hc.cb hd.cb
variable{t:Tm}
set_option maxHeartbeats 1000000 in
theorem Qsc{a b c d:Pt}(ha:Sc a.c)(hb:Sc b.c)(hc:Sc c.c)(hd:Sc d.c)(ht:Va t):U5 182 [.oi 5,.agg (ta t),.one (.row [Gq a,Gq b,Gq c,Gq d])] [.agg (Ey (Cu (G6 t) a b c d)),.oi 0]:=by
 have hp:=(GG ha hb hc hd).dp;have e:Ey (Cu (G6 t) a b c d)=[.int .i64 5,.int .i64 a.id,.int .i64 b.id,.int .i64 c.id,.int .i64 d.id,pl (Tj a.c b.c c.c d.c),.int .i64 (Rp (G6 t) (Tj a.c b.c c.c d.c))]:=by rw[Cu]
 rw[e];have h:=BH hp ht;have g:=AP ha hb hc hd;generalize Tj a.c b.c c.c d.c=F at *;refine G7 func182 rfl ?_;refine Ux [.k Qgp,.f rfl] rfl ?_;refine U4 (S:=Nat) 3 (λL1 i=>(22,.v (.oi i))::L1) (λi=>[.blk 72 (ta t),.blk 66 zCt,.blk 66 [.int .i64 5,.int .i64 (if 1<=i then a.id else 0),.int .i64 (if 2<=i then b.id else 0),.int .i64 (if 3<=i then c.id else 0),.int .i64 (if 4<=i then d.id else 0),.nils,.int .i64 0]]) (λi=>4-i) (λi=>i<=4) 0 (Qj _) rfl rfl λi hi=>?_
 rcases(show i=0\/i=1\/i=2\/i=3\/i=4 by omega)with rfl|rfl|rfl|rfl|rfl
 .refine Ux [.t rfl,.x (i:=0) (xs:=Gq a) rfl,.i 0] rfl ?_ Fy;exact rd 1 Fo Fo rfl
 .refine Ux [.t rfl,.x (i:=1) (xs:=Gq b) rfl,.i 1] rfl ?_ Fy;exact rd 2 Fo Fo rfl
 .refine Ux [.t rfl,.x (i:=2) (xs:=Gq c) rfl,.i 2] rfl ?_ Fy;exact rd 3 Fo Fo rfl
 .refine Ux [.t rfl,.x (i:=3) (xs:=Gq d) rfl,.i 3] rfl ?_ Fy;exact rd 4 Fo Fo rfl
 .exact Uz [.f rfl,.f rfl,.f rfl,.f rfl,.f rfl,.x (i:=0) (xs:=Gq a) rfl,.x (i:=1) (xs:=Gq b) rfl,.x (i:=2) (xs:=Gq c) rfl,.x (i:=3) (xs:=Gq d) rfl,.k g,.k h] rfl
theorem Qzl{s m:Pt×Pt}(h1:Sc s.1.c)(h2:Sc s.2.c)(h3:Sc m.1.c)(h4:Sc m.2.c)(ht:Va t):Ge prog 186 [.agg (Gq m.1),.agg (Gq m.2),.one (.ow 0 0),.one (.ow 1 0),.one (.ow 2 0)] [.blk 39 (Gq s.1),.blk 39 (Gq s.2),.blk 72 (ta t)] [] [.blk 39 (Gq (Ba (G6 t) s m).1),.blk 39 (Gq (Ba (G6 t) s m).2),.blk 72 (ta t)]:=by
 have a:=AP h1 h2 h3 h4;have b:=BH (GG h1 h2 h3 h4).dp ht;unfold Ba;refine G7 func186 rfl ?_;by_cases h:Rp (G6 t) (Tj s.1.c s.2.c m.1.c m.2.c)<0
 .rw[if_pos h];exact U3 [] [0,1,2] [.k a,.k b,.t (decide_eq_true h)] rfl
 .rw[if_neg h];exact U3 [] [0,1,2] [.k a,.k b,.f (decide_eq_false h)] rfl
theorem Qzg{s m:Pt×Pt}{L:List Ct}(h1:Sc s.1.c)(h2:Sc s.2.c)(h3:Sc m.1.c)(h4:Sc m.2.c)(ht:Va t)(l:L.length<=1000000):Ge prog 189 [.agg (Gq m.1),.agg (Gq m.2),.one (.ow 0 0),.one (.ow 1 0),.one (.ow 2 0),.one (.ow 3 0)] [.blk 39 (Gq s.1),.blk 39 (Gq s.2),.blk 72 (ta t),.blk 58 [.orow 4 7 none],.row false 66 7 (Gk L)] [] [.blk 39 (Gq s.1),.blk 39 (Gq s.2),.blk 72 (ta t),.blk 58 [.orow 4 7 none],.row false 66 7 (Gk (if YD s m=true then L++[Cu (G6 t) s.1 s.2 m.1 m.2]else L))]:=by
 have i:=Qsc h1 h2 h3 h4 ht;have h:∀y∈[Ey (Cu (G6 t) s.1 s.2 m.1 m.2)],y.length=7:=λy j=>by rw[Qk.1 j];rfl
 have d:=Nf L;have b:Gk (L++[Cu (G6 t) s.1 s.2 m.1 m.2])=Gk L++[Ey (Cu (G6 t) s.1 s.2 m.1 m.2)]:=by simp[Gk]
 refine G7 func189 rfl ?_;by_cases a:m.1.id=s.1.id
 .by_cases e:m.2.id=s.2.id
  .rw[if_neg (by simp[YD,a,e])];exact U3 [] [0,1,2,3,4] [.g 15 false (by simp[a]),.f (by simp[e])] rfl
  .rw[if_pos (by simp[YD,e]),b];exact U3 [] [0,1,2,3,4] [.g 15 false (by simp[a]),.t (by simp[e]),.k i,.s (sz:=7) h] rfl (by simp[Gi,d];omega)
 .rw[if_pos (by simp[YD,a]),b];exact U3 [] [0,1,2,3,4] [.g 15 true (by simp[a]),.t rfl,.k i,.s (sz:=7) h] rfl (by simp[Gi,d];omega)
theorem CG(M:List Pt):Tx 0 M=[]:=by cases M <;> rfl
def rS(M:List Pt)(x:Pt)(i j:Nat):List (Pt×Pt):=Tx i M++((M.drop (i+1)).take j).map (λy=>(x,y))
theorem cU(M:List Pt)(x:Pt)(i:Nat):rS M x i 0=Tx i M:=by rw[rS,Ke,X8,Zx]
variable{M:List Pt}{x:Pt}
theorem cK{i j:Nat}{y:Pt}(a:(M.drop (i+1))[j]? = some y):rS M x i (j+1)=rS M x i j++[(x,y)]:=by
 unfold rS;rw[Zv,a,Option.toList_some,Jx,Zh];rfl
theorem Qex{i j:Nat}(hx:M[i]? = some x)(a:(M.drop (i+1)).length<=j):rS M x i j=Tx (i+1) M:=by
 unfold rS;rw[Qo a,Aw M i x hx]
theorem Qu8{i j:Nat}(hx:M[i]? = some x):∀m∈rS M x i j,m.1∈M/\m.2∈M:=λm hm=>by
 rcases Qr.1 hm with h|h
 .exact Mp _ _ m h
 .obtain⟨y,a,rfl⟩:=Q8.1 h;exact⟨Qc hx,Q3 (Qn a)⟩
variable{l:List Pt}
theorem Qky{s0:Pt×Pt}(hl:∀p∈l,Sc p.c)(hs:s0.1∈l/\s0.2∈l)(hn:l.length≤1000)(ht:Va t):Ge prog 185 [.one (pts l),.one (.ofn 186 [] [.ow 0 0,.ow 1 0,.ow 2 0])] [.blk 39 (Gq s0.1),.blk 39 (Gq s0.2),.blk 72 (ta t)] [] [.blk 39 (Gq (Tf (G6 t) s0 (H6 l)).1),.blk 39 (Gq (Tf (G6 t) s0 (H6 l)).2),.blk 72 (ta t)]:=by
 have g:=Rl l;have o:∀ps:List (Pt×Pt),(∀m∈ps,m.1∈l/\m.2∈l)->Sc (Tf (G6 t) s0 ps).1.c/\Sc (Tf (G6 t) s0 ps).2.c:=λps h=>by
  obtain⟨h1,h2⟩:=Au (G6 t) ps s0 hs h;exact⟨hl _ h1,hl _ h2⟩
 show Ge prog 185 [.one (.row (Ga l)),.one (.ofn 186 [] [.ow 0 0,.ow 1 0,.ow 2 0])] _ _ _;refine G7 func185 rfl ?_;refine Ux [] rfl ?_;refine lp (S:=Nat) 3 (λL1 i=>(10,.v (.oi i))::L1) (λi=>[.blk 39 (Gq (Tf (G6 t) s0 (Tx i l)).1),.blk 39 (Gq (Tf (G6 t) s0 (Tx i l)).2),.blk 72 (ta t)]) (λi=>l.length-i) (λi=>i<=l.length) 0 (Qj _) rfl (λ_ _=>rfl) (by rw[CG];rfl) λi hi=>?_
 by_cases d:i<l.length
 .obtain⟨x,hx⟩:=gxE (l:=l) (i:=i) d;have k:(Ga l).drop (i+1)=Ga (l.drop (i+1)):=by simp[Ga,Vv]
  have A:=Rl (l.drop (i+1));have u:(l.drop (i+1)).length<=1000:=by rw[Za];omega
  rw[<-cU l x i];refine go tt [.t (by simp[g];omega),.x (Ms hx),.r 17 (eI (b:=((i+1:Nat):Int)) Ft),.i (i+1),.r 18 (TZ k)] rfl (by simp[Gi,Rl,eq_true (p:=∀z,z∈Ga l->z.length=ti39.sz) (UB l)];omega) ?_;refine U4 (S:=Nat) 4 (λL1 j=>(20,.v (.oi j))::L1) (λj=>[.blk 39 (Gq (Tf (G6 t) s0 (rS l x i j)).1),.blk 39 (Gq (Tf (G6 t) s0 (rS l x i j)).2),.blk 72 (ta t),.blk 39 (Gq x)]) (λj=>(l.drop (i+1)).length-j) (λj=>j<=(l.drop (i+1)).length) 0 (Qj _) rfl rfl λj C=>?_
  by_cases a:j<(l.drop (i+1)).length
  .obtain⟨y,n⟩:=gxE (l:=(l.drop (i+1))) (i:=j) a;obtain⟨w,B⟩:=o (rS l x i j) (Qu8 hx);have q:=Qzl (s:=Tf (G6 t) s0 (rS l x i j)) (m:=(x,y)) w B (hl x (Qc hx)) (hl y (Q3 (Qc n))) ht;rw[<-gI,<-cK n]at q;refine go tt [.T,.x (Ms n),.c [0,1,2] q] rfl (by simp[Gi,-List.length_drop];omega) ?_;exact rd (j+1) Fo a rfl
  .have e:=Qex hx (Yc a);rw[e];refine go tt [.F] rfl (by simp[Gi,-List.length_drop];omega) ?_;exact rd (i+1) Fo d rfl
 .obtain rfl:i=l.length:=Fo;exact U3 [] [0,1,2] [.f (by simp[g])] rfl
theorem Qkz{s:Pt×Pt}(hl:∀p∈l,Sc p.c)(hs:s.1∈l/\s.2∈l)(hn:l.length≤10)(ht:Va t):Ge prog 185 [.one (pts l),.one (.ofn 189 [] [.ow 0 0,.ow 1 0,.ow 2 0,.ow 3 0])] [.blk 39 (Gq s.1),.blk 39 (Gq s.2),.blk 72 (ta t),.blk 58 [.orow 4 7 none],.row false 66 7 []] [] [.blk 39 (Gq s.1),.blk 39 (Gq s.2),.blk 72 (ta t),.blk 58 [.orow 4 7 none],.row false 66 7 (Gk (Ch (G6 t) s (H6 l)))]:=by
 have g:=Rl l;have n:∀i,i<=l.length->(Tx i l).length<=100:=λi hi=>by
  have:=GO i l;have:i*l.length<=10*10:=Zf Fo hn;omega
 show Ge prog 185 [.one (.row (Ga l)),.one (.ofn 189 [] [.ow 0 0,.ow 1 0,.ow 2 0,.ow 3 0])] _ _ _;refine G7 func185 rfl ?_;refine Ux [] rfl ?_;refine lp (S:=Nat) 5 (λL1 i=>(10,.v (.oi i))::L1) (λi=>[.blk 39 (Gq s.1),.blk 39 (Gq s.2),.blk 72 (ta t),.blk 58 [.orow 4 7 none],.row false 66 7 (Gk (Ch (G6 t) s (Tx i l)))]) (λi=>l.length-i) (λi=>i<=l.length) 0 (Qj _) rfl (λ_ _=>rfl) (by rw[CG];rfl) λi hi=>?_
 by_cases d:i<l.length
 .obtain⟨x,hx⟩:=gxE (l:=l) (i:=i) d;have k:(Ga l).drop (i+1)=Ga (l.drop (i+1)):=by simp[Ga,Vv]
  have B:=Rl (l.drop (i+1));have A:(l.drop (i+1)).length<=10:=by rw[Za];omega
  rw[<-cU l x i];refine go tt [.t (by simp[g];omega),.x (Ms hx),.r 17 (eI (b:=((i+1:Nat):Int)) Ft),.i (i+1),.r 18 (TZ k)] rfl (by simp[Gi,Rl,eq_true (p:=∀z,z∈Ga l->z.length=ti39.sz) (UB l)];omega) ?_;refine U4 (S:=Nat) 6 (λL1 j=>(20,.v (.oi j))::L1) (λj=>[.blk 39 (Gq s.1),.blk 39 (Gq s.2),.blk 72 (ta t),.blk 58 [.orow 4 7 none],.row false 66 7 (Gk (Ch (G6 t) s (rS l x i j))),.blk 39 (Gq x)]) (λj=>(l.drop (i+1)).length-j) (λj=>j<=(l.drop (i+1)).length) 0 (Qj _) rfl rfl λj C=>?_
  by_cases a:j<(l.drop (i+1)).length
  .obtain⟨y,u⟩:=gxE (l:=(l.drop (i+1))) (i:=j) a;have w:(Ch (G6 t) s (rS l x i j)).length<=1000000:=by
    refine Qa (yX _ _ _) ?_;unfold rS;rw[Qw,Ze,Qt];have:=n i hi;omega
   have o:=Qzg (s:=s) (m:=(x,y)) (L:=Ch (G6 t) s (rS l x i j)) (hl _ hs.1) (hl _ hs.2) (hl x (Qc hx)) (hl y (Q3 (Qc u))) ht w;have q:(if YD s (x,y)=true then Ch (G6 t) s (rS l x i j)++[Cu (G6 t) s.1 s.2 x y]else Ch (G6 t) s (rS l x i j))=Ch (G6 t) s (rS l x i (j+1)):=by
    rw[cK u];cases h:YD s (x,y)with
    |true=>rw[if_pos rfl,Qtt h]
    |false=>rw[if_neg Fp,Qts h]
   dsimp only at o;rw[q]at o;refine go tt [.T,.x (Ms u),.c [0,1,2,3,4] o] rfl (by simp[Gi,-List.length_drop];omega) ?_;exact rd (j+1) Fo a rfl
  .have e:=Qex hx (Yc a);rw[e];refine go tt [.F] rfl (by simp[Gi,-List.length_drop];omega) ?_;exact rd (i+1) Fo d rfl
 .obtain rfl:i=l.length:=Fo;exact U3 [] [0,1,2,3,4] [.f (by simp[g])] rfl
theorem jP{a:Tm}{c:Cr}{r1:Ff}(hl:∀p∈l,Sc p.c)(hn:l.length≤10)(ha:Va a):Ge prog 117 [.one (.ow 0 0),.agg (ta a)] [.blk 210 (Te c (Ga l) r1)] [.one (.row (Gk (Ei (G6 a) l)))] [.blk 210 (Te c (Ga l) (Ga (KO (G6 a) l)))]:=by
 have h:=Rl l;refine G7 func117 rfl ?_;by_cases h2:l.length<2
 .obtain⟨o,q⟩:=Qhw (G6 a) h2;rw[o,q];refine Ux [.k ZJ] rfl ?_;refine nlc 0 13 rfl rfl rfl ?_;have i:(l.map Gq).length=l.length:=Ze _;exact U3 [] [0] [.T] rfl
 .obtain⟨x,y,l',rfl⟩:=Q13 h2;obtain⟨l,b⟩:=nmE (x::y::l');have g:(Ga l)[0]? = some (Gq x):=by rw[b];rfl
  have f:(Ga l)[1]? = some (Gq y):=by rw[b];rfl
  have d:x∈l:=by rw[b];simp
  have e:y∈l:=by rw[b];simp
  have eB:KO (G6 a) (x::y::l')=[(Tf (G6 a) (x,y) (H6 l)).1,(Tf (G6 a) (x,y) (H6 l)).2]:=by rw[b];rfl
  have j:Ei (G6 a) (x::y::l')=Ch (G6 a) (Tf (G6 a) (x,y) (H6 l)) (H6 l):=by rw[b];rfl
  rw[eB,j];rw[<-b]at hl hn h2 h ⊢;have m:=Qky (t:=a) (s0:=(x,y)) hl ⟨d,e⟩ Fo ha;obtain⟨n1,n2⟩:=Au (G6 a) (l:=l) (H6 l) (x,y) ⟨d,e⟩ (Mp _ _);generalize Tf (G6 a) (x,y) (H6 l)=s at *;have n:=Qkz (t:=a) (s:=s) hl ⟨n1,n2⟩ hn ha;have i:(l.map Gq).length=l.length:=Ze _;exact U3 [5] [0] [.k ZJ,.F,.x g,.x f,.c [2,3,1] m,.oc 8 0 66 7,.c [2,3,1,4,5] n] rfl
theorem Qy3{T:Nat}{t:Rat}{Bc:Tm->List Ct}{Br:Tm->Ff}{r0:Ff}(ht:Qs 1640000 t)(j:BuildOk Bc)
 (hb:∀a c r1,Va a->CrOk c->Ge prog 117 [.one (.ow 0 0),.agg (ta a)] [.blk T (Te c r0 r1)] [.one (.row (Gk (Bc a)))] [.blk T (Te c r0 (Br a))])
 {K:Nat} {c c':Cr} {r1 e:Ff} {n:Int} (hc:CrOk c) (u:0<=c.ev/\c.ev+K<=1000000000000000000) (h:Gt c.now t<=0) (hg:HE Bc Br t K c r1 0=some (c',e,n)) :
 Ge prog 354 [.one (.ow 0 0),.agg (rl t),.one (.ofn 117 [.ow 0 0] [])] [.blk T (Te c r0 r1)] [.oi n,.oi 0] [.blk T (Te c' r0 e)]:=by
 have y:Qb t:=ht.mono Fp;have B:=Eo hc.n.tb y;refine G7 func354 rfl ?_;refine Ux [.c [0] (JR hc.n),.k B,.f (by simpa using h)] rfl ?_;refine U4 (S:=Nat×Cr×Ff×Int) 2 (λL1 s=>(8,.v (.oi s.2.2.2))::L1) (λs=>[.blk T (Te s.2.1 r0 s.2.2.1),.blk 41 (rl t)]) (λs=>s.1) (λs=>CrOk s.2.1/\(0<=s.2.1.ev/\s.2.1.ev+s.1<=1000000000000000000)/\(0<=s.2.2.2/\s.2.2.2+s.1<=1000000000000000000)/\HE Bc Br t s.1 s.2.1 s.2.2.1 s.2.2.2=some (c',e,n)) (K,c,r1,0) ⟨hc,u,⟨Int.le_refl 0,Fv⟩,hg⟩ rfl rfl λ⟨k,x,r,m⟩ ⟨j1,j2,j3,d⟩=>?_
 dsimp only at j1 j2 j3 d ⊢;cases k with
 |zero=>cases d
 |
  succ k =>
  simp only[HE]at d;obtain⟨ws,w1,d⟩:=Qd.1 d;obtain⟨o,z,d⟩:=Qd.1 d;have q:=QH (T:=T) (r0:=r0) (r1:=r) j1 w1 z;have w:=FH (Gb t.num) (Gb (t.den:Int)) (Qa ht.1 Fp) (Qa ht.2 Fp) (by rw[Mk];exact ht.mono Fp);rw[Mk]at w;cases o with
  |
   none =>
   injection d with d;injection d with e1 d;injection d with e2 e3;subst e1;subst e2;subst e3;exact U3 [] [0] [.c [0] q,.g 25 true rfl,.t rfl,.k w] rfl
  |
   some a =>
   have ha:=qM j1 w1 z;dsimp only at d;have A:=Eo ha.tb y;by_cases h0:0<Gt a t
   .rw[if_pos h0]at d;injection d with d;injection d with e1 d;injection d with e2 e3;subst e1;subst e2;subst e3;exact U3 [] [0] [.c [0] q,.g 25 false rfl,.k A,.t (by simpa using h0),.k w] rfl
   .rw[if_neg h0]at d;obtain⟨C,l1,d⟩:=Qd.1 d;have i:=Af j1 w1;have cl:=Me (b:=a) (l:=[]) ha.tb (λt ht=>by cases ht) Fp rfl;have cb:=hb a { x with l:=ws } r ha i;have E:=RF (T:=T) (r0:=r0) (r1:=Br a) i ha (j.p a ha) (j.n a ha) l1;have D:decide (0<Gt a t)=false:=by simpa using h0
    refine Uy [.c [0] q,.g 25 false rfl,.k A,.f D,.k cl,.c [0] cb,.c [0] E] rfl ?_;exact rd (k,⟨a,C,x.ev+1⟩,Br a,m+1) Fv ⟨lay_ok _ i ha (j.p a ha) (j.n a ha) l1,Fv,Fv,d⟩ rfl
end Orr
namespace Orr
open Go
def Pk:Fa->Nat
 | []=>0
 |x::l=>x+10000*Pk l
def Dg(l:Fa):Prop:=∀x∈l,x<10000
def Ho(x:Nat):Fa:=if h:x=0 then []else(x % 10000)::Ho (x / 10000)
termination_by x
decreasing_by omega
theorem Ti:Ho 0=[]:=by unfold Ho;simp
variable{x:Nat}
theorem JE(h:x≠0):Ho x=(x % 10000)::Ho (x / 10000):=by rw[Ho];simp[h]
theorem Sf(x:Nat):Pk (Ho x)=x:=by
 induction x using Nat.strongRecOn with
 |
  _ x ih =>
  rcases Q0 x with h|h
  .subst h;rw[Ti];rfl
  .rw[JE Fo];simp only[Pk];rw[ih _ Fo];omega
theorem Lq(x:Nat):Dg (Ho x):=by
 induction x using Nat.strongRecOn with
 |
  _ x ih =>
  rcases Q0 x with h|h
  .subst h;rw[Ti];intro y a;cases a
  .rw[JE Fo];intro y a;rcases Qm.1 a with rfl|a
   .omega
   .exact ih _ Fo y a
theorem RO:(Ho x).length=0↔x=0:=by
 constructor
 .intro h;have h0:=Qg h;have:=Sf x;rw[h0]at this;exact this.symm
 .rintro rfl;rw[Ti];rfl
theorem QC(h:x≠0):(Ho (x / 10000)).length+1=(Ho x).length:=by rw[JE h];rfl
theorem Qg1(h:x<1000000000000):(Ho x).length<=3:=by
 by_cases h0:x=0
 .subst h0;rw[Ti];exact Qj _
 .have h1:=QC h0;by_cases h2:x / 10000=0
  .rw[h2,Ti]at h1;simp at h1;omega
  .have h3:=QC h2;by_cases h4:x / 10000 / 10000=0
   .rw[h4,Ti]at h3;simp at h3;omega
   .have h5:=QC h4;have a:x / 10000 / 10000 / 10000=0:=Fo;rw[a,Ti]at h5;simp at h5;omega
theorem B6(x:Nat):(Ho x).length<=sz x:=by
 induction x using Nat.strongRecOn with
 |
  _ x ih =>
  by_cases h0:x=0
  .subst h0;rw[Ti];exact Qj _
  .have h1:=QC h0;have h2:=ih (x / 10000) Fo;have h3:sz (x / 10000)+1<=sz x:=by
    have h4:x<2^sz x:=TE x;rcases hs:sz x with _|k
    .rw[hs]at h4;simp at h4;omega
    .rw[hs]at h4;have:sz (x / 10000)<=k:=Db.2 (by rw[Zq]at h4;omega);omega
   omega
theorem Ng(a b:Fa):Pk (a++b)=Pk a+10000^a.length*Pk b:=by
 induction a with
 |nil=>simp[Pk]
 |
  cons x a ih =>
  simp only[Xg,Pk,ih,Q5,Zq];rw[Xw,<-Xy,Zt 10000 (10000^a.length)];omega
variable{l:Fa}
theorem P6{i:Nat}(h:l[i]? = some x):Pk (l.take (i+1))=Pk (l.take i)+10000^i*x:=by
 have hi:=(Qh.1 h).1;rw[show l.take (i+1)=l.take i++[x] by rw[Zv,h];rfl,Ng,Qt,Z8 Fo];simp[Pk]
theorem OV:∀{l:Fa},Dg l->Pk l<10000^l.length
 | [],_=>by simp[Pk]
 |
  x::l,h=>by
  have h1:=h x (Qy ..);have h2:=OV (l:=l) λy a=>h y (Qi _ a)
  simp only[Pk,Q5,Zq];omega
theorem OK:∀{l:Fa},(∀x∈l,x=0)->Pk l=0
 | [],_=>rfl
 |
  x::l,h=>by
  have h1:=h x (Qy ..);have h2:=OK (l:=l) λy a=>h y (Qi _ a)
  simp[Pk,h1,h2]
theorem Dg.take(h:Dg l)(k:Nat):Dg (l.take k):=λx hx=>h x (Qn hx)
theorem Dg.snoc(h:Dg l)(hx:x<10000):Dg (l++[x]):=by
 intro y a;rcases Qr.1 a with a|a
 .exact h y a
 .rw[Qk.1 a];exact hx
theorem Dg.nil:Dg []:=λx h=>by cases h
theorem aL:∀{l:Fa},Dg l->(∀x,l[l.length-1]? = some x->x≠0)->l=Ho (Pk l)
 | [],_,_=>by rw[Pk,Ti]
 |
  x::l,h,hl=>by
  have h1:=h x (Qy ..);have h2:l=Ho (Pk l):=aL (λy a=>h y (Qi _ a)) λy a=>hl y (by
   rcases l with _|⟨z,t⟩
   .simp at a
   .simpa using a)
  have h3:x+10000*Pk l≠0:=by
   intro e;have hx:x=0:=Fo;have hd:Pk l=0:=Fo;rw[hd,Ti]at h2;subst h2;exact hl x rfl hx
  simp only[Pk];rw[JE h3,show(x+10000*Pk l) % 10000=x by omega,show(x+10000*Pk l) / 10000=Pk l by omega,<-h2]
theorem mK{m:Nat}(hd:Dg l)(hm:m<=l.length)(h1:∀j x,m<=j->l[j]? = some x->x=0)(h2:0<m->∃y,l[m-1]? = some y/\y≠0):l.take m=Ho (Pk l):=by
 have e:Pk l=Pk (l.take m):=by
  conv=>lhs;rw[<-Zi m l,Ng]
  rw[OK (l:=l.drop m) λx hx=>?_]
  .omega
  .obtain⟨j,b⟩:=Zm.1 hx;rw[Xp]at b;exact h1 (m+j) x Fo b
 rw[e];refine aL (hd.take m) λx hx=>?_
 have hl:(l.take m).length=m:=by rw[Qt];omega
 rw[hl]at hx;rcases Q0 m with h0|h0
 .subst h0;simp at hx
 .obtain⟨y,c,a⟩:=h2 h0;rw[Vp Fo,c]at hx;injection hx with hx;rw[<-hx];exact a
theorem yJ{o c i d m P V:Nat}(b:P=10000^i)(h:o+c*P=V):o+P*((c+d*m) % 10000)+(c+d*m) / 10000*(P*10000)=V+P*d*m:=by
 have e:=Xq (c+d*m) 10000;generalize (c+d*m) / 10000=q at *;generalize (c+d*m) % 10000=r at *;have a:P*(c+d*m)=P*(10000*q+r):=by rw[e]
 grind
theorem VN{y:Nat}(h:x<=y):(Ho x).length<=(Ho y).length:=by
 induction y using Nat.strongRecOn generalizing x with
 |
  _ y ih =>
  by_cases h0:x=0
  .subst h0;rw[Ti];exact Qj _
  .have h1:=QC h0;have h2:=QC (x:=y) Fo;have:=ih (y / 10000) Fo (x:=x / 10000) (Nat.div_le_div_right h);omega
theorem Qg0{n:Nat}(h:10000^n<=x):n+1<=(Ho x).length:=by
 have h1:=OV (Lq x);rw[Sf]at h1;have h2:n<(Ho x).length:=(Nat.pow_lt_pow_iff_right Fp).1 (Xe h h1);omega
theorem mY{y:Nat}(h:(Ho x).length<(Ho y).length):x<y:=by
 rcases Q7 x y with h1|h1
 .exact h1
 .have:=VN h1;omega
theorem Qg2{k y:Nat}(h:y<10000^k):(Ho y).length<=k:=by
 induction k generalizing y with
 |
  zero =>
  have:y=0:=by simpa using h
  subst this;rw[Ti];exact Ql _
 |
  succ k ih =>
  by_cases a:y=0
  .subst a;rw[Ti];exact Qj _
  .have b:=QC a;have:=ih (y:=y / 10000) (by rw[Zq]at h;omega);omega
theorem Qlw{o:Fa}(h:Dg o)(hl:o.length<=(Ho (Pk o)).length):o=Ho (Pk o):=by
 refine aL h λx hx h0=>?_
 subst h0;have b:0<o.length:=by
  rcases o with _|⟨a,o⟩
  .simp at hx
  .simp
 have h1:Pk o=Pk (o.take (o.length-1)):=by
  have:=P6 hx;rw[show o.length-1+1=o.length by omega,Q6]at this;omega
 have h2:=OV (h.take (o.length-1));rw[<-h1,Qt,Z8 Fo]at h2;have:=Qg2 h2;omega
theorem VD{j d:Nat}(h:l[j]? = some d):Pk (l.drop j)=d+10000*Pk (l.drop (j+1)):=by
 obtain⟨a,he⟩:=Qh.1 h;rw[Zo a,he];rfl
theorem MF{j y:Nat}(h:j<l.length):(l.set j y).drop j=y::l.drop (j+1):=by
 rw[Zo (by simpa using h)];simp only[List.getElem_set_self];rw[List.drop_set_of_lt Fo]
theorem Dg.set(h:Dg l){j y:Nat}(a:y<10000):Dg (l.set j y):=by
 intro x hx;rcases J7 hx with hx|rfl
 .exact h x hx
 .exact a
theorem Dg.zeros(n:Nat):Dg (List.replicate n 0):=by
 intro x hx;rw[Z0 hx];decide
theorem mU{V kd d:Nat}(a:0<kd):(d+10000*V) / kd=(V % kd*10000+d) / kd+10000*(V / kd)/\(d+10000*V) % kd=(V % kd*10000+d) % kd/\(d<10000->(V % kd*10000+d) / kd<10000):=by
 have e:=Xq V kd;have b:d+10000*V=(V % kd*10000+d)+kd*(10000*(V / kd)):=by
  conv=>lhs;rw[<-e]
  grind
 refine⟨?_,?_,λhd=>?_⟩
 .rw[b,Ws _ _ a]
 .rw[b,Kt]
 .have:=Xf V a;exact(Kf a).2 Fu
theorem LN(l:Fa)(j:Nat)(h:j<=l.length):Pk l=Pk (l.take j)+10000^j*Pk (l.drop j):=by
 conv=>lhs;rw[<-Zi j l,Ng]
 rw[Qt,Z8 h]
theorem II{a b:Fa}{j d e:Nat}(ha:Dg a)(hd:a[j]? = some d)(he:b[j]? = some e)(hs:a.drop (j+1)=b.drop (j+1))(h:d<e):Pk a<Pk b:=by
 have h1:=(Qh.1 hd).1;have h2:=(Qh.1 he).1;rw[LN a j Fo,LN b j Fo,VD hd,VD he,hs];have h3:=OV (ha.take j);rw[Qt,Z8 Fo]at h3;generalize 10000^j=P at *;have h4:P*(d+10000*Pk (b.drop (j+1)))+P<=P*(e+10000*Pk (b.drop (j+1))):=by
  rw[<-Uo];exact Zl _ Fo
 omega
def dl(l:Fa):LV:=.row (l.map λ(x:Nat)=>[.int .i64 (x:Int)])
theorem Su(l:Fa):(l.map λ(x:Nat)=>[LV.int .i64 (x:Int)]).length=l.length:=Ft
theorem Rj{i:Nat}(h:l[i]? = some x):(l.map λ(x:Nat)=>[LV.int .i64 (x:Int)])[i]? = some [.int .i64 (x:Int)]:=by rw[Q9,h];rfl
abbrev nd(x:Nat):LV:=dl (Ho x)
end Orr
namespace Orr
open Go Go.Proofs Tryz
set_option maxRecDepth 10000
abbrev D8(l:Fa):Ff:=l.map λ(x:Nat)=>[.int .i64 (x:Int)]
theorem Qz3(l:Fa):∀c∈D8 l,c.length=1:=λc hc=>by obtain⟨x,_,rfl⟩:=Q8.1 hc;rfl
theorem MJ{l:Fa}(hd:Dg l):U5 195 [.one (.row (D8 l))] [.one (nd (Pk l))]:=by
 refine G7 func195 rfl (ln 0 rfl rfl λhl=>?_);rw[Ze]at hl;refine Ux [] rfl ?_;refine lp (S:=Nat) 0 (λL1 n=>(3,.v (.oi n))::L1) (λ_=>[]) id (λn=>n<=l.length/\∀j x,n<=j->l[j]? = some x->x=0) (D8 l).length ⟨Ft,λj x h1 h2=>by
  have:=(Qh.1 h2).1;simp at h1;omega⟩ rfl (λ_ _=>rfl) rfl λn ⟨h1,h2⟩=>?_
 cases n with
 |zero=>exact Uz [.g 8 false Ft,.f rfl,.i 0] rfl (by have:=mK hd h1 h2 (λh=>Fo);unfold nd;rw[<-this];simp[dl]) Fy
 |
  succ n =>
  obtain⟨x,hx⟩:=gxE (l:=l) (i:=n) Fo;by_cases h0:x=0
  .refine Uy [.g 8 true Ft,.r 11 (v:=.oi n) Ft,.x (Rj hx),.t (by simp[h0]),.r 17 (v:=.oi n) Ft] rfl ?_;exact rd n Ft ⟨Fo,λj y h3 h4=>by
    rcases Vy h3 with rfl|h3
    .rw[hx]at h4;injection h4 with h4;rw[<-h4,h0]
    .exact h2 j y h3 h4⟩ rfl
  .exact Uz [.g 8 true Ft,.r 11 (v:=.oi n) Ft,.x (Rj hx),.f (by simp[h0]),.i (n+1)] rfl (by have:=mK hd h1 h2 (λ_=>⟨x,hx,h0⟩);unfold nd;rw[<-this];simp[dl,List.map_take]) Fx
variable{x:Nat}
theorem Qco{kd:Nat}(m:sz x<=100000000)(w:0<kd/\kd<=65536):U5 194 [.one (nd x),.oi kd] [.one (nd (x / kd)),.oi ((x % kd:Nat):Int)]:=by
 have h:=Qa (B6 x) m;obtain⟨l,hl⟩:=nmE (Ho x);have hx:Pk l=x:=by rw[hl,Sf]
 have hd:Dg l:=by rw[hl];exact Lq x
 show U5 194 [.one (.row (D8 (Ho x))),.oi kd] _;rw[<-hl]at h ⊢;rw[<-hx];have q:=Su l;refine G7 func194 rfl ?_;refine Uy [.i (D8 l).length,.i (D8 l).length] rfl ?_;rw[q,show List.replicate l.length [LV.int .i64 0]=D8 (List.replicate l.length 0) from by simp[D8]];refine U4 (S:=Nat×Fa×Nat) 1 (λL1 s=>(8,.v (.oi ((s.1:Int)-1)))::(7,.v (.oi (s.2.2:Int)))::L1) (λs=>[.row false 3 1 (D8 s.2.1)]) (λs=>s.1) (λs=>s.1<=l.length/\s.2.1.length=l.length/\Dg s.2.1/\Pk (s.2.1.drop s.1)=Pk (l.drop s.1) / kd/\s.2.2=Pk (l.drop s.1) % kd) (l.length,List.replicate l.length 0,0) ⟨Ql _,Ft,Dg.zeros _,by simp[Pk],by simp[Pk]⟩ rfl rfl λ⟨k,o,R⟩ ⟨j1,j2,j3,j4,hR⟩=>?_
 dsimp only at j1 j2 j3 j4 hR ⊢;cases k with
 |
  zero =>
  have y:=MJ j3;rw[Jd,Jd]at j4;rw[j4]at y;exact Uz [.f Ft,.k y] rfl (by rw[hR,Jd]) trivial
 |
  succ k =>
  obtain⟨d,a⟩:=gxE (l:=l) (i:=k) Fo;have u:=hd d (Qc a);have j:=VD a;obtain⟨g,n,z⟩:=mU (V:=Pk (l.drop (k+1))) (kd:=kd) (d:=d) w.1;rw[<-j]at g n;have hr:=Xf (Pk (l.drop (k+1))) w.1;rw[<-hR]at g n z hr;have e:((k+1:Nat):Int)-1=(k:Int):=Fo;have p:((R:Int)*10000+(d:Int)).tdiv (kd:Int)=(((R*10000+d) / kd:Nat):Int):=rfl;have c:=J8 (R*10000+d) kd;have A:0<=((R:Int)*10000+(d:Int)).tdiv (kd:Int)/\((R:Int)*10000+(d:Int)).tdiv (kd:Int)<=655369999:=by
   rw[p];revert c;generalize (R*10000+d) / kd=Q;intro c;omega
  rw[e];refine Uy [.t Ft,.x (Rj a),.r 26 (eI (b:=((R*10000+d:Nat):Int)) Fo),.r 31 (eI (b:=(((R*10000+d) / kd:Nat):Int)) (by rfl)),.i k,.r 35 (eI (b:=(((R*10000+d) % kd:Nat):Int)) (by rfl))] rfl ?_;exact rd (k,o.set k ((R*10000+d) / kd),(R*10000+d) % kd) Fv ⟨Fv,by simp[j2],j3.set (z u),by dsimp only;rw[MF Fo];simp only[Pk];rw[j4,g],by dsimp only;exact n.symm⟩ (by simp[D8,List.map_set];rfl)
theorem Q1x(x k:Nat):sz (x / k)<=sz x:=Sk (J8 _ _)
theorem iO{y:Nat}{o:Fa}(h:He x=o++He y)(h0:y≠0):He x=(o++[y % 4294967296])++He (y / 4294967296):=by
 rw[h,Oa h0];simp
theorem Que(o:Fa)(z:Nat):lm (o++[z])=lm o++[[.int .u32 (z:Int)]]:=by simp[lm]
theorem Q3f(hx:sz x<=100000000):U5 124 [.one (nd x)] [lr (He x)]:=by
 have i:=Sp hx;refine G7 func124 rfl ?_;refine Ux [.o 3 127 1] rfl ?_;refine U4 (S:=Nat×Fa) 1 (λL1 s=>(0,.v (.one (nd s.1)))::(3,.v (.one (.orow 0 1 none)))::L1) (λs=>[.row false 127 1 (lm s.2)]) (λs=>s.1) (λs=>He x=s.2++He s.1/\s.1<=x) (x,[]) ⟨rfl,Ql _⟩ rfl rfl λ⟨y,o⟩ ⟨j1,j2⟩=>?_
 dsimp only at j1 j2 ⊢;by_cases h0:y=0
 .subst h0;rw[Ru,Zx]at j1;rw[j1];exact Uz [.f (by simp[Ti])] rfl
 .have hs:=iO j1 h0;have a:sz y<=100000000:=Qa (Sk j2) hx;have d:=Qco (x:=y) (kd:=65536) a Fp;have g:=Qco (x:=y / 65536) (kd:=65536) (Qa (Q1x _ _) a) Fp;have hl:(Ho y).length≠0:=λh=>h0 (RO.1 h)
  have ol:o.length<=(He x).length:=by rw[j1];simp
  have e:y / 65536 % 65536*65536+y % 65536=y % 4294967296:=Fo;have j:y / 65536 / 65536=y / 4294967296:=Fo;refine go tt [.t Fq,.k d,.k g,.r 26 (Iw (b:=((y % 4294967296:Nat):Int)) Fo),.s (sz:=1) (l:=[[.int .u32 ((y % 4294967296:Nat):Int)]]) (λc hc=>by rw[Qk.1 hc];rfl)] rfl (by simp[Gi,Gh];omega) ?_;rw[<-j]at hs;exact rd (y / 65536 / 65536,o++[y % 4294967296]) Fv ⟨hs,Fv⟩ (by rw[Que];rfl)
abbrev ri(z:Int):Fe:=[nd z.natAbs,sg z]
theorem Q4e(b:Bool)(m:Nat):[nd m,LV.bool (b && decide (0<m))]=ri (Gn b m):=by
 simp only[ri,sg,Sy,qN]
theorem Q01(x:Nat):(0<(Ho x).length)↔0<x:=by
 have:=RO (x:=x);omega
theorem B5(b:Bool)(m:Nat):U5 81 [.one (nd m),.one (.bool b)] [.agg (ri (Gn b m))]:=by
 rw[<-Q4e];have e:=Q01 m;cases b with
 |false=>exact U0 func81 rfl [.g 7 false rfl] rfl
 |true=>exact U0 func81 rfl [.g 7 true rfl] rfl (by simp[e]) trivial
variable{z:Int}
theorem Ab:U5 78 [.agg (ri z)] [.one (.bool (decide (z=0)))] :=
 U0 func78 rfl [] rfl (by have h:=RO (x:=z.natAbs);simp only[Su];congr 3;rw[decide_eq_decide];omega) trivial
theorem JM:U5 77 [.agg (ri z)] [.agg (ri (-z))]:=by
 have h:=B5 (!decide (z<0)) z.natAbs;have e:Gn (!decide (z<0)) z.natAbs=-z:=by unfold Gn;by_cases h:z<0 <;> simp[h] <;> omega
 rw[e]at h;exact U0 func77 rfl [.k h] rfl
theorem Qzf(hz:Gm z<=100000000):U5 67 [.agg (ri z)] [.agg (Rr z)] :=
 U0 func67 rfl [.k (Q3f hz)] rfl
theorem eBo{a b:Bool}(h:a=b):TV.one (LV.bool a)=.one (.bool b):=h ▸ rfl
theorem QL(l:Fa)(x:Nat):D8 (l++[x])=D8 l++[[.int .i64 (x:Int)]]:=by simp[D8]
theorem mV{y:Nat}{o:Fa}(h:Ho x=o++Ho y)(h0:y≠0):Ho x=(o++[y % 10000])++Ho (y / 10000):=by
 rw[h,JE h0];simp
theorem Qzi{b:Bool}(hx:x<=4000000000000000000)(hb:b=true->0<x):U5 34 [.oi (Gn b x)] [.agg (ri (Gn b x))]:=by
 have hl:(Ho x).length<=100:=by
  have:=B6 x;have h2:sz x<=64:=Db.2 Fo;omega
 have hm:=B5 b x;refine G7 func34 rfl ?_;cases b with
 |
  false =>
  show AK prog _ _ _ (FG 0 [.oi x]) [];refine Ux [.f (by simp <;> omega),.r 3 (eBo (b:=false) Ft),.f rfl,.o 4 3 1] rfl ?_;refine U4 (S:=Nat×Fa) 2 (λL1 s=>(0,.v (.oi (s.1:Int)))::(4,.v (.one (.orow 1 1 none)))::L1) (λs=>[.blk 50 [.nils,.bool false],.row false 3 1 (D8 s.2)]) (λs=>s.1) (λs=>Ho x=s.2++Ho s.1/\s.1<=x) (x,[]) ⟨rfl,Ql _⟩ rfl rfl λ⟨y,o⟩ ⟨j1,j2⟩=>?_
  dsimp only at j1 j2 ⊢;by_cases h0:y=0
  .subst h0;rw[Ti,Zx]at j1;rw[<-j1];exact Uz [.f Ft,.k hm] rfl
  .have hs:=mV j1 h0;have ol:o.length<=(Ho x).length:=by rw[j1];simp
   refine go tt [.t Fq,.r 18 (eI (b:=((y % 10000:Nat):Int)) (by rfl)),.s (sz:=1) (l:=[[.int .i64 ((y % 10000:Nat):Int)]]) (λc hc=>by rw[Qk.1 hc];rfl),.r 22 (eI (b:=((y / 10000:Nat):Int)) (by rfl))] rfl (by simp[Gi,Su];omega) ?_;exact rd (y / 10000,o++[y % 10000]) Fv ⟨hs,Fv⟩ (by rw[QL];rfl)
 |
  true =>
  show AK prog _ _ _ (FG 0 [.oi (-(x:Int))]) [];refine Uy [.f (by simp <;> omega),.r 3 (eBo (b:=true) (by simpa using hb rfl)),.t rfl,.r 0 (eI (b:=(x:Int)) Fo),.o 4 3 1] rfl ?_;refine U4 (S:=Nat×Fa) 2 (λL1 s=>(0,.v (.oi (s.1:Int)))::(4,.v (.one (.orow 1 1 none)))::L1) (λs=>[.blk 50 [.nils,.bool false],.row false 3 1 (D8 s.2)]) (λs=>s.1) (λs=>Ho x=s.2++Ho s.1/\s.1<=x) (x,[]) ⟨rfl,Ql _⟩ rfl rfl λ⟨y,o⟩ ⟨j1,j2⟩=>?_
  dsimp only at j1 j2 ⊢;by_cases h0:y=0
  .subst h0;rw[Ti,Zx]at j1;rw[<-j1];exact Uz [.f Ft,.k hm] rfl
  .have hs:=mV j1 h0;have ol:o.length<=(Ho x).length:=by rw[j1];simp
   refine go tt [.t Fq,.r 18 (eI (b:=((y % 10000:Nat):Int)) (by rfl)),.s (sz:=1) (l:=[[.int .i64 ((y % 10000:Nat):Int)]]) (λc hc=>by rw[Qk.1 hc];rfl),.r 22 (eI (b:=((y / 10000:Nat):Int)) (by rfl))] rfl (by simp[Gi,Su];omega) ?_;exact rd (y / 10000,o++[y % 10000]) Fv ⟨hs,Fv⟩ (by rw[QL];rfl)
theorem ZO{n:Int}(hn:-4000000000000000000<=n/\n<=4000000000000000000):U5 34 [.oi n] [.agg (ri n)]:=by
 have e:Gn (decide (n<0)) n.natAbs=n:=by unfold Gn;by_cases h:n<0 <;> simp[h] <;> omega
 have h:=Qzi (b:=decide (n<0)) (x:=n.natAbs) Fo (λh=>by have:=of_decide_eq_true h;omega);rwa[e]at h
abbrev fr(q:Rat):Fe:=ri q.num++ri (q.den:Int)
theorem QD:Ho 1=[1]:=by rw[JE Fp];rw[Ti]
variable{n:Int}
theorem Al:U5 33 [.agg (ri n),.agg (ri 1)] [.agg (fr (n:Rat))]:=by
 have h0:(D8 (Ho (1:Int).natAbs))[0]? = some [LV.int .i64 1]:=by rw[show(1:Int).natAbs=1 from rfl,QD];rfl
 have h1:decide (((D8 (Ho (1:Int).natAbs)).length:Int)=1)=true:=by rw[show(1:Int).natAbs=1 from rfl,QD];rfl
 exact U0 func33 rfl [.k (Ab (z:=1)),.f rfl,.f rfl,.g 19 true h1,.x h0,.t rfl] rfl
theorem JS(hn:-4000000000000000000<=n/\n<=4000000000000000000):U5 24 [.oi n,.oi 1] [.agg (fr (n:Rat))] :=
 U0 func24 rfl [.k (ZO hn),.k (ZO (n:=1) Fp),.k Al] rfl
theorem pU{q:Rat}(a:Qs 100000000 q):U5 22 [.agg (fr q)] [.agg (rl q)] :=
 U0 func22 rfl [.k (Qzf a.1),.k (Qzf a.2)] rfl
end Orr
namespace Orr
open Go Go.Proofs Tryz Orq
set_option maxRecDepth 10000
theorem XQ{a:Tm}(ha:Va a):RE a a=some 0:=by
 obtain⟨c,d,b⟩:=QP ha ha;rcases b with⟨_,h⟩|⟨e,_⟩|⟨_,h⟩
 .exact absurd h λh=>Cq ha.cut ha.cut h h
 .rw[d,e]
 .exact absurd h λh=>Cq ha.cut ha.cut h h
variable{c:Cr}{l:List Pt}{r1:Ff}{ws:List Wt}
theorem uY{l':List Pt}(hc:CrOk c)(hl:∀p∈l',Sc p.c)(hn:l'.length≤1000)(h:Po c.l c.now (Gv (VY l' c.now))=some ws):
 Ge prog 355 [.one (.ow 0 0),.agg [pts l'],.oi 0] [.blk 200 (Te c (Ga l) r1)] [.oi 0] [.blk 200 (Te ⟨c.now,ws,c.ev⟩ (Ga l') (xN l' c.now))]:=by
 have a:=eY hl hn;have d:=JR (T:=200) (c:=c) (r0:=Ga l') (r1:=r1) hc.n;have cb:=jM (c:=c) (r1:=r1) hl hn hc.n;have b:=WE (T:=200) (r0:=Ga l') (r1:=xN l' c.now) hc hc.n (XQ hc.n) (Y0 0) (a.p _ hc.n) (a.n _ hc.n) h;refine G7 func355 rfl ?_;exact U3 [] [0] [.f rfl,.c [0] d,.c [0] cb,.c [0] b] rfl
theorem Qzc{s:List Pt}(hs:s.length<=1000000):Ge prog 104 [.one (.ow 0 0)] [.blk 200 (Te c (Ga l) (Ga s))] [.one (ids (s.map (·.id)))] [.blk 200 (Te c (Ga l) (Ga s))]:=by
 have b:=Rl s;refine G7 func104 rfl ?_;refine Ux [.o 3 3 1] rfl ?_;refine U4 (S:=Nat) 2 (λL1 i=>(11,.v (.oi i))::(3,.v (.one (.orow 1 1 none)))::L1) (λi=>[.blk 200 (Te c (Ga l) (Ga s)),.row false 3 1 (((s.take i).map (·.id)).map λ(z:Int)=>[LV.int .i64 z])]) (λi=>s.length-i) (λi=>i<=s.length) 0 (Qj _) rfl rfl λi hi=>?_
 by_cases a:i<s.length
 .obtain⟨p,hp⟩:=gxE (l:=s) (i:=i) a;have hg:(((s.take (i+1)).map (·.id)).map λ(z:Int)=>[LV.int .i64 z])=(((s.take i).map (·.id)).map λ(z:Int)=>[LV.int .i64 z])++[[.int .i64 p.id]]:=by
   rw[Zv,hp];simp
  refine Uy [.t (by simp[b];omega),.x (Ms hp),.s (sz:=1) (l:=[[.int .i64 p.id]]) (λc hc=>by rw[Qk.1 hc];rfl)] rfl ?_;exact rd (i+1) Fo a (by rw[hg];rfl)
 .obtain rfl:i=s.length:=Fo;rw[Q6];exact U3 [1] [0] [.f (by simp[b])] rfl
theorem Qzd{lx ly:Ff}{px py:U8}{x y:LV}{d id:Int}(hx:IsInts lx px)(f:IsInts ly py)(hd:Hi x y d)(a:Cs 4294967294 1073741824 (Crv.mk px py d))(e:l.length<=900)
 (he:HY l ⟨Crv.norm (Crv.mk px py d),id⟩=0) (hc:CrOk c) (hl:∀p∈put l ⟨Crv.norm (Crv.mk px py d),id⟩,Sc p.c) (hn:(put l ⟨Crv.norm (Crv.mk px py d),id⟩).length≤1000) (h:Po c.l c.now (Gv (VY (put l ⟨Crv.norm (Crv.mk px py d),id⟩) c.now))=some ws) :
 Ge prog 351 [.one (.ow 0 0),.agg [.row lx,.row ly,x,y,.int .i64 id]] [.blk 200 (Te c (Ga l) r1)] [.oi 0] [.blk 200 (Te ⟨c.now,ws,c.ev⟩ (Ga (put l ⟨Crv.norm (Crv.mk px py d),id⟩)) (xN (put l ⟨Crv.norm (Crv.mk px py d),id⟩) c.now))]:=by
 have cp:=pV (l:=l) (id:=id) hx f hd a Fo;rw[if_pos he,he]at cp;have g:=uY (l:=l) (r1:=r1) hc hl hn h;refine G7 func351 rfl ?_;obtain⟨b,l',rfl,rfl,_⟩:=hd;exact U3 [] [0] [.k cp,.c [0] g] rfl
theorem Qzb{t:Rat}{K:Nat}{c':Cr}{b:Ff}{n:Int}(ht:Qs 1640000 t)(hl:∀p∈l,Sc p.c)(hn:l.length≤1000)(hc:CrOk c)(d:0≤c.ev/\c.ev+K≤1000000000000000000)(h:Gt c.now t≤0)(hg:HE (VY l) (xN l) t K c r1 0=some (c',b,n)):
 Ge prog 346 [.one (.ow 0 0),.agg (rl t)] [.blk 200 (Te c (Ga l) r1)] [.oi n,.oi 0] [.blk 200 (Te c' (Ga l) b)]:=by
 have e:=Q27 (T:=200) (r0:=Ga l) ht (eY hl hn) (λa c r1 ha _=>jM (c:=c) (r1:=r1) hl hn ha) hc d h hg;refine G7 func346 rfl ?_;exact U3 [] [0] [.k (Dk (ht.mono Fp)),.c [0] e] rfl
theorem Qkd{r0:Ff}:Ge prog 142 [.one (.ow 0 0)] [.blk 200 (Te c r0 r1)] [.one (.ow 1 0)] [.blk 200 (Te c r0 r1),.blk 200 (Te c r0 r1)]:=by
 refine G7 func142 rfl ?_;exact U3 [] [0,1] [] rfl
abbrev idl(l:U8):Ff:=l.map λ(z:Int)=>[.int .i64 z]
theorem TS{l:U8}{i:Nat}{z:Int}(h:l[i]? = some z):(idl l)[i]? = some [.int .i64 z]:=Ra h
theorem Qkf{a b:U8}(ha:a.length<=1000000)(hb:b.length<=1000000):U5 54 [.one (ids a),.one (ids b)] [.one (.bool (decide (a=b)))]:=by
 show U5 54 [.one (.row (idl a)),.one (.row (idl b))] _;have la:(idl a).length=a.length:=Ft;have lb:(idl b).length=b.length:=Ft;refine G7 func54 rfl ?_;by_cases hl:a.length=b.length
 .refine Ux [.f Fq] rfl ?_;refine U4 (S:=Nat) 0 (λL1 i=>(5,.v (.oi i))::L1) (λ_=>[]) (λi=>a.length-i) (λi=>i<=a.length/\a.take i=b.take i) 0 ⟨Qj _,rfl⟩ rfl rfl λi ⟨hi,he⟩=>?_
  by_cases d:i<a.length
  .obtain⟨x,hx⟩:=gxE (l:=a) (i:=i) d;obtain⟨y,g⟩:=gxE (l:=b) (i:=i) Fo;by_cases e:x=y
   .refine Uy [.t Fq,.x (TS hx),.x (TS g),.f (by simpa using e)] rfl ?_;exact rd (i+1) Fo ⟨d,by rw[Zv,Zv,hx,g,he,e]⟩ rfl
   .have c:a≠b:=λh=>by rw[h,g]at hx;injection hx with hx;exact e hx.symm
    exact Uz [.t Fq,.x (TS hx),.x (TS g),.t (by simpa using e)] rfl (by simp[c]) trivial
  .obtain rfl:i=a.length:=Fo;have j:a=b:=by rw[Q6]at he;rw[he,hl,Q6]
   exact Uz [.f Ft] rfl (by simp[j]) trivial
 .have c:a≠b:=λh=>hl (by rw[h])
  exact Uz [.t Fq] rfl (by simp[c]) trivial
def Cx(v n:Int):Int:=if n<1 then 0 else v.emod n
theorem Qij{v n:Int}(h:0<n):(if v.tmod n<0 then v.tmod n+n else v.tmod n)=v % n:=by
 have h3:=Y3 v (show n≠0 by omega);have h4:=J9 v h;have h1:=Int.tmod_eq_emod (a:=v) (b:=n);have hn:((n.natAbs:Nat):Int)=n:=Fo
 split at h1
 .rw[h1];simp;omega
 .rename_i hc;rw[h1,hn];have:v % n≠0:=λe=>hc (.inr (Vs e))
  rw[if_pos Fo];omega
theorem On{v n:Int}(hv:-9223372036854775808<=v/\v<=9223372036854775807)(hn:n<=1000000000):U5 17 [.oi v,.oi n] [.oi (Cx v n)]:=by
 unfold Cx;by_cases h:n<1
 .rw[if_pos h];exact U0 func17 rfl [.t (by simpa using h)] rfl
 .rw[if_neg h];have e:=Qij (v:=v) (n:=n) Fo;have h3:=Y3 v (show n≠0 by omega);have h4:=J9 v (show 0<n by omega);show U5 17 [.oi v,.oi n] [.oi (v % n)];by_cases h0:v.tmod n<0
  .rw[if_pos h0]at e;have b:-n<=v.tmod n:=Fo;exact U0 func17 rfl [.f (by simpa using h),.t (by simpa using h0)] rfl (by rw[e]) Fw
  .rw[if_neg h0]at e;exact U0 func17 rfl [.f (by simpa using h),.f (by simpa using h0)] rfl (by rw[e]) Fw
end Orr
namespace Orr
open Go Go.Proofs Tryz Orq
theorem dW{x y:Int}(hx:-9223372036854775808<=x/\x<=9223372036854775807)(a:-9223372036854775808<=y/\y<=9223372036854775807):Sc (JJ x y):=⟨Crv.nml _,((mX hx a).norm Fp).mono Fp Fp⟩
end Orr
namespace Orr
open Go Go.Proofs Tryz Orq
set_option maxRecDepth 10000
def sL(l:List Pt)(a:Tm):List Ct:=Ei (G6 a) l
abbrev brP(l:List Pt)(a:Tm):Ff:=Ga (KO (G6 a) l)
variable{l:List Pt}
theorem Qbv{a:Tm}:∀x∈sL l a,x.p∈xT l:=λx hx=>by
 match l,hx with
 |
  u::v::l',hx =>
  unfold sL at hx;simp only[Ei]at hx;obtain⟨h3,h4⟩:=Au (G6 a) (l:=u::v::l') (H6 (u::v::l')) (u,v) ⟨Ft,Ft⟩ (Mp _ _);obtain⟨m,hm,rfl⟩:=MG hx;obtain⟨h1,h2⟩:=Mp _ _ m hm;rw[qR];exact ED h3 h4 h1 h2
theorem Qja(hl:∀p∈l,Sc p.c)(hn:l.length≤10):BuildOk (sL l) :=
 ⟨λ_ _ x hx=>RZ hl _ (Qbv x hx),λa _=>by
  have:=vE (G6 a) l;have:l.length*l.length<=10*10:=Zf hn hn;show(Ei (G6 a) l).length<=1000;omega⟩
def Q21(l:List Pt)(a:Tm):Cr:=⟨a,(Gv (sL l a)).map fresh,0⟩
variable{c:Cr}
theorem Qsf{t:Rat}{K:Nat}{c':Cr}{r1 b:Ff}{n:Int}(ht:Qs 1640000 t)(hl:∀p∈l,Sc p.c)(hn:l.length≤10)(hc:CrOk c)(d:0≤c.ev/\c.ev+K≤1000000000000000000)(h:Gt c.now t≤0)(hg:HE (sL l) (brP l) t K c r1 0=some (c',b,n)):
 Ge prog 385 [.one (.ow 0 0),.agg (rl t)] [.blk 210 (Te c (Ga l) r1)] [.oi n,.oi 0] [.blk 210 (Te c' (Ga l) b)]:=by
 have e:=Qy3 (T:=210) (r0:=Ga l) ht (Qja hl hn) (λa c r1 ha _=>jP (c:=c) (r1:=r1) hl hn ha) hc d h hg;refine G7 func385 rfl ?_;exact U3 [] [0] [.k (Dk (ht.mono Fp)),.c [0] e] rfl
variable{r0:Ff}
theorem Qb8{a b:Pt}:Ge prog 108 [.one (.ow 0 0)] [.blk 210 (Te c r0 (Ga [a,b]))] [.oi a.id,.oi b.id,.one (.bool true)] [.blk 210 (Te c r0 (Ga [a,b]))]:=by
 refine G7 func108 rfl ?_;exact U3 [] [0] [.f rfl,.x (l:=Ga [a,b]) (i:=0) (xs:=Gq a) rfl,.x (l:=Ga [a,b]) (i:=1) (xs:=Gq b) rfl] rfl
theorem pY:Ge prog 108 [.one (.ow 0 0)] [.blk 210 (Te c r0 [])] [.oi 0,.oi 0,.one (.bool false)] [.blk 210 (Te c r0 [])]:=by
 refine G7 func108 rfl ?_;exact U3 [] [0] [.t rfl] rfl
end Orr
namespace Orr
open Go
def DU(q:U8->Int)(a b:Pt):Pt×Pt:=if Ln q a b=true then(a,b)else(b,a)
def XL(q:U8->Int):Nat->List Pt->List Pt×List (Pt×Pt)
 | 0,l=>(l,[])
 |
  k+1,l=>if l.length<2 then(l,[])else
  match (XL q k (l.take ((l.length+1) / 2))).1,(XL q k (l.drop ((l.length+1) / 2))).1 with
  |a::_,b::_=>([(DU q a b).1],(XL q k (l.take ((l.length+1) / 2))).2++(XL q k (l.drop ((l.length+1) / 2))).2++[DU q a b])
  |_,_=>([],[])
theorem Ez(q:U8->Int):∀(k:Nat) (l:List Pt),l.length<=k->XL q k l=XL q l.length l
 | 0,l,h=>by rw[show l.length=0 by omega]
 |
  k+1,l,h=>by
  cases hl:l.length with
  |zero=>simp[XL,hl]
  |
   succ m =>
   simp only[XL];by_cases h2:l.length<2
   .rw[if_pos h2,if_pos h2]
   .rw[if_neg h2,if_neg h2];have h3:(l.take ((l.length+1) / 2)).length<=m:=by rw[Qt];omega
    have h4:(l.drop ((l.length+1) / 2)).length<=m:=by rw[Za];omega
    rw[Ez q k (l.take ((l.length+1) / 2)) Fo,Ez q k (l.drop ((l.length+1) / 2)) Fo,Ez q m (l.take ((l.length+1) / 2)) h3,Ez q m (l.drop ((l.length+1) / 2)) h4]
termination_by k=>k
def Lj(q:U8->Int)(l:List Pt):List Pt×List (Pt×Pt):=XL q l.length l
variable{l:List Pt}
theorem Lx(q:U8->Int)(h:l.length<2):Lj q l=(l,[]):=by
 unfold Lj;cases hl:l.length with
 |zero=>rfl
 |succ m=>simp only[XL];rw[if_pos h]
theorem XE(q:U8->Int)(h:¬l.length<2){a b:Pt}(ha:(Lj q (l.take ((l.length+1) / 2))).1=[a])(hb:(Lj q (l.drop ((l.length+1) / 2))).1=[b]):
 Lj q l=([(DU q a b).1],(Lj q (l.take ((l.length+1) / 2))).2++(Lj q (l.drop ((l.length+1) / 2))).2++[DU q a b]):=by
 unfold Lj at ha hb ⊢;obtain⟨m,hm⟩:∃m,l.length=m+1:=⟨l.length-1,Fo⟩;have h3:(l.take ((l.length+1) / 2)).length<=m:=by rw[Qt];omega
 have h4:(l.drop ((l.length+1) / 2)).length<=m:=by rw[Za];omega
 rw[<-Ez q m _ h3]at ha ⊢;rw[<-Ez q m _ h4]at hb ⊢;rw[show XL q l.length l=XL q (m+1) l by rw[hm]];simp only[XL];rw[if_neg h,ha,hb]
theorem C7(q:U8->Int):∀(k:Nat) (l:List Pt),l.length≤k->0<l.length->∃a,(Lj q l).1=[a]/\a∈l/\∀m∈(Lj q l).2,m.1∈l/\m.2∈l
 | 0,l,h,h0=>Fo
 |
  k+1,l,h,h0=>by
  by_cases h2:l.length<2
  .rw[Lx q h2]
   match l,h0,h2 with
   | [a],_,_=>exact⟨a,rfl,Ft,Ft⟩
  .obtain⟨a,ha,e,c⟩:=C7 q k (l.take ((l.length+1) / 2)) (by rw[Qt];omega) (by rw[Qt];omega);obtain⟨b,hb,hbl,d⟩:=C7 q k (l.drop ((l.length+1) / 2)) (by rw[Za];omega) (by rw[Za];omega);rw[XE q h2 ha hb];have hd:(DU q a b).1∈l/\(DU q a b).2∈l:=by
    unfold DU;split
    .exact⟨Qn e,Q3 hbl⟩
    .exact⟨Q3 hbl,Qn e⟩
   refine⟨_,rfl,hd.1,λm hm=>?_⟩;rcases Qr.1 hm with hm|hm
   .rcases Qr.1 hm with hm|hm
    .exact⟨Qn (c m hm).1,Qn (c m hm).2⟩
    .exact⟨Q3 (d m hm).1,Q3 (d m hm).2⟩
   .rw[Qk.1 hm];exact hd
theorem E4(q:U8->Int):∀(k:Nat) (l:List Pt),l.length<=k->(Lj q l).2.length<=l.length-1
 | 0,l,h=>by rw[Lx q Fo];simp
 |
  k+1,l,h=>by
  by_cases h2:l.length<2
  .rw[Lx q h2];simp
  .obtain⟨a,ha,_⟩:=C7 q l.length (l.take ((l.length+1) / 2)) (by rw[Qt];omega) (by rw[Qt];omega);obtain⟨b,hb,_⟩:=C7 q l.length (l.drop ((l.length+1) / 2)) (by rw[Za];omega) (by rw[Za];omega);rw[XE q h2 ha hb];have h3:=E4 q k (l.take ((l.length+1) / 2)) (by rw[Qt];omega);have h4:=E4 q k (l.drop ((l.length+1) / 2)) (by rw[Za];omega);rw[Qt]at h3;rw[Za]at h4;simp only[Qw,Kc];omega
abbrev Qhs(m:Pt×Pt):Fe:=[pl m.1.c.x,pl m.1.c.y,sg m.1.c.d,mg m.1.c.d,.int .i64 m.1.id,pl m.2.c.x,pl m.2.c.y,sg m.2.c.d,mg m.2.c.d,.int .i64 m.2.id]
end Orr
namespace Orq
open Orr Go
def TD(q:Rat)(x y:Pt):Prop:=py y q<py x q\/py y q=py x q/\(px y q<px x q\/px y q=px x q/\x.id<y.id)
theorem Qnp(q:Rat)(x:Pt):¬TD q x x:=by unfold TD;grind
theorem Quc(q:Rat)(x y z:Pt)(h:TD q x y)(a:TD q y z):TD q x z:=by unfold TD at *;grind
variable{q:Rat}
theorem Qnq{x y:Pt}(h:x.id≠y.id)(a:¬TD q x y):TD q y x:=by unfold TD at *;grind
variable{a:Tm}
theorem Qfw(ha:Va a){x y:Pt}(hx:Sc x.c)(b:Sc y.c)(h1:Rp (G6 a) (Hr y.c x.c)=Gu (Gf (Hr y.c x.c) q))(h2:Rp (G6 a) (Ht y.c x.c)=Gu (Gf (Ht y.c x.c) q)):Ln (G6 a) x y=true↔TD q x y:=by
 rw[NL b hx]at h1;rw[NE b hx]at h2;have g:=(Cy b hx).dp;have f:=(Cz b hx).dp;unfold Ln;simp only[Ie];have i:=Hd (py x q-py y q);have h:=Hd (px x q-px y q);by_cases d:(Hr y.c x.c).length=0
 .rw[if_neg Fo];rw[Qg d,VI]at h1;have:py x q=py y q:=Fu;by_cases e:(Ht y.c x.c).length=0
  .rw[if_neg Fo];rw[Qg e,VI]at h2;unfold TD;simp only[decide_eq_true_eq];grind
  .rw[if_pos Fo];have:=(Ix ha f e).2;unfold TD;simp only[decide_eq_true_eq];grind
 .rw[if_pos Fo];have:=(Ix ha g d).2;unfold TD;simp only[decide_eq_true_eq];grind
variable{l:List Pt}
theorem sE(hl:∀p∈l,Sc p.c)(ha:Va a):∃y,Gt a y=-1/\∀q,Gt a q=-1->q≤y->∀u∈l,∀v∈l,(Ln (G6 a) u v=true↔TD q u v):=by
 obtain⟨y,f,e⟩:=VO ha (Is l) λp hp=>(JU hl p hp).dp
 refine⟨y,f,λq b d u hu v hv=>?_⟩;have h:=e q b d;exact Qfw ha (hl u hu) (hl v hv) (h _ (Md hv hu).2) (h _ (Md hv hu).1)
theorem oV{b:Tm}{x y:Pt}(h:Rp (G6 b) (O6 x y)=Rp (G6 a) (O6 x y)):Ln (G6 b) x y=Ln (G6 a) x y:=by
 unfold O6 A8 at h;unfold Ln;simp only[Ie];by_cases d:0<(Hr y.c x.c).length
 .rw[if_pos d,if_pos d];rw[if_pos d]at h;rw[h]
 .rw[if_neg d,if_neg d];rw[if_neg d]at h;rw[h]
theorem Qna{k:Nat}(h2:¬l.length<2)(a:l.length<=k+1):(l.take ((l.length+1) / 2)).length<=k/\(l.drop ((l.length+1) / 2)).length<=k/\0<(l.take ((l.length+1) / 2)).length/\0<(l.drop ((l.length+1) / 2)).length:=by
 rw[Qt,Za];omega
theorem NG{d sb:U8->Int}:∀(k:Nat) (l:List Pt),l.length≤k->l.Pairwise (λx y=>x.id≠y.id)->(∀u∈l,∀v∈l,u.id≠v.id->Ln d u v=false->Ln d v u=true)->(∀u∈l,∀v∈l,Ln sb v u=true->Ln sb u v=false)->(∀m∈(Lj d l).2,Ln sb m.1 m.2=Ln d m.1 m.2)->Lj sb l=Lj d l
 | 0,l,hk,_,_,_,_=>by rw[Lx _ Fo,Lx _ Fo]
 |
  k+1,l,hk,hd,h1,h2,hm=>by
  by_cases hs:l.length<2
  .rw[Lx _ hs,Lx _ hs]
  .obtain⟨q,p,w,t⟩:=Qna hs hk;obtain⟨a,ha,o,_⟩:=C7 d k (l.take ((l.length+1) / 2)) q w;obtain⟨b,hb,hbl,_⟩:=C7 d k (l.drop ((l.length+1) / 2)) p t;have n:=XE d hs ha hb;rw[n]at hm;have j:=hd;rw[<-Zi ((l.length+1) / 2) l]at j;obtain⟨r,z,s⟩:=Ja.1 j;have i1:=NG k _ q r (λu hu v hv=>h1 u (Qn hu) v (Qn hv)) (λu hu v hv=>h2 u (Qn hu) v (Qn hv)) λm i=>hm m (by simp[i])
   have i2:=NG k _ p z (λu hu v hv=>h1 u (Q3 hu) v (Q3 hv)) (λu hu v hv=>h2 u (Q3 hu) v (Q3 hv)) λm i=>hm m (by simp[i])
   have f:=Qn o;have g:=Q3 hbl;have e:DU sb a b=DU d a b:=by
    have c:=hm (DU d a b) Ft;unfold DU at c ⊢;by_cases h:Ln d a b=true
    .rw[if_pos h]at c ⊢;rw[if_pos (c.trans h)]
    .rw[if_neg h]at c ⊢;have h:Ln d a b=false:=by simpa using h
     have:=h2 a f b g (c.trans (h1 a f b g (s a o b hbl) h));rw[if_neg (by simp[this])]
   rw[n,XE sb hs (by rw[i1];exact ha) (by rw[i2];exact hb),i1,i2,e]
end Orq
namespace Orr
open Orq Go
def xM(l:List Pt)(a:Tm):List Ct:=(Lj (G6 a) l).2.map λm=>Ag (G6 a) m.1 m.2
def lS(l:List Pt)(a:Tm):Ff×Ff:=((Lj (G6 a) l).1.map Gq,(Lj (G6 a) l).2.map Qhs)
variable{l:List Pt}
theorem WQ{sg:U8->Int}:∀m∈(Lj sg l).2,m.1∈l/\m.2∈l:=λm hm=>by
 by_cases h:0<l.length
 .obtain⟨_,_,_,h3⟩:=C7 sg l.length l (Ql _) h;exact h3 m hm
 .rw[Lx _ Fo]at hm;cases hm
theorem Qyp(hl:∀p∈l,Sc p.c){a:Tm}:∀x∈xM l a,Cp x.p:=λx hx=>by
 obtain⟨m,hm,rfl⟩:=Q8.1 hx;obtain⟨h1,h2⟩:=WQ m hm;exact UX (Cy (hl _ h2) (hl _ h1)) (Cz (hl _ h2) (hl _ h1))
theorem eK(hl:∀p∈l,Sc p.c)(hn:l.length≤1000):BuildOk (xM l) :=
 ⟨λa _=>Qyp hl,λa _=>by
  unfold xM;rw[List.length_map];have:=E4 (G6 a) l.length l (Ql _);omega⟩
theorem Qru{a:Tm}:∀x∈xM l a,x.p∈Is l:=λx hx=>by
 obtain⟨m,hm,rfl⟩:=Q8.1 hx;obtain⟨h1,h2⟩:=WQ m hm;show O6 m.1 m.2∈Is l;unfold O6 A8;split
 .exact(Md h2 h1).2
 .exact(Md h2 h1).1
theorem Q4q(hl:∀p∈l,Sc p.c)(hn:l.length≤1000)(hd:l.Pairwise λx y=>x.id≠y.id):Stab (xM l) (lS l):=by
 refine⟨eK hl hn,⟨Is l,JU hl,λa _ x hx=>?_⟩,λa b ha hb h=>?_⟩
 .obtain⟨m,hm,rfl⟩:=Q8.1 hx;obtain⟨h1,h2⟩:=WQ m hm;show O6 m.1 m.2∈Is l;unfold O6 A8;split
  .exact(Md h2 h1).2
  .exact(Md h2 h1).1
 .obtain⟨y,o,n⟩:=sE hl ha;obtain⟨z,q,k⟩:=sE hl hb;have i:=n y o Qp;have j:=k z q Qp;have e:Lj (G6 b) l=Lj (G6 a) l:=NG l.length l (Ql _) hd (λu hu v hv f g=>(i v hv u hu).2 (Qnq f λh=>by
   rw[(i u hu v hv).2 h]at g;cases g)) (λu hu v hv ht=>by
   cases d:Ln (G6 b) u v
   .rfl
   .exact absurd (Quc z u v u ((j u hu v hv).1 d) ((j v hv u hu).1 ht)) (Qnp z u)) λm hm=>oV (h (Ag (G6 a) m.1 m.2) (Q8.2 ⟨m,hm,rfl⟩))
  refine⟨?_,by unfold lS;rw[e]⟩;unfold xM;rw[e];refine X5 λm hm=>?_
  have:=h (Ag (G6 a) m.1 m.2) (Q8.2 ⟨m,hm,rfl⟩);unfold Ag;rw[show Rp (G6 b) (O6 m.1 m.2)=Rp (G6 a) (O6 m.1 m.2) from this]
end Orr
namespace Orq
open Orr Go
def YC(a:Crv):U9:=[G5 a.x a.d,G5 a.y a.d,QW (Hb a.x a.x) (Hb a.y a.y),[a.d*a.d]]
def mZ(a b c d:Crv):List U9:=[YC a,YC b,YC c,YC d]
def FN(a b c d:Crv):U8:=Ax 4 (mZ a b c d)
variable{s:Nat}
theorem SV{k:Crv}(hn:WN k)(hc:Cs s 3 k):(∀p∈YC k,Gg p/\Bd (s+s+3) p)/\∀(j:Nat) (p:U8),(YC k)[j]? = some p->p.length≤[2,2,4,0].getD j 0+1:=by
 have l1:=Ha k.x k.d;have l2:=Ha k.y k.d;have l3:=P8 k.x k.x;have i:=P8 k.y k.y;have f:=XG (Hb k.x k.x) (Hb k.y k.y);have g:=hc.lx;have h:=hc.ly;have b:Bd (s+s+2) (Hb k.x k.x):=Mv hc.x hc.x Fo;have by_:Bd (s+s+2) (Hb k.y k.y):=Mv hc.y hc.y Fo;have hd:=hn.2.2.1;have a:k.d*k.d≠0:=λe=>by rcases J5.1 e with e|e <;> omega
 have c:Gg [k.d*k.d]:=by unfold Gg;simp[trim,a]
 refine⟨λp hp=>?_,λj p hp=>?_⟩
 .simp only[YC,Qm,Jg,or_false]at hp;rcases hp with rfl|rfl|rfl|rfl
  .exact⟨Gs _ _,Fz (Hj hc.x hc.d) Fo⟩
  .exact⟨Gs _ _,Fz (Hj hc.y hc.d) Fo⟩
  .exact⟨Gs _ _,Fz (WC b by_) Fo⟩
  .refine⟨c,λz hz=>?_⟩;rw[Qk.1 hz];have:=G9 k.d k.d;have:=hc.d;omega
 .match j,hp with
  | 0,hp=>injection hp with hp;subst hp;show _<=3;omega
  | 1,hp=>injection hp with hp;subst hp;show _<=3;omega
  | 2,hp=>injection hp with hp;subst hp;show _<=5;omega
  | 3,hp=>injection hp with hp;subst hp;exact Ql _
  |j+4,hp=>simp[YC]at hp
theorem dS{a b c d:Crv}(g:WN a)(m:WN b)(l:WN c)(nd:WN d)(n:Cs s 3 a)(cb:Cs s 3 b)(i:Cs s 3 c)(cd:Cs s 3 d):Sq (s+s+3) [2,2,4,0] 4 4 (mZ a b c d):=by
 have hr:∀r∈mZ a b c d,∃k:Crv,WN k/\Cs s 3 k/\r=YC k:=λr hr=>by
  simp only[mZ,Qm,Jg,or_false]at hr;rcases hr with rfl|rfl|rfl|rfl
  .exact⟨a,g,n,rfl⟩
  .exact⟨b,m,cb,rfl⟩
  .exact⟨c,l,i,rfl⟩
  .exact⟨d,nd,cd,rfl⟩
 refine⟨rfl,λr h=>?_,λr h p hp=>?_,λr h p hp=>?_,λr h j p hp=>?_⟩
 all_goals obtain⟨k,e,f,rfl⟩:=hr r h
 .rfl
 .exact((SV e f).1 p hp).1
 .exact((SV e f).1 p hp).2
 .exact(SV e f).2 j p hp
theorem Qc1{a b c d:Crv}(ha:Sc a)(hb:Sc b)(hc:Sc c)(hd:Sc d):Cp (FN a b c d):=by
 obtain⟨h1,h2,h3⟩:=EY 4 [2,2,4,0] (mZ a b c d) Fp rfl Fp (dS ha.n hb.n hc.n hd.n ha.c hb.c hc.c hd.c);exact⟨h1,Qa h3 Fp,Fz h2 Fp⟩
def vF(sg:U8->Int)(a b c d:Pt):Ct:=⟨4,a.id,b.id,c.id,d.id,FN a.c b.c c.c d.c,Rp sg (FN a.c b.c c.c d.c)⟩
abbrev P3:=Pt×(Pt×Pt)
abbrev P4:=Pt×P3
def A5:Nat->List Pt->List P3
 | 0,_=>[]
 |_+1,[]=>[]
 |k+1,x::l=>(H6 l).map (λm=>(x,m))++A5 k l
def S0(l:List Pt):List P3:=A5 l.length l
def I4:Nat->List Pt->List P4
 | 0,_=>[]
 |_+1,[]=>[]
 |k+1,x::l=>(S0 l).map (λm=>(x,m))++I4 k l
def JQ(l:List Pt):List P4:=I4 l.length l
theorem UA:∀(l:List Pt) (i:Nat) (x:Pt),l[i]? = some x->A5 (i+1) l=A5 i l++(H6 (l.drop (i+1))).map (λm=>(x,m))
 | [],i,x,h=>by simp at h
 |y::l,0,x,h=>by simp at h;subst h;simp[A5]
 |
  y::l,i+1,x,h=>by
  have a:=UA l i x (by simpa using h);show(H6 l).map _++A5 (i+1) l=((H6 l).map _++A5 i l)++_;rw[a,Zh];rfl
theorem NT:∀(l:List Pt) (i:Nat) (x:Pt),l[i]? = some x->I4 (i+1) l=I4 i l++(S0 (l.drop (i+1))).map (λm=>(x,m))
 | [],i,x,h=>by simp at h
 |y::l,0,x,h=>by simp at h;subst h;simp[I4]
 |
  y::l,i+1,x,h=>by
  have a:=NT l i x (by simpa using h);show(S0 l).map _++I4 (i+1) l=((S0 l).map _++I4 i l)++_;rw[a,Zh];rfl
theorem xQ:∀(k:Nat) (l:List Pt),∀m∈A5 k l,m.1∈l/\m.2.1∈l/\m.2.2∈l
 | 0,l,m,h=>by simp[A5]at h
 |k+1,[],m,h=>by simp[A5]at h
 |
  k+1,x::l,m,h=>by
  rcases Qr.1 h with h|h
  .obtain⟨y,a,rfl⟩:=Q8.1 h;obtain⟨h1,h2⟩:=Mp _ _ y a;exact⟨Qy ..,Qi _ h1,Qi _ h2⟩
  .obtain⟨h1,h2,h3⟩:=xQ k l m h;exact⟨Qi _ h1,Qi _ h2,Qi _ h3⟩
theorem cN:∀(k:Nat) (l:List Pt),∀m∈I4 k l,m.1∈l/\m.2.1∈l/\m.2.2.1∈l/\m.2.2.2∈l
 | 0,l,m,h=>by simp[I4]at h
 |k+1,[],m,h=>by simp[I4]at h
 |
  k+1,x::l,m,h=>by
  rcases Qr.1 h with h|h
  .obtain⟨y,a,rfl⟩:=Q8.1 h;obtain⟨h1,h2,h3⟩:=xQ _ _ y a;exact⟨Qy ..,Qi _ h1,Qi _ h2,Qi _ h3⟩
  .obtain⟨h1,h2,h3,h4⟩:=cN k l m h;exact⟨Qi _ h1,Qi _ h2,Qi _ h3,Qi _ h4⟩
variable{l:List Pt}
theorem UD(h:l.length<=6):(S0 l).length<=20/\(JQ l).length<=15:=by
 match l,h with
 | [],_=>exact⟨Zj rfl,Zj rfl⟩
 | [_],_=>exact⟨Zj rfl,Zj rfl⟩
 | [_,_],_=>exact⟨Zj rfl,Zj rfl⟩
 | [_,_,_],_=>exact⟨Zj rfl,Zj rfl⟩
 | [_,_,_,_],_=>exact⟨Zj rfl,Zj rfl⟩
 | [_,_,_,_,_],_=>exact⟨Zj rfl,Zj rfl⟩
 | [_,_,_,_,_,_],_=>exact⟨Zj rfl,Zj rfl⟩
 |_::_::_::_::_::_::_::_,h=>simp at h
abbrev Dt:=List (U8×LV)
def DN(sg:U8->Int)(m:P3):Ct:=Ar sg m.1 m.2.1 m.2.2
def MY(sg:U8->Int)(m:P4):Ct:=vF sg m.1 m.2.1 m.2.2.1 m.2.2.2
def iL(m:P3):U8:=[m.1.id,m.2.1.id,m.2.2.id]
def Q3y(m:P4):U8:=[m.1.id,m.2.1.id,m.2.2.1.id,m.2.2.2.id]
def QK(V:List (U8×Int)):Dt:=V.foldl (λM e=>Ig M e.1 (.int .i64 e.2)) []
def VX(sg:U8->Int)(ps:List P3):List (U8×Int):=ps.map λm=>(iL m,(DN sg m).want)
def FK(sg:U8->Int)(ps:List P4):List (U8×Int):=ps.map λm=>(Q3y m,(MY sg m).want)
theorem Qbh(sg:U8->Int)(ps:List P3)(m:P3):QK (VX sg (ps++[m]))=Ig (QK (VX sg ps)) (iL m) (.int .i64 (DN sg m).want):=by simp[QK,VX]
def XV(T:Dt)(s:Int)(n:U8)(F:Dt)(skip:Nat):Dt:=if YI T (n.eraseIdx skip)*(if (3-skip) % 2=1 then -s else s)>0 then Ig F (n.eraseIdx skip) (.bool true)else F
def yR(T:Dt)(s:Int)(n:U8)(F:Dt):Dt:=XV T s n (XV T s n (XV T s n (XV T s n F 0) 1) 2) 3
def XU(T:Dt)(V:List (U8×Int)):Dt:=V.foldl (λF e=>yR T e.2 e.1 F) []
theorem iG(sg:U8->Int)(T:Dt)(ps:List P4)(m:P4):XU T (FK sg (ps++[m]))=yR T (MY sg m).want (Q3y m) (XU T (FK sg ps)):=by simp[XU,FK]
def fR(T F:Dt)(m:P3):Bool:=decide (YI T (iL m)≠0) && !(AG F (iL m))
variable{ps:List P3}
theorem Q0e{T F:Dt}{m:P3}(h:fR T F m=true):(ps++[m]).filter (fR T F)=ps.filter (fR T F)++[m]:=by simp[Vx,h]
theorem Qmn{T F:Dt}{m:P3}(h:fR T F m=false):(ps++[m]).filter (fR T F)=ps.filter (fR T F):=by simp[Vx,h]
def nD(sg:U8->Int)(l:List Pt):List Ct:=(S0 (Pq l)).map (DN sg)++(JQ (Pq l)).map (MY sg)
def nL(sg:U8->Int)(l:List Pt):List P3:=(S0 (Pq l)).filter (fR (QK (VX sg (S0 (Pq l)))) (XU (QK (VX sg (S0 (Pq l)))) (FK sg (JQ (Pq l)))))
abbrev trL(m:P3):Fe:=[.int .i64 m.1.id,.int .i64 m.2.1.id,.int .i64 m.2.2.id]
def HT(l:List P3):Ff:=l.map trL
theorem lQ(l:List P3):(HT l).length=l.length:=by simp[HT]
theorem Qhp(sg:U8->Int)(h:l.length<=6):(nL sg l).length<=20:=by
 have a:=JK l;exact Qa (Vh _ _) (UD (l:=Pq l) Fo).1
theorem Qho(sg:U8->Int)(h:l.length<=6):(nD sg l).length<=35:=by
 have a:=JK l;obtain⟨h1,h2⟩:=UD (l:=Pq l) Fo;unfold nD;rw[Qw,Ze,Ze];omega
def wL(l:List Pt)(a:Tm):List Ct:=nD (G6 a) l
abbrev lT(l:List Pt)(a:Tm):Ff:=HT (nL (G6 a) l)
def Qfu(l:List Pt):U9:=(S0 (Pq l)).map (λm=>Ry m.1.c m.2.1.c m.2.2.c)++(JQ (Pq l)).map λm=>FN m.1.c m.2.1.c m.2.2.1.c m.2.2.2.c
theorem wB(hl:∀p∈l,Sc p.c):∀p∈Qfu l,Cp p:=λp hp=>by
 have a:=λ(x:Pt) (h:x∈Pq l)=>hl x (Dh h)
 rcases Qr.1 hp with hp|hp
 .obtain⟨m,hm,rfl⟩:=Q8.1 hp;obtain⟨h1,h2,h3⟩:=xQ _ _ m hm;exact WO (a _ h1) (a _ h2) (a _ h3)
 .obtain⟨m,hm,rfl⟩:=Q8.1 hp;obtain⟨h1,h2,h3,h4⟩:=cN _ _ m hm;exact Qc1 (a _ h1) (a _ h2) (a _ h3) (a _ h4)
theorem wA{a:Tm}:∀x∈wL l a,x.p∈Qfu l:=λx hx=>by
 rcases Qr.1 hx with hx|hx
 .obtain⟨m,hm,rfl⟩:=Q8.1 hx;exact X9 _ (Q8.2 ⟨m,hm,rfl⟩)
 .obtain⟨m,hm,rfl⟩:=Q8.1 hx;exact Jv _ (Q8.2 ⟨m,hm,rfl⟩)
theorem Qi3(h:l.length<=6):(Qfu l).length<=1000000:=by
 have a:=JK l;obtain⟨h1,h2⟩:=UD (l:=Pq l) Fo;unfold Qfu;rw[Qw,Ze,Ze];omega
theorem eZ(hl:∀p∈l,Sc p.c)(hn:l.length≤6):BuildOk (wL l) :=
 ⟨λ_ _ x hx=>wB hl _ (wA x hx),λa _=>Qa (Qho _ hn) Fp⟩
theorem Q4m(hl:∀p∈l,Sc p.c)(hn:l.length≤6):Stab (wL l) (lT l):=by
 refine⟨eZ hl hn,⟨Qfu l,wB hl,λa _=>wA⟩,λa b _ _ h=>?_⟩;have f:∀m∈S0 (Pq l),DN (G6 b) m=DN (G6 a) m:=λm hm=>by
  have:=h (DN (G6 a) m) (X9 _ (Q8.2 ⟨m,hm,rfl⟩));have e:Rp (G6 b) (Ry m.1.c m.2.1.c m.2.2.c)=Rp (G6 a) (Ry m.1.c m.2.1.c m.2.2.c):=this;unfold DN Ar;rw[e]
 have d:∀m∈JQ (Pq l),MY (G6 b) m=MY (G6 a) m:=λm hm=>by
  have:=h (MY (G6 a) m) (Jv _ (Q8.2 ⟨m,hm,rfl⟩));have e:Rp (G6 b) (FN m.1.c m.2.1.c m.2.2.1.c m.2.2.2.c)=Rp (G6 a) (FN m.1.c m.2.1.c m.2.2.1.c m.2.2.2.c):=this;unfold MY vF;rw[e]
 have i:VX (G6 b) (S0 (Pq l))=VX (G6 a) (S0 (Pq l)):=X5 λm hm=>by rw[f m hm]
 have g:FK (G6 b) (JQ (Pq l))=FK (G6 a) (JQ (Pq l)):=X5 λm hm=>by rw[d m hm]
 constructor
 .unfold wL nD;rw[X5 f,X5 d]
 .unfold lT nL;rw[i,g]
def Q2z(l:List Pt)(a:Tm):Cr:=⟨a,(Gv (wL l a)).map fresh,0⟩
def sG(M:Dt):Prop:=∀k,(Oy M k).getD (.int .i64 0)=.int .i64 (YI M k)/\-1<=YI M k/\YI M k<=1
def FU(M:Dt):Prop:=∀k,(Oy M k).getD (.bool false)=.bool (AG M k)
theorem vZ(M:Dt)(k:U8)(x:LV)(k':U8):Oy (Ig M k x) k'=if k'=k then some x else Oy M k':=by
 induction M with
 |nil=>simp[Ig,Oy]
 |
  cons e M ih =>
  simp only[Ig];by_cases h:k=e.1
  .rw[if_pos h];simp only[Oy];by_cases h2:k'=k
   .rw[if_pos h2,if_pos h2]
   .rw[if_neg h2,if_neg h2,if_neg (λa=>h2 (a.trans h.symm))]
  .rw[if_neg h];simp only[Oy];by_cases h2:k'=e.1
   .rw[if_pos h2,if_pos h2,if_neg (λa=>h (a.symm.trans h2))]
   .rw[if_neg h2,if_neg h2,ih]
theorem Qni:sG []:=λ_=>⟨rfl,show(-1:Int)<=0 by decide,show(0:Int)<=1 by decide⟩
theorem Qfx:FU []:=λ_=>rfl
theorem Qnj{M:Dt}(h:sG M){k:U8}{n:Int}(hn:-1<=n/\n<=1):sG (Ig M k (.int .i64 n)):=by
 intro k';have h1:=h k';unfold YI at h1 ⊢;rw[vZ];by_cases e:k'=k
 .rw[if_pos e];exact⟨rfl,hn.1,hn.2⟩
 .rw[if_neg e];exact h1
theorem Qfy{M:Dt}(h:FU M){k:U8}{b:Bool}:FU (Ig M k (.bool b)):=by
 intro k';have h1:=h k';unfold AG at h1 ⊢;rw[vZ];by_cases e:k'=k
 .rw[if_pos e];rfl
 .rw[if_neg e];exact h1
variable{s:Int}
theorem QF{T F:Dt}{n:U8}{k:Nat}(h:FU F):FU (XV T s n F k):=by
 unfold XV;generalize (if (3-k) % 2=1 then -s else s)=s'
 split
 .exact Qfy h
 .exact h
theorem eM{T F:Dt}{n:U8}(h:FU F):FU (yR T s n F):=QF (QF (QF (QF h)))
theorem Qhq{x:Int}(hx:-1<=x/\x<=1)(hs:-1<=s/\s<=1):-9223372036854775808<=x*s/\x*s<=9223372036854775807:=by
 have h:x=-1\/x=0\/x=1:=Fo;rcases h with rfl|rfl|rfl <;> omega
structure MOk(M:List Pt):Prop where
 sc:∀p∈M,Sc p.c
 ln:M.length<=6
 so:Di M
theorem MOk.df{M:List Pt}(h:MOk M):M.Pairwise λx y=>x.id≠y.id:=h.so.imp λh e=>Fo
structure Knd(β:Type) where
 bc:List Pt->Tm->List Ct
 br:List Pt->Tm->β
 al:List Pt->List (List Int)
structure KndOk{β:Type}(k:Knd β):Prop where
 st:∀M,MOk M->Stab (k.bc M) (k.br M)
 cp:∀M,MOk M->∀p∈k.al M,Cp p
 al:∀M a,∀x∈k.bc M a,x.p∈k.al M
 ln:∀M,MOk M->(k.al M).length<=1000000
abbrev kS:Knd Ff:=⟨VY,xN,Is⟩
abbrev kT:Knd (Ff×Ff):=⟨xM,lS,Is⟩
abbrev kH:Knd Ff:=⟨EI,brH,λl=>Is l++EL l⟩
abbrev kP:Knd Ff:=⟨sL,brP,xT⟩
abbrev kD:Knd Ff:=⟨wL,lT,Qfu⟩
theorem EE{l:List Pt}(h:l.length<=6):(Is l).length<=72:=by
 rw[sM];exact Qa (Zf h (Zf h (Ql 2))) Fp
theorem TW{α β:Type}{f:α->List β}{n:Nat}(l:List α)(h:∀x∈l,(f x).length=n):(l.flatMap f).length=l.length*n:=by
 induction l with
 |nil=>simp
 |
  cons x l ih =>
  rw[Yn,Qw,h x Ft,ih λy a=>h y (Qi _ a),Q5,Jj];omega
theorem Qrr(l:List Pt):(EL l).length=l.length*(l.length*l.length):=by
 unfold EL;exact TW l λx _=>TW l λy _=>Ft
theorem Qrp(l:List Pt):(xT l).length=l.length*(l.length*(l.length*l.length)):=by
 unfold xT;exact TW l λx _=>TW l λy _=>TW l λz _=>Ft
theorem okS:KndOk kS:=⟨λM h=>Q4p h.sc (by have:=h.ln;omega) h.df,λM h=>JU h.sc,λM a=>Qbw,λM h=>Qa (EE h.ln) Fp⟩
theorem okT:KndOk kT:=⟨λM h=>Q4q h.sc (by have:=h.ln;omega) h.df,λM h=>JU h.sc,λM a=>Qru,λM h=>Qa (EE h.ln) Fp⟩
theorem okH:KndOk kH:=⟨λM h=>Q4n h.sc (by have:=h.ln;omega) h.df,λM h=>DO h.sc,λM a=>wI,λM h=>by
 have h1:=EE h.ln;have h2:=Qrr M;have h3:M.length*(M.length*M.length)<=6*(6*6):=Zf h.ln (Zf h.ln h.ln);show(Is M++EL M).length<=_;rw[Qw];omega⟩
theorem okP:KndOk kP:=⟨λM h=>Q4o h.sc (by have:=h.ln;omega) h.df,λM h=>RZ h.sc,λM a=>Qbv,λM h=>by
 have h3:M.length*(M.length*(M.length*M.length))<=6*(6*(6*6)):=Zf h.ln (Zf h.ln (Zf h.ln h.ln));show(xT M).length<=_;rw[Qrp];omega⟩
theorem okD:KndOk kD:=⟨λM h=>Q4m h.sc h.ln,λM h=>wB h.sc,λM a=>wA,λM h=>Qi3 h.ln⟩
open Classical in
noncomputable def cnt(bc:Tm->List Ct)(q t:Rat):Nat:=if h:∃E,Evs bc t (tq q) E then(Classical.choose h).length else 0
theorem Qlt{β:Type}{Bc:Tm->List Ct}{Br:Tm->β}(S:Stab Bc Br){q t:Rat}(a:Va (tq q)){E:List Tm}(h:Evs Bc t (tq q) E):cnt Bc q t=E.length:=by
 have hx:∃E,Evs Bc t (tq q) E:=⟨E,h⟩;unfold cnt;rw[dif_pos hx];exact Q0d S a (Classical.choose_spec hx) h
structure At{β:Type}(k:Knd β)(M:List Pt)(q:Rat)(c:Cr):Prop where
 now:c.now=tq q
 st:KSt (k.bc M) (k.br M) c (k.br M (tq q))
section
variable{β:Type}{k:Knd β}(ok:KndOk k){M M':List Pt}{q t:Rat}{c:Cr}
include ok
theorem At.again(h:At k M q c)(hM:MOk M'):∃ws,Po c.l c.now (Gv (k.bc M' c.now))=some ws/\At k M' q ⟨tq q,ws,c.ev⟩:=by
 obtain⟨⟨o,b⟩,d,hr⟩:=h.st;have S:=ok.st M' hM;obtain⟨ws,l1,l2⟩:=iE o.n o.l (Gv (k.bc M' c.now));have a:=Orr.lay_ok c.ev o o.n (S.ok.p _ o.n) (S.ok.n _ o.n) l1;have hl:=Qdz o.n o.n (λh=>Cq o.n.cut o.n.cut h h) o.l b l1;rw[h.now]at a hl l2;exact⟨ws,l1,rfl,⟨⟨a,hl⟩,l2,rfl⟩⟩
theorem At.adv(h:At k M q c)(hM:MOk M)(ht:Qs 1640000 t)(m:q<=t) :
 ∃(K:Nat) (c':Cr),K<=67000001/\HE (k.bc M) (k.br M) t K c (k.br M (tq q)) 0=some (c',k.br M (tq t),((cnt (k.bc M) q t:Nat):Int))/\At k M t c'/\c'.ev=c.ev+((cnt (k.bc M) q t:Nat):Int)/\cnt (k.bc M) q t<=67000000/\cnt (k.bc M) q t<=((k.al M).flatMap CO).length:=by
 have S:=ok.st M hM;have i:=ok.cp M hM;have hm:=tG i;have j:=Qxy ((k.al M).flatMap CO) c.now;have hl:=ok.ln M hM;have hv:=h.st.inv.ok.n;have hc:Gt c.now t<=0:=by rw[h.now,wF];rcases Bl q t with⟨e,e'⟩|⟨e,e'⟩|⟨e,e'⟩ <;> first|omega|(exfalso;grind)
 obtain⟨c',l,E,b,f,d,p,s,g⟩:=Qxq S ht i (λa _=>ok.al M a) (mu ((k.al M).flatMap CO) c.now) c _ 0 (Ql _) h.st λo=>by
  have:=(MV hv.cut).2 o;omega
 have hr:l=k.br M (tq t):=by rw[d.r,f]
 rw[hr]at b d;rw[Int.zero_add]at b;rw[h.now]at g;have he:=Qlt S (by rw[<-h.now];exact hv) g;rw[he];exact⟨_,c',Fo,b,⟨f,d⟩,p,Fo,Fo⟩
end
theorem At.begin{β:Type}{k:Knd β}(ok:KndOk k){M:List Pt}{q:Rat}(hM:MOk M)(a:Qs 1640000 q):At k M q ⟨tq q,(Gv (k.bc M (tq q))).map fresh,0⟩:=⟨rfl,Qjd (ok.st M hM) (BY a)⟩
end Orq
namespace Orr
open Go Go.Proofs Tryz Orq
set_option maxRecDepth 10000
abbrev Pg(c:Cr)(r0:Ff)(r1:Ff×Ff):Fe:=.bool true::pl c.now.p::sg c.now.lo.num::mg c.now.lo.num::sg (c.now.lo.den:Int)::mg (c.now.lo.den:Int)::sg c.now.hi.num::mg c.now.hi.num::sg (c.now.hi.den:Int)::mg (c.now.hi.den:Int)::.row (Lk c.l)::.int .i64 c.ev::[.row r0,.row r1.1,.row r1.2]
abbrev Qzz(r0:LV)(r1:LV×LV):Fe:=[.bool false,.nils,.bool false,.nils,.bool false,.nils,.bool false,.nils,.bool false,.nils,.nils,.int .i64 0,r0,r1.1,r1.2]
variable{T:Nat}{c:Cr}{r0:Ff}{r1:Ff×Ff}
theorem aW(hc:Va c.now):Ge prog 358 [.one (.ow 0 0)] [.blk T (Pg c r0 r1)] [.agg (ta c.now)] [.blk T (Pg c r0 r1)]:=by
 have cl:=Me (b:=c.now) (l:=[]) hc.tb (λt ht=>by cases ht) Fp rfl;refine G7 func358 rfl ?_;exact U3 [] [0] [.f rfl,.k cl] rfl
theorem Qki(hc:CrOk c):Ge prog 347 [.one (.ow 0 0)] [.blk T (Pg c r0 r1)] [.one (.row (Gk (Gv (c.l.map (·.c)))))] [.blk T (Pg c r0 r1)]:=by
 have h:=hc.k;have b:=Pu c.l;refine G7 func347 rfl ?_;refine Ux [.o 3 66 7] rfl ?_;refine U4 (S:=Nat) 2 (λL1 i=>(11,.v (.oi i))::(3,.v (.one (.orow 1 7 none)))::L1) (λi=>[.blk T (Pg c r0 r1),.row false 66 7 (Gk ((c.l.map (·.c)).take i))]) (λi=>c.l.length-i) (λi=>i<=c.l.length) 0 (Qj _) rfl rfl λi hi=>?_
 by_cases a:i<c.l.length
 .obtain⟨x,hx⟩:=gxE (l:=c.l) (i:=i) a;have hm:∀y∈[Ey x.c],y.length=7:=λy g=>by rw[Qk.1 g];rfl
  have hg:(c.l.map (·.c)).take (i+1)=(c.l.map (·.c)).take i++[x.c]:=by
   rw[Zv,Q9,hx];rfl
  have hl:decide ((i:Int)<((Lk c.l).length:Int))=true:=by simp[b];omega
  obtain⟨j,m,d⟩:=x;cases d <;> (refine go tt [.t hl,.x (Tl hx),.s (sz:=7) hm] rfl (by simp[Gi,Nf];omega) ?_;exact rd (i+1) Fo a (by rw[hg];simp[Gk];rfl))
 .obtain rfl:i=c.l.length:=Fo;have e:(c.l.map (·.c)).take c.l.length=c.l.map (·.c):=Qo Ft;rw[e];have cs:=MZ (l:=c.l.map (·.c)) (λx hx=>by
   obtain⟨w,b,rfl⟩:=Q8.1 hx;exact Dp.pb (hc.l w b).p.dp) Fq
  exact U3 [] [0] [.f (by simp[b]),.k cs] rfl
variable{at_:Tm}
theorem Qsn{x:Ct}{w:Wt}(hc:CrOk c)(hx:Cp x.p)(ha:Va at_)(h:Ls c.l x at_=some w):Ge prog 220 [.one (.ow 0 0),.agg (Ey x),.agg (ta at_)] [.blk T (Pg c r0 r1)] [.agg (wl w)] [.blk T (Pg c r0 r1)]:=by
 have z:=hc.k;have s:=Pu c.l;refine G7 func220 rfl ?_;refine Ux [] rfl ?_;refine U4 (S:=Nat) 4 (λL1 i=>(14,.v (.oi i))::L1) (λ_=>[.blk T (Pg c r0 r1),.blk 66 (Ey x),.blk 72 (ta at_),.blk 309 [.int .i64 0,.int .i64 0,.int .i64 0,.int .i64 0,.int .i64 0,.nils,.int .i64 0,.bool false,.bool false,.nils,.bool false,.nils,.bool false,.nils,.bool false,.nils,.bool false,.nils]]) (λi=>c.l.length-i) (λi=>i<=c.l.length/\Ls (c.l.drop i) x at_=some w) 0 ⟨Qj _,h⟩ rfl rfl λi ⟨hi,a⟩=>?_
 by_cases b:i<c.l.length
 .obtain⟨v,hv⟩:=gxE (l:=c.l) (i:=i) b;have n:c.l.drop i=v::c.l.drop (i+1):=by
   rw[Zo b];congr 1;have:=Qf b;rw[hv]at this;injection this with this;exact this.symm
  have d:=hc.l v (Qc hv);rw[n]at a;simp only[Ls]at a;have hl:decide ((i:Int)<((Lk c.l).length:Int))=true:=by simp[s];omega
  by_cases A:dK v.c x=true
  .have e:(!decide ([v.c.kind,v.c.i0,v.c.i1,v.c.i2,v.c.i3]=[x.kind,x.i0,x.i1,x.i2,x.i3]))=false:=by
    unfold dK at A;rw[A];rfl
   by_cases B:v.known=true
   .have j:(!v.known)=false:=by rw[B];rfl
    have cs:=LJ (p:=v.c.p) (q:=x.p) (Dp.pb d.p.dp).ln (Dp.pb hx.dp).ln (Dp.pb d.p.dp).bd (Dp.pb hx.dp).bd;rw[d.p.t,hx.t]at cs;by_cases C:v.c.p=x.p
    .have o:(!decide (v.c.p=x.p))=false:=by simp[C]
     rw[if_pos ⟨A,B,C⟩]at a;obtain⟨F,E,y⟩:=v;cases y with
     |
      none =>
      injection a with a;subst a;exact U3 [] [0] [.t hl,.x (Tl hv),.g 24 false e,.g 29 false j,.k cs,.f o,.g 41 true rfl,.t rfl] rfl
     |
      some t =>
      obtain⟨r,m,a⟩:=Qd.1 a;have u:=GZ (d.f t rfl).tb ha.tb m;by_cases D:0<r
      .rw[if_pos D]at a;injection a with a;subst a;exact U3 [] [0] [.t hl,.x (Tl hv),.g 24 false e,.g 29 false j,.k cs,.f o,.g 41 false rfl,.k u,.t (by simpa using D)] rfl
      .rw[if_neg D]at a;refine Uy [.t hl,.x (Tl hv),.g 24 false e,.g 29 false j,.k cs,.f o,.g 41 false rfl,.k u,.f (by simpa using D)] rfl ?_;exact rd (i+1) Fo ⟨b,a⟩ rfl
    .rw[if_neg λh=>C h.2.2]at a;refine Uy [.t hl,.x (Tl hv),.g 24 false e,.g 29 false j,.k cs,.t (by simp[C])] rfl ?_;exact rd (i+1) Fo ⟨b,a⟩ rfl
   .rw[if_neg λh=>B h.2.1]at a;refine Uy [.t hl,.x (Tl hv),.g 24 false e,.g 29 true (by simpa using B),.t rfl] rfl ?_;exact rd (i+1) Fo ⟨b,a⟩ rfl
  .rw[if_neg λh=>A h.1]at a;refine Uy [.t hl,.x (Tl hv),.g 24 true (by rw[show decide ([v.c.kind,v.c.i0,v.c.i1,v.c.i2,v.c.i3]=[x.kind,x.i0,x.i1,x.i2,x.i3])=false from Ud.2 A];rfl),.g 29 true rfl,.t rfl] rfl ?_;exact rd (i+1) Fo ⟨b,a⟩ rfl
 .obtain rfl:i=c.l.length:=Fo;rw[Vf]at a;simp only[Ls]at a;injection a with a;subst a;exact U3 [] [0] [.f (by simp[s])] rfl
variable{l:List Ct}{ws:List Wt}
theorem Qca(hc:CrOk c)(ha:Va at_)(hl:∀x∈l,Cp x.p)(hn:l.length≤1000)(h:Po c.l at_ (Gv l)=some ws):Ge prog 177 [.one (.ow 0 0),.agg (ta at_),.one (.bool true),.one (.row (Gk l))] [.blk T (Pg c r0 r1)] [] [.blk T (Pg ⟨at_,ws,c.ev⟩ r0 r1)]:=by
 have cs:=MZ (l:=l) (λx hx=>Dp.pb (hl x hx).dp) Fo;have cl:=Me (b:=at_) (l:=[]) ha.tb (λt ht=>by cases ht) Fp rfl;obtain⟨h1,h2⟩:=KV h;have hs:(Gv l).length=l.length:=Cc l;refine G7 func177 rfl ?_;refine Ux [.o 8 309 18,.k cs] rfl ?_;refine U4 (S:=Nat) 3 (λL1 i=>(15,.v (.oi i))::(8,.v (.one (.orow 2 18 none)))::L1) (λi=>[.blk T (Pg c r0 r1),.blk 72 (ta at_),.row false 309 18 (Lk (ws.take i))]) (λi=>ws.length-i) (λi=>i<=ws.length) 0 (Qj _) rfl rfl λi hi=>?_
 by_cases e:i<ws.length
 .obtain⟨x,hx⟩:=gxE (l:=(Gv l)) (i:=i) Fo;obtain⟨w,m,g⟩:=h2 i x hx;have hm:∀y∈[wl w],y.length=18:=λy j=>by rw[Qk.1 j];rfl
  have a:decide ((i:Int)<((Gk (Gv l)).length:Int))=true:=by simp[Gk];omega
  have ck:=Qsn (T:=T) (r0:=r0) (r1:=r1) hc (hl x (Tc (Qc hx))) ha m;have hg:=Oj g;obtain⟨q,r,n⟩:=w;cases n <;> (refine go tt [.t a,.x (P5 hx),.t rfl,.c [0] ck,.s (sz:=18) hm] rfl (by simp[Gi,Pu];omega) ?_;exact rd (i+1) Fo e (by rw[hg];rfl))
 .obtain rfl:i=ws.length:=Fo;rw[Q6];have d:decide ((ws.length:Int)<((Gk (Gv l)).length:Int))=false:=by simp[Gk];omega
  exact U3 [] [0] [.f d,.p 2,.k cl] rfl
theorem Qso(ha:Va at_)(hl:∀x∈l,Cp x.p)(hn:l.length≤1000):Ge prog 177 [.one (.ow 0 0),.agg (ta at_),.one (.bool false),.one (.row (Gk l))] [.blk T (Qzz (.row r0) (.row r1.1,.row r1.2))] [] [.blk T (Pg ⟨at_,(Gv l).map fresh,0⟩ r0 r1)]:=by
 have cs:=MZ (l:=l) (λx hx=>Dp.pb (hl x hx).dp) Fo;have cl:=Me (b:=at_) (l:=[]) ha.tb (λt ht=>by cases ht) Fp rfl;have hs:(Gv l).length=l.length:=Cc l;refine G7 func177 rfl ?_;refine Ux [.o 8 309 18,.k cs] rfl ?_;refine U4 (S:=Nat) 3 (λL1 i=>(15,.v (.oi i))::(8,.v (.one (.orow 2 18 none)))::L1) (λi=>[.blk T (Qzz (.row r0) (.row r1.1,.row r1.2)),.blk 72 (ta at_),.row false 309 18 (Lk (((Gv l).map fresh).take i))]) (λi=>l.length-i) (λi=>i<=l.length) 0 (Qj _) rfl rfl λi hi=>?_
 by_cases d:i<l.length
 .obtain⟨x,hx⟩:=gxE (l:=(Gv l)) (i:=i) Fo;have hm:∀y∈[wl (fresh x)],y.length=18:=λy e=>by rw[Qk.1 e];rfl
  have a:decide ((i:Int)<((Gk (Gv l)).length:Int))=true:=by simp[Gk];omega
  have hg:=Oj (l:=(Gv l).map fresh) (i:=i) (w:=fresh x) (by rw[Q9,hx];rfl);refine go tt [.t a,.x (P5 hx),.z 20,.f rfl,.s (sz:=18) hm] rfl (by simp[Gi,Pu];omega) ?_;exact rd (i+1) Fo d (by rw[hg];rfl)
 .obtain rfl:i=l.length:=Fo;rw[Qo Fq];have c:decide ((l.length:Int)<((Gk (Gv l)).length:Int))=false:=by simp[Gk];omega
  exact U3 [] [0] [.f c,.p 2,.k cl] rfl
theorem Qge(ha:Va at_)(hl:∀x∈l,Cp x.p)(hn:l.length≤1000):Ge prog 113 [.one (.ow 0 0),.agg (ta at_),.one (.row (Gk l))] [.blk T (Qzz (.row r0) (.row r1.1,.row r1.2))] [] [.blk T (Pg ⟨at_,(Gv l).map fresh,0⟩ r0 r1)]:=by
 have cl:=Qso (T:=T) (r0:=r0) (r1:=r1) ha hl hn;refine G7 func113 rfl ?_;exact U3 [] [0] [.g 12 false rfl,.c [0] cl] rfl
theorem Qgf{k:Int}(hc:CrOk c)(ha:Va at_)(a:RE at_ c.now=some k)(h0:0≤k)(hl:∀x∈l,Cp x.p)(hn:l.length≤1000)(h:Po c.l at_ (Gv l)=some ws):Ge prog 113 [.one (.ow 0 0),.agg (ta at_),.one (.row (Gk l))] [.blk T (Pg c r0 r1)] [] [.blk T (Pg ⟨at_,ws,c.ev⟩ r0 r1)]:=by
 have cl:=Qca (T:=T) (r0:=r0) (r1:=r1) hc ha hl hn h;have b:=GZ ha.tb hc.n.tb a;refine G7 func113 rfl ?_;exact U3 [] [0] [.g 12 true rfl,.k b,.r 20 (eB (show decide (0<=k)=true by simpa using h0)),.c [0] cl] rfl
theorem Qsp(hc:CrOk c)(h:La c.now c.l=some ws):Ge prog 353 [.one (.ow 0 0)] [.blk T (Pg c r0 r1)] [] [.blk T (Pg { c with l:=ws } r0 r1)]:=by
 have B:=hc.k;have d:=Pu c.l;obtain⟨h1,h2⟩:=UH h;refine G7 func353 rfl ?_;refine Ux [.o 2 309 18,.c [0] (aW hc.n)] rfl ?_;refine U4 (S:=Nat) 3 (λL1 i=>(13,.v (.oi i))::(2,.v (.one (.orow 1 18 none)))::L1) (λi=>[.blk T (Pg c r0 r1),.row false 309 18 (Lk (ws.take i)),.blk 72 (ta c.now)]) (λi=>c.l.length-i) (λi=>i<=c.l.length) 0 (Qj _) rfl rfl λi hi=>?_
 by_cases a:i<c.l.length
 .obtain⟨w,hx⟩:=gxE (l:=c.l) (i:=i) a;obtain⟨v,hv,h3⟩:=h2 i w hx;have hm:∀y∈[wl v],y.length=18:=λy j=>by rw[Qk.1 j];rfl
  have hg:=Oj hv;have hl:decide ((i:Int)<((Lk c.l).length:Int))=true:=by simp[d];omega
  rcases h3 with⟨b,rfl⟩|⟨b,r,g,rfl⟩
  .obtain⟨C,q,m⟩:=v;cases m <;> (refine go tt [.t hl,.x (Tl hx),.f (by rw[show q=true from b];rfl),.s (sz:=18) hm] rfl (by simp[Gi,Pu];omega) ?_;exact rd (i+1) Fo a (by rw[hg];rfl))
  .have z:=pX (hc.l w (Qc hx)).p hc.n g;obtain⟨A,e,u⟩:=w;cases r <;> cases u <;> (refine go tt [.t hl,.x (Tl hx),.t (by rw[show e=false from b];rfl),.k z,.s (sz:=18) hm] rfl (by simp[Gi,Pu];omega) ?_;exact rd (i+1) Fo a (by rw[hg];rfl))
 .obtain rfl:i=c.l.length:=Fo;rw[<-h1,Q6];exact U3 [1] [0] [.f (by simp[d,h1])] rfl
theorem Qcb{r:Option Tm}(hc:CrOk c)(h:La c.now c.l=some ws)(hr:KL ws=some r):Ge prog 350 [.one (.ow 0 0)] [.blk T (Pg c r0 r1)] [.agg (ota r),.one (.bool r.isSome)] [.blk T (Pg { c with l:=ws } r0 r1)]:=by
 have u:=Qsp (T:=T) (r0:=r0) (r1:=r1) hc h;have j:=Af hc h;have n:=j.k;have y:=Pu ws;have d:∀t∈ws.filterMap (·.fails),Tb t:=λt ht=>by
  obtain⟨w,w1,A⟩:=Jm.1 ht;exact((j.l w w1).f t A).tb
 refine G7 func350 rfl ?_;refine Ux [.c [0] u,.o 4 72 9] rfl ?_;refine U4 (S:=Nat) 3 (λL1 i=>(14,.v (.oi i))::(4,.v (.one (.orow 2 9 none)))::L1) (λi=>[.blk T (Pg { c with l:=ws } r0 r1),.blk 72 zTm,.row false 72 9 (tal ((ws.take i).filterMap (·.fails)))]) (λi=>ws.length-i) (λi=>i<=ws.length) 0 (Qj _) rfl rfl λi hi=>?_
 by_cases a:i<ws.length
 .obtain⟨w,hx⟩:=gxE (l:=ws) (i:=i) a;have hl:decide ((i:Int)<((Lk ws).length:Int))=true:=by simp[y];omega
  have D:((ws.take i).filterMap (·.fails)).length<=i:=Qa (Y6 _ _) (by rw[Qt];omega);have hg:(ws.take (i+1)).filterMap (·.fails)=(ws.take i).filterMap (·.fails)++(match w.fails with|none=>[]|some t=>[t]):=by
   rw[Zv,hx,Wi];show _++List.filterMap (·.fails) [w]=_;cases q:w.fails <;> simp[q]
  obtain⟨E,F,B⟩:=w;have n:ws.length<=1000:=n;cases B with
  |
   none =>
   refine Uy [.t hl,.x (Tl hx),.f rfl] rfl ?_;exact rd (i+1) Fo a (by rw[hg];simp;rfl)
  |
   some t =>
   refine Uy [.t hl,.x (Tl hx),.t rfl,.s (l:=[ta t]) (sz:=9) (λc hc=>by rw[Qk.1 hc];rfl)] rfl ?_;exact rd (i+1) Fo a (by rw[hg];simp[tal];rfl)
 .obtain rfl:i=ws.length:=Fo;rw[Q6];have z:decide ((ws.length:Int)<((Lk ws).length:Int))=false:=by simp[y]
  have g:(ws.filterMap (·.fails)).length<=1000:=Qa (Y6 _ _) n;unfold KL at hr;cases e:ws.filterMap (·.fails)with
  |
   nil =>
   rw[e]at hr;injection hr with hr;subst hr;exact U3 [] [0] [.f z,.p 2,.k AN] rfl
  |
   cons b l =>
   rw[e]at hr d g;obtain⟨m,C,rfl⟩:=Js.1 hr;have cl:=Me (d b (Qy ..)) (λt ht=>d t (Qi _ ht)) (by simp at g;omega) C;exact U3 [] [0] [.f z,.p 2,.k cl] rfl
theorem Q3e{t:Rat}{Bc:Tm->List Ct}{Br:Tm->Ff×Ff}(ht:Qs 1640000 t)(j:BuildOk Bc)
 (hb:∀a c r1,Va a->CrOk c->Ge prog 115 [.one (.ow 0 0),.agg (ta a)] [.blk T (Pg c r0 r1)] [.one (.row (Gk (Bc a)))] [.blk T (Pg c r0 (Br a))])
 {K:Nat} {c c':Cr} {r1 e:Ff×Ff} {n:Int} (hc:CrOk c) (u:0<=c.ev/\c.ev+K<=1000000000000000000) (h:Gt c.now t<=0) (hg:HE Bc Br t K c r1 0=some (c',e,n)) :
 Ge prog 354 [.one (.ow 0 0),.agg (rl t),.one (.ofn 115 [.ow 0 0] [])] [.blk T (Pg c r0 r1)] [.oi n,.oi 0] [.blk T (Pg c' r0 e)]:=by
 have y:Qb t:=ht.mono Fp;have B:=Eo hc.n.tb y;refine G7 func354 rfl ?_;refine Ux [.c [0] (aW hc.n),.k B,.f (by simpa using h)] rfl ?_;refine U4 (S:=Nat×Cr×(Ff×Ff)×Int) 2 (λL1 s=>(8,.v (.oi s.2.2.2))::L1) (λs=>[.blk T (Pg s.2.1 r0 s.2.2.1),.blk 41 (rl t)]) (λs=>s.1) (λs=>CrOk s.2.1/\(0<=s.2.1.ev/\s.2.1.ev+s.1<=1000000000000000000)/\(0<=s.2.2.2/\s.2.2.2+s.1<=1000000000000000000)/\HE Bc Br t s.1 s.2.1 s.2.2.1 s.2.2.2=some (c',e,n)) (K,c,r1,0) ⟨hc,u,⟨Int.le_refl 0,Fv⟩,hg⟩ rfl rfl λ⟨k,x,r,m⟩ ⟨j1,j2,j3,d⟩=>?_
 dsimp only at j1 j2 j3 d ⊢;cases k with
 |zero=>cases d
 |
  succ k =>
  simp only[HE]at d;obtain⟨ws,w1,d⟩:=Qd.1 d;obtain⟨o,z,d⟩:=Qd.1 d;have q:=Qcb (T:=T) (r0:=r0) (r1:=r) j1 w1 z;have w:=FH (Gb t.num) (Gb (t.den:Int)) (Qa ht.1 Fp) (Qa ht.2 Fp) (by rw[Mk];exact ht.mono Fp);rw[Mk]at w;cases o with
  |
   none =>
   injection d with d;injection d with e1 d;injection d with e2 e3;subst e1;subst e2;subst e3;exact U3 [] [0] [.c [0] q,.g 25 true rfl,.t rfl,.k w] rfl
  |
   some a =>
   have ha:=qM j1 w1 z;dsimp only at d;have A:=Eo ha.tb y;by_cases h0:0<Gt a t
   .rw[if_pos h0]at d;injection d with d;injection d with e1 d;injection d with e2 e3;subst e1;subst e2;subst e3;exact U3 [] [0] [.c [0] q,.g 25 false rfl,.k A,.t (by simpa using h0),.k w] rfl
   .rw[if_neg h0]at d;obtain⟨C,l1,d⟩:=Qd.1 d;have i:=Af j1 w1;have cl:=Me (b:=a) (l:=[]) ha.tb (λt ht=>by cases ht) Fp rfl;have cb:=hb a { x with l:=ws } r ha i;have E:=Qca (T:=T) (r0:=r0) (r1:=Br a) i ha (j.p a ha) (j.n a ha) l1;have D:decide (0<Gt a t)=false:=by simpa using h0
    refine Uy [.c [0] q,.g 25 false rfl,.k A,.f D,.k cl,.c [0] cb,.c [0] E] rfl ?_;exact rd (k,⟨a,C,x.ev+1⟩,Br a,m+1) Fv ⟨lay_ok _ i ha (j.p a ha) (j.n a ha) l1,Fv,Fv,d⟩ rfl
theorem Qgg:Ge prog 349 [.one (.ow 0 0)] [.blk T (Pg c r0 r1)] [.oi c.ev] [.blk T (Pg c r0 r1)]:=by
 refine G7 func349 rfl ?_;exact U3 [] [0] [] rfl
end Orr
namespace Orr
open Go Go.Proofs Tryz Orq
def DK(k:Crv):Int:=max (max 0 ((k.x.length:Int)-1)) ((k.y.length:Int)-1)
structure Es where
 np:Int
 nd:Int
 M:List Pt
 q:Rat
 s:Cr
 t:Cr
 h:Cr
 p:Cr
 d:Cr
structure Em where
 np:Int
 nd:Int
 M:List Pt
 q:Rat
 s:Int
 t:Int
 h:Int
 p:Int
 d:Int
def Es.m(E:Es):Em:=⟨E.np,E.nd,E.M,E.q,E.s.ev,E.t.ev,E.h.ev,E.p.ev,E.d.ev⟩
structure MEn(np nd:Int)(M:List Pt):Prop where
 m:MOk M
 len:(M.length:Int)<=np
 deg:∀p∈M,DK p.c≤nd
 id:∀p∈M,0≤p.id/\p.id≤1048576
structure EOk(b:Int)(E:Es):Prop where
 np:1<=E.np/\E.np<=6
 nd:0<=E.nd/\E.nd<=2
 m:MEn E.np E.nd E.M
 q:Qs 128 E.q
 s:At kS E.M E.q E.s
 t:At kT E.M E.q E.t
 h:At kH E.M E.q E.h
 p:At kP E.M E.q E.p
 d:At kD E.M E.q E.d
 es:0<=E.s.ev/\E.s.ev<=b
 et:0<=E.t.ev/\E.t.ev<=b
 eh:0<=E.h.ev/\E.h.ev<=b
 ep:0<=E.p.ev/\E.p.ev<=b
 ed:0<=E.d.ev/\E.d.ev<=b
theorem EOk.mono{b c:Int}{E:Es}(h:EOk b E)(hb:b<=c):EOk c E:={ h with es:=⟨h.es.1,by have:=h.es.2;omega⟩,et:=⟨h.et.1,by have:=h.et.2;omega⟩,eh:=⟨h.eh.1,by have:=h.eh.2;omega⟩,ep:=⟨h.ep.1,by have:=h.ep.2;omega⟩,ed:=⟨h.ed.1,by have:=h.ed.2;omega⟩ }
abbrev lN(k:Nat)(q:Rat):Fe:=[.ow (k+1) 0,sg q.num,mg q.num,sg (q.den:Int),mg (q.den:Int),.ow (k+2) 0,.ow (k+3) 0,.ow (k+4) 0,.ow (k+5) 0,.ow (k+6) 0]
abbrev taR(np nd:Int)(M:List Pt):Fe:=[.int .i64 np,.int .i64 nd,pts M]
abbrev bS(c:Cr)(M:List Pt)(q:Rat):OB:=.blk 200 (Te c (Ga M) (xN M (tq q)))
abbrev bT(c:Cr)(M:List Pt)(q:Rat):OB:=.blk 206 (Pg c (Ga M) (lS M (tq q)))
abbrev bH(c:Cr)(M:List Pt)(q:Rat):OB:=.blk 208 (Te c (Ga M) (brH M (tq q)))
abbrev bP(c:Cr)(M:List Pt)(q:Rat):OB:=.blk 210 (Te c (Ga M) (brP M (tq q)))
abbrev bD(c:Cr)(M:List Pt)(q:Rat):OB:=.blk 212 (Te c (Ga M) (lT M (tq q)))
abbrev enB(k:Nat)(E:Es):Fg:=[.blk 111 (lN k E.q),.blk 189 (taR E.np E.nd E.M),bS E.s E.M E.q,bT E.t E.M E.q,bH E.h E.M E.q,bP E.p E.M E.q,bD E.d E.M E.q]
end Orr
namespace Orr
open Go Go.Proofs Tryz Orq
set_option maxRecDepth 10000
variable{l:List Pt}{id:Int}
theorem US(h:has l id=true):S6 l id<l.length:=by
 rcases Q7 (S6 l id) l.length with h1|h1
 .exact h1
 .simp[has,Qu h1]at h
theorem RP{lx ly:Ff}{px py:U8}{x y:LV}{d:Int}(hx:IsInts lx px)(m:IsInts ly py)(hd:Hi x y d)(j:Cs 4294967294 1073741824 (Crv.mk px py d))(hl:l.length<=1000000)(h:has l id=true):
 U5 357 [.agg [pts l],.agg [.row lx,.row ly,x,y,.int .i64 id]] [.agg [pts (l.set (S6 l id) (Pt.mk (Crv.norm (Crv.mk px py d)) id))],.oi 0]:=by
 have c:=Qkr (l:=l) id Fo;have a:=Qci hx m hd j id;obtain⟨b,r,rfl,rfl,_⟩:=hd;obtain⟨q,g⟩:=nmE (Pt.mk (Crv.norm (Crv.mk px py d)) id);rw[<-g]at a ⊢;have n:=US h;rw[h]at c;have e:pts (l.set (S6 l id) q)=.row ((l.map Gq).set (S6 l id) (Gq q)):=by unfold pts;rw[List.map_set]
 rw[e];exact U0 func357 rfl [.k c,.f rfl,.s (Mi l),.k a,.i (S6 l id)] rfl rfl Fw
theorem RH(hl:l.length<=1000000)(h:has l id=true):
 U5 356 [.agg [pts l],.oi id] [.agg [pts (l.take (S6 l id)++l.drop (S6 l id+1))],.oi 0]:=by
 have a:=Qkr (l:=l) id Fo;have b:=US h;rw[h]at a;have g:∀c∈(l.map Gq).take (S6 l id),c.length=5:=λc hc=>Mi l c (Qn hc)
 have d:∀c∈(l.map Gq).drop (S6 l id+1),c.length=5:=λc hc=>Mi l c (Q3 hc)
 have e:pts (l.take (S6 l id)++l.drop (S6 l id+1))=.row ((l.map Gq).take (S6 l id)++(l.map Gq).drop (S6 l id+1)):=by unfold pts;rw[List.map_append,List.map_take,List.map_drop]
 rw[e];refine U0 func356 rfl [.k a,.f rfl,.i (S6 l id),.s g,.i (S6 l id+1),.s d] rfl ?_ ?_
 .simp
 .have h1:(List.map Gq l).length=l.length:=Ft;have h2:∀z∈List.map Gq l,z.length=ti39.sz:=Mi l;simp only[Gi,Qt,Za,h1]
  and_intros <;> first|exact h2|omega
theorem sU(l:Fa):(lm l).length=l.length:=by simp[lm]
variable{z:Int}
theorem VQ:(He z.natAbs).length<=4↔Gm z<=128:=by
 constructor
 .intro h;have h1:=D7 (He z.natAbs) (Lb z.natAbs).1;rw[Re]at h1;refine Pi.2 (Xk h1 (Qa (Zp Fp h) Fp))
 .intro h;have:=Sp (x:=z.natAbs) (k:=128) h;omega
def YG(k:Crv):Bool:=(k.x++k.y++[k.d]).all λz=>decide (Gm z<=128)
variable{k:Crv}
theorem zC:YG k=true↔(∀z∈k.x,Gm z≤128)/\(∀z∈k.y,Gm z≤128)/\Gm k.d≤128:=by
 unfold YG;simp only[List.all_append,Zr,Ya,decide_eq_true_iff,Qk,forall_eq];constructor
 .rintro⟨⟨h1,h2⟩,h3⟩;exact⟨h1,h2,h3⟩
 .rintro⟨h1,h2,h3⟩;exact⟨⟨h1,h2⟩,h3⟩
theorem HF(hz:z∈k.x++k.y++[k.d])(h:¬Gm z<=128):YG k=false:=by
 unfold YG;rw[<-Bool.not_eq_true,Ya];intro a;exact h (of_decide_eq_true (a z hz))
abbrev tB(np nd:Int)(l:List Pt):OB:=.blk 189 (taR np nd l)
variable{np:Int}{l:List Pt}
theorem Qcp{nd:Int}(id:Int)(hl:l.length<1073741824):Ge prog 130 [.one (.ow 0 0),.oi id] [tB np nd l] [.oi (S6 l id:Int),.one (.bool (has l id))] [tB np nd l]:=by
 refine G7 func130 rfl ?_;refine Ux [] rfl ?_;refine ct 2 (S:=Unit) (λ_=>[(1,.v (.oi id)),(0,.v (.one (.ow 0 0))),(6,.v (.oi (S6 l id:Int)))]) (λ_=>[tB np nd l]) (λ_=>True) rfl ?_ ?_
 .refine U4 (S:=Nat) 1 (λL1 k=>(6,.v (.oi k))::L1) (λ_=>[tB np nd l]) (λk=>l.length-k) (λk=>k<=l.length/\∀j p,j<k->l[j]? = some p->p.id<id) 0 ⟨Qj _,λj p h=>Fo⟩ rfl rfl λk ⟨m,b⟩=>?_
  by_cases h:k<l.length
  .obtain⟨p,hp⟩:=gxE (l:=l) (i:=k) h;by_cases a:p.id<id
   .refine Uy [.t Fq,.x (Mr hp),.t (by simpa using a)] rfl ?_;exact rd (k+1) Fo ⟨h,λj q d c=>by
     rcases Q7 j k with h2|h2
     .exact b j q h2 c
     .have:j=k:=Fo;subst this;rw[hp]at c;injection c with c;rw[<-c];exact a⟩ rfl
   .have e:=zV b (.inr ⟨p,hp,a⟩);refine Ux [.t Fq,.x (Mr hp),.f (by simpa using a)] rfl ?_;rw[e];exact rc () trivial rfl
  .obtain rfl:k=l.length:=Fo;have e:=zV b (.inl rfl);refine Ux [.f Ft,.f rfl] rfl ?_;rw[e];exact rc () trivial rfl
 .intro _ _;by_cases h:S6 l id<l.length
  .obtain⟨p,hp⟩:=gxE (l:=l) (i:=S6 l id) h;have e:has l id=decide (p.id=id):=by simp[has,hp]
   rw[e];exact U3 [] [0] [.g 36 true Fq,.x (Mr hp)] rfl
  .have e:has l id=false:=by simp[has,Qu (Yc h)]
   rw[e];exact U3 [] [0] [.g 36 false Fq] rfl
theorem jD{lx ly:Ff}{px py:U8}{x y:LV}{d:Int}(hx:IsInts lx px)(h:IsInts ly py)(hd:Hi x y d)(a:Cs 4294967294 1073741824 (Crv.mk px py d))(id:Int):U5 129 [.agg [.row lx,.row ly,x,y,.int .i64 id]] [.agg (Gq ⟨Crv.norm (Crv.mk px py d),id⟩)]:=by
 have cd:=Bz hd (Qa a.d Fo);by_cases h0:d=0
 .subst h0;have ck:Cs 4294967294 1073741824 (Crv.mk px py 1):=⟨a.x,a.y,show Gm 1<=4294967294 by decide,a.lx,a.ly⟩;have c:=RR hx h (Gb 1) ck Fp;have e:Crv.norm (Crv.mk px py 1)=Crv.norm (Crv.mk px py 0):=by simp only[Crv.norm,Crv.g,Crv.d'];rfl
  rw[e]at c;obtain⟨b,l,rfl,rfl,_⟩:=hd;exact U0 func129 rfl [.k cd,.k Ep,.t Ft,.k (AD (z:=1) Fp),.k c] rfl
 .have c:=RR hx h hd a h0;obtain⟨b,l,rfl,rfl,_⟩:=hd;exact U0 func129 rfl [.k cd,.k Ep,.f (by simpa using h0),.k c] rfl
theorem Qld(g:Cs 4294967294 1073741824 k):U5 197 [.agg (cl k)] [.one (.bool (YG k))]:=by
 have q:=g.lx;have r:=g.ly;refine G7 func197 rfl ?_;refine Ux [] rfl ?_;refine U4 (S:=Nat) 1 (λL1 i=>(15,.v (.oi i))::L1) (λ_=>[.blk 37 (cl k)]) (λi=>3-i) (λi=>i≤3/\(0<i->∀z∈k.x,Gm z≤128)/\(1<i->∀z∈k.y,Gm z≤128)/\(2<i->Gm k.d≤128)) 0 ⟨Fp,Fo,Fo,Fo⟩ rfl rfl λi ⟨hi,e,o,p⟩=>?_
 rcases(show i=0\/i=1\/i=2\/i=3 by omega)with rfl|rfl|rfl|rfl
 .have hl:((k.x).map Rr).length=(k.x).length:=Ft;refine Ux [.t rfl,.i 0] rfl ?_ Fy;refine U4 (S:=Nat) 1 (λL1 j=>(20,.v (.oi j))::L1) (λ_=>[.blk 37 (cl k)]) (λj=>(k.x).length-j) (λj=>j<=(k.x).length/\∀n z,n<j->(k.x)[n]? = some z->Gm z<=128) 0 ⟨Qj _,λn z h=>Fo⟩ rfl rfl λj ⟨m,hs⟩=>?_
  by_cases h:j<(k.x).length
  .obtain⟨z,hz⟩:=gxE (l:=(k.x)) (i:=j) h;by_cases hb:Gm z<=128
   .have c:=VQ.2 hb;refine Uy [.t Fq,.x (Ra (f:=Rr) hz),.f (by simp[sU];omega)] rfl ?_;exact rd (j+1) Fo ⟨h,λn y hn b=>by
     rcases Q7 n j with h2|h2
     .exact hs n y h2 b
     .have:n=j:=Fo;subst this;rw[hz]at b;injection b with b;rw[<-b];exact hb⟩ rfl
   .have c:=mt VQ.1 hb;rw[HF (Qr.2 (.inl (Qr.2 (.inl (Qc hz))))) hb];exact Uz [.t Fq,.x (Ra (f:=Rr) hz),.t (by simp[sU];omega)] rfl
  .have a:∀z∈k.x,Gm z≤128:=λz hz=>by
    obtain⟨n,hn⟩:=Xz hz;exact hs n z (by have:=(Qh.1 hn).1;omega) hn
   refine Ux [.f Fq] rfl ?_ Fy;exact rd 1 Fo ⟨Fo,λ_=>a,Fo,Fo⟩ rfl
 .have hl:((k.y).map Rr).length=(k.y).length:=Ft;refine Ux [.t rfl,.i 1] rfl ?_ Fy;refine U4 (S:=Nat) 1 (λL1 j=>(20,.v (.oi j))::L1) (λ_=>[.blk 37 (cl k)]) (λj=>(k.y).length-j) (λj=>j<=(k.y).length/\∀n z,n<j->(k.y)[n]? = some z->Gm z<=128) 0 ⟨Qj _,λn z h=>Fo⟩ rfl rfl λj ⟨m,hs⟩=>?_
  by_cases h:j<(k.y).length
  .obtain⟨z,hz⟩:=gxE (l:=(k.y)) (i:=j) h;by_cases hb:Gm z<=128
   .have c:=VQ.2 hb;refine Uy [.t Fq,.x (Ra (f:=Rr) hz),.f (by simp[sU];omega)] rfl ?_;exact rd (j+1) Fo ⟨h,λn y hn b=>by
     rcases Q7 n j with h2|h2
     .exact hs n y h2 b
     .have:n=j:=Fo;subst this;rw[hz]at b;injection b with b;rw[<-b];exact hb⟩ rfl
   .have c:=mt VQ.1 hb;rw[HF (Qr.2 (.inl (Qr.2 (.inr (Qc hz))))) hb];exact Uz [.t Fq,.x (Ra (f:=Rr) hz),.t (by simp[sU];omega)] rfl
  .have a:∀z∈k.y,Gm z≤128:=λz hz=>by
    obtain⟨n,hn⟩:=Xz hz;exact hs n z (by have:=(Qh.1 hn).1;omega) hn
   refine Ux [.f Fq] rfl ?_ Fy;exact rd 2 Fo ⟨Fo,λ_=>e Fo,λ_=>a,Fo⟩ rfl
 .have hl:(([k.d]).map Rr).length=([k.d]).length:=Ft;have h1:([k.d]).length=1:=rfl;refine Ux [.t rfl,.i 2] rfl ?_ Fy;refine U4 (S:=Nat) 1 (λL1 j=>(20,.v (.oi j))::L1) (λ_=>[.blk 37 (cl k)]) (λj=>([k.d]).length-j) (λj=>j<=([k.d]).length/\∀n z,n<j->([k.d])[n]? = some z->Gm z<=128) 0 ⟨Qj _,λn z h=>Fo⟩ rfl rfl λj ⟨m,hs⟩=>?_
  by_cases h:j<([k.d]).length
  .obtain⟨z,hz⟩:=gxE (l:=([k.d])) (i:=j) h;by_cases hb:Gm z<=128
   .have c:=VQ.2 hb;refine Uy [.t Fq,.x (Ra (f:=Rr) hz),.f (by simp[sU];omega)] rfl ?_;exact rd (j+1) Fo ⟨h,λn y hn b=>by
     rcases Q7 n j with h2|h2
     .exact hs n y h2 b
     .have:n=j:=Fo;subst this;rw[hz]at b;injection b with b;rw[<-b];exact hb⟩ rfl
   .have c:=mt VQ.1 hb;rw[HF (Qr.2 (.inr (Qc hz))) hb];exact Uz [.t Fq,.x (Ra (f:=Rr) hz),.t (by simp[sU];omega)] rfl
  .have a:∀z∈[k.d],Gm z≤128:=λz hz=>by
    obtain⟨n,hn⟩:=Xz hz;exact hs n z (by have:=(Qh.1 hn).1;omega) hn
   refine Ux [.f Fq] rfl ?_ Fy;exact rd 3 Fo ⟨Fo,λ_=>e Fo,λ_=>o Fo,λ_=>a k.d Ft⟩ rfl
 .rw[zC.2 ⟨e Fo,o Fo,p Fo⟩];exact Uz [.f rfl] rfl
def KR(p:Pt):Bool:=decide (0<=p.id) && (decide (p.id<=1048576) && YG p.c)
theorem Qli{p:Pt}(a:Cs 4294967294 1073741824 p.c):U5 131 [.agg (Gq p)] [.one (.bool (KR p))]:=by
 have cs:=Qld a;by_cases h0:0<=p.id
 .by_cases h1:p.id<=1048576
  .have e:KR p=YG p.c:=by simp[KR,h0,h1]
   rw[e];exact U0 func131 rfl [.t (by simpa using h0),.t (by simpa using h1),.k cs] rfl
  .have e:KR p=false:=by simp[KR,h1]
   rw[e];exact U0 func131 rfl [.t (by simpa using h0),.f (by simpa using h1)] rfl
 .have e:KR p=false:=by simp[KR,h0]
  rw[e];exact U0 func131 rfl [.f (by simpa using h0),.f rfl] rfl
theorem Qkq(hn:WN k)(a:Cs 4294967294 1073741824 k):U5 132 [.agg (cl k)] [.oi (DK k)] :=
 U0 func132 rfl [.k (IX hn a),.k (Bh k.x),.k (Bh k.y)] rfl
def Dd(np nd:Int)(M:List Pt)(p:Pt):Int:=if KR p=false then 1 else if has M p.id=true then 6 else if nd<DK p.c then 7 else if np<=(M.length:Int)then 9 else 0
theorem Qzr{lx ly:Ff}{px py:U8}{x y:LV}{d id nd:Int}(hx:IsInts lx px)(A:IsInts ly py)(hd:Hi x y d)(w:Cs 4294967294 1073741824 (Crv.mk px py d))(hl:l.length<=1000000):
 Ge prog 70 [.one (.ow 0 0),.agg [.row lx,.row ly,x,y,.int .i64 id]] [tB np nd l] [.oi (Dd np nd l (Pt.mk (Crv.norm (Crv.mk px py d)) id))] [tB np nd (if Dd np nd l (Pt.mk (Crv.norm (Crv.mk px py d)) id)=0 then put l (Pt.mk (Crv.norm (Crv.mk px py d)) id)else l)]:=by
 have h:=jD hx A hd w id;have g:=w.norm Fo;have j:=Crv.nml (Crv.mk px py d);obtain⟨b,r,rfl,rfl,_⟩:=hd;obtain⟨q,o⟩:=nmE (Pt.mk (Crv.norm (Crv.mk px py d)) id);have a:q.id=id:=by rw[o]
 have u:q.c=Crv.norm (Crv.mk px py d):=by rw[o]
 rw[<-o]at h ⊢;rw[<-u]at g j;have n:Ge prog 130 [.one (.ow 0 0),.oi q.id] [tB np nd l] [.oi (S6 l id:Int),.one (.bool (has l id))] [tB np nd l]:=by rw[a];exact Qcp id Fo
 have m:=Qli (p:=q) g;have cd:=Qkq j g;have C:=rT l id;have v:(l.map Gq).length=l.length:=Ft;by_cases h0:KR q=false
 .have e:Dd np nd l q=1:=by simp[Dd,h0]
  rw[e,if_neg Fp];refine G7 func70 rfl ?_;exact U3 [] [0] [.k h,.c [0] n,.k m,.t (by simp[h0])] rfl
 by_cases h1:has l id=true
 .have e:Dd np nd l q=6:=by simp[Dd,h0,a,h1]
  rw[e,if_neg Fp];refine G7 func70 rfl ?_;exact U3 [] [0] [.k h,.c [0] n,.k m,.f (by simpa using h0),.t h1] rfl
 by_cases h2:nd<DK q.c
 .have e:Dd np nd l q=7:=by simp[Dd,h0,a,h1,h2]
  rw[e,if_neg Fp];refine G7 func70 rfl ?_;exact U3 [] [0] [.k h,.c [0] n,.k m,.f (by simpa using h0),.f (by simpa using h1),.k cd,.t (by simpa using h2)] rfl
 by_cases h3:np<=(l.length:Int)
 .have e:Dd np nd l q=9:=by simp[Dd,h0,a,h1,h2,h3]
  rw[e,if_neg Fp];refine G7 func70 rfl ?_;exact U3 [] [0] [.k h,.c [0] n,.k m,.f (by simpa using h0),.f (by simpa using h1),.k cd,.f (by simpa using h2),.t Fq] rfl
 have e:Dd np nd l q=0:=by simp[Dd,h0,a,h1,h2,h3]
 rw[e,if_pos rfl];have z:∀c∈(l.map Gq).take (S6 l id),c.length=5:=λc hc=>Mi l c (Qn hc)
 have B:∀c∈(l.map Gq).drop (S6 l id),c.length=5:=λc hc=>Mi l c (Q3 hc)
 have ep:pts (put l q)=.row ((l.map Gq).take (S6 l id)++[Gq q]++(l.map Gq).drop (S6 l id)):=by
  simp[put,a,pts,Yd,Vv]
 have eB:tB np nd (put l q)=.blk 189 [.int .i64 np,.int .i64 nd,.row ((l.map Gq).take (S6 l id)++[Gq q]++(l.map Gq).drop (S6 l id))]:=by
  show OB.blk 189 [.int .i64 np,.int .i64 nd,pts (put l q)]=_;rw[ep]
 rw[eB];refine G7 func70 rfl ?_;exact U3 [2] [0] [.k h,.c [0] n,.k m,.f (by simpa using h0),.f (by simpa using h1),.k cd,.f (by simpa using h2),.f Fq,.i (S6 l id),.s z,.i (S6 l id),.s B] rfl (by
  simp only[Gi,Qw,Q5,Xt,Qt,Za,v]
  and_intros <;> first|exact Mi l|omega)
def Cw(nd:Int)(M:List Pt)(p:Pt):Int:=if KR p=false then 1 else if has M p.id=false then 5 else if nd<DK p.c then 7 else 0
theorem Qtc{lx ly:Ff}{px py:U8}{x y:LV}{d id nd:Int}(hx:IsInts lx px)(A:IsInts ly py)(hd:Hi x y d)(w:Cs 4294967294 1073741824 (Crv.mk px py d))(hl:l.length<=1000000):
 Ge prog 72 [.one (.ow 0 0),.agg [.row lx,.row ly,x,y,.int .i64 id]] [tB np nd l] [.oi (Cw nd l (Pt.mk (Crv.norm (Crv.mk px py d)) id))] [tB np nd (if Cw nd l (Pt.mk (Crv.norm (Crv.mk px py d)) id)=0 then l.set (S6 l id) (Pt.mk (Crv.norm (Crv.mk px py d)) id)else l)]:=by
 have j:=jD hx A hd w id;have g:=w.norm Fo;have h:=Crv.nml (Crv.mk px py d);obtain⟨b,r,rfl,rfl,_⟩:=hd;obtain⟨q,o⟩:=nmE (Pt.mk (Crv.norm (Crv.mk px py d)) id);have a:q.id=id:=by rw[o]
 have u:q.c=Crv.norm (Crv.mk px py d):=by rw[o]
 rw[<-o]at j ⊢;rw[<-u]at g h;have n:Ge prog 130 [.one (.ow 0 0),.oi q.id] [tB np nd l] [.oi (S6 l id:Int),.one (.bool (has l id))] [tB np nd l]:=by rw[a];exact Qcp id Fo
 have m:=Qli (p:=q) g;have cd:=Qkq h g;have C:=rT l id;have v:(l.map Gq).length=l.length:=Ft;by_cases h0:KR q=false
 .have e:Cw nd l q=1:=by simp[Cw,h0]
  rw[e,if_neg Fp];refine G7 func72 rfl ?_;exact U3 [] [0] [.k j,.c [0] n,.k m,.t (by simp[h0])] rfl
 by_cases h1:has l id=false
 .have e:Cw nd l q=5:=by simp[Cw,h0,a,h1]
  rw[e,if_neg Fp];refine G7 func72 rfl ?_;exact U3 [] [0] [.k j,.c [0] n,.k m,.f (by simpa using h0),.t (by simp[h1])] rfl
 by_cases h2:nd<DK q.c
 .have e:Cw nd l q=7:=by simp[Cw,h0,a,h1,h2]
  rw[e,if_neg Fp];refine G7 func72 rfl ?_;exact U3 [] [0] [.k j,.c [0] n,.k m,.f (by simpa using h0),.f (by simpa using h1),.k cd,.t (by simpa using h2)] rfl
 have e:Cw nd l q=0:=by simp[Cw,h0,a,h1,h2]
 rw[e,if_pos rfl];have z:has l id=true:=by simpa using h1
 have B:=US z;have eB:tB np nd (l.set (S6 l id) q)=.blk 189 [.int .i64 np,.int .i64 nd,.row ((l.map Gq).set (S6 l id) (Gq q))]:=by
  show OB.blk 189 [.int .i64 np,.int .i64 nd,pts (l.set (S6 l id) q)]=_;unfold pts;rw[List.map_set]
 rw[eB];refine G7 func72 rfl ?_;exact U3 [2] [0] [.k j,.c [0] n,.k m,.f (by simpa using h0),.f (by simpa using h1),.k cd,.f (by simpa using h2),.s (Mi l),.i (S6 l id)] rfl (by
  simp only[Gi,v]
  and_intros <;> first|exact Mi l|omega)
theorem Qtb{id nd:Int}(hl:l.length<=1000000)(h:has l id=true):
 Ge prog 71 [.one (.ow 0 0),.oi id] [tB np nd l] [.oi 0] [tB np nd (l.take (S6 l id)++l.drop (S6 l id+1))]:=by
 have b:=Qcp (np:=np) (nd:=nd) (l:=l) id Fo;have d:=US h;rw[h]at b;have a:(l.map Gq).length=l.length:=Ft;have g:∀c∈(l.map Gq).take (S6 l id),c.length=5:=λc hc=>Mi l c (Qn hc)
 have e:∀c∈(l.map Gq).drop (S6 l id+1),c.length=5:=λc hc=>Mi l c (Q3 hc)
 have eB:tB np nd (l.take (S6 l id)++l.drop (S6 l id+1))=.blk 189 [.int .i64 np,.int .i64 nd,.row ((l.map Gq).take (S6 l id)++(l.map Gq).drop (S6 l id+1))]:=by
  show OB.blk 189 [.int .i64 np,.int .i64 nd,pts (l.take (S6 l id)++l.drop (S6 l id+1))]=_;unfold pts;rw[List.map_append,List.map_take,List.map_drop]
 rw[eB];refine G7 func71 rfl ?_;exact U3 [1] [0] [.c [0] b,.f rfl,.i (S6 l id),.s g,.i (S6 l id+1),.s e] rfl (by
  simp only[Gi,Qw,Q5,Xt,Qt,Za,a]
  and_intros <;> first|exact Mi l|omega)
theorem Qlg{id nd:Int}(hl:l.length<=1000000)(h:has l id=false):
 Ge prog 71 [.one (.ow 0 0),.oi id] [tB np nd l] [.oi 5] [tB np nd l]:=by
 have a:=Qcp (np:=np) (nd:=nd) (l:=l) id Fo;rw[h]at a;refine G7 func71 rfl ?_;exact U3 [] [0] [.c [0] a,.t rfl] rfl
theorem Qlf{nd:Int}:Ge prog 141 [.one (.ow 0 0)] [tB np nd l] [.one (.ow 1 0)] [tB np nd l,tB np nd l]:=by
 refine G7 func141 rfl ?_;exact U3 [] [0,1] [] rfl
def XF(l:List (Pt×Pt)):Ff:=l.map Qhs
theorem Qtv{l m:Ff}(h:l=m):TV.one (LV.row l)=.one (.row m):=h ▸ rfl
theorem oz{P:Program}[Mo P]{n:Nat}{Q:Exit->Sg->Fg->Prop}{L a:Sg}{B b:Fg}(d off T sz:Nat){it:List It}(hs:So it=true)(h:Qae (P:=P) d L B [.oc d off T sz]=some (a,b,[],[]))(k:AK P n Q it a b):AK P n Q it L B:=AK.sub (zF h EqOk.nil) hs k
theorem Qsd{a b:Pt}{t:Tm}(ha:Sc a.c)(hb:Sc b.c)(ht:Va t):U5 182 [.oi 2,.agg (ta t),.one (.row [Gq a,Gq b])] [.agg (Ey (Ag (G6 t) a b)),.oi 0]:=by
 have h1:=Cy hb ha;have h2:=Cz hb ha;refine G7 func182 rfl ?_;refine Ux [.k Qgm,.f rfl] rfl ?_;refine U4 (S:=Nat) 3 (λL1 i=>(22,.v (.oi i))::L1) (λi=>[.blk 72 (ta t),.blk 66 zCt,.blk 66 [.int .i64 2,.int .i64 (if 1<=i then a.id else 0),.int .i64 (if 2<=i then b.id else 0),.int .i64 0,.int .i64 0,.nils,.int .i64 0]]) (λi=>2-i) (λi=>i<=2) 0 (Qj _) rfl rfl λi hi=>?_
 rcases(show i=0\/i=1\/i=2 by omega)with rfl|rfl|rfl
 .refine Ux [.t rfl,.x (i:=0) (xs:=Gq a) rfl,.i 0] rfl ?_ Fy;exact rd 1 Fo Fo rfl
 .refine Ux [.t rfl,.x (i:=1) (xs:=Gq b) rfl,.i 1] rfl ?_ Fy;exact rd 2 Fo Fo rfl
 .exact Uz [.f rfl,.f rfl,.t rfl,.x (i:=1) (xs:=Gq b) rfl,.x (i:=0) (xs:=Gq a) rfl,.k (RV hb.n ha.n hb.cb ha.cb),.x (i:=1) (xs:=Gq b) rfl,.x (i:=0) (xs:=Gq a) rfl,.k (RG hb.n ha.n hb.cb ha.cb),.k pG,.k (BH (UX h1 h2).dp ht)] rfl
theorem Qkj{a:Tm}(ha:Va a){c:Cr}{r0 r1:Ff}:∀(k:Nat) (l:List Pt) (ms:List (Pt×Pt)),l.length≤k->l.length≤1000->ms.length+l.length≤1000000->(∀p∈l,Sc p.c)->Ge prog 181 [.one (.ow 0 0),.agg (ta a),.one (pts l)] [.blk 206 [.bool true,pl c.now.p,sg c.now.lo.num,mg c.now.lo.num,sg (c.now.lo.den:Int),mg (c.now.lo.den:Int),sg c.now.hi.num,mg c.now.hi.num,sg (c.now.hi.den:Int),mg (c.now.hi.den:Int),.row (Lk c.l),.int .i64 c.ev,.row r0,.row r1,.orow 1 10 none],.row false 272 10 (XF ms)] [.one (.row (Ga (Lj (G6 a) l).1))] [.blk 206 [.bool true,pl c.now.p,sg c.now.lo.num,mg c.now.lo.num,sg (c.now.lo.den:Int),mg (c.now.lo.den:Int),sg c.now.hi.num,mg c.now.hi.num,sg (c.now.hi.den:Int),mg (c.now.hi.den:Int),.row (Lk c.l),.int .i64 c.ev,.row r0,.row r1,.orow 1 10 none],.row false 272 10 (XF (ms++(Lj (G6 a) l).2))]
 := by
  intro k
  induction k with
  |zero=>?_
  |succ k C=>?_
  all_goals
   intro l ms I hn hms hl;have d:=Rl l;show Ge prog 181 [.one (.ow 0 0),.agg (ta a),.one (.row (Ga l))] _ _ _;by_cases hs:l.length<2
   .rw[Lx _ hs,Zx];refine G7 func181 rfl ?_;exact U3 [] [0,1] [.t (by simp[d];omega)] rfl
   first
    |(exfalso;omega)
    |
     skip
     obtain⟨A,E,H,J⟩:=Qna hs I;obtain⟨h,M⟩:=nmE ((l.length+1) / 2);obtain⟨u,hu,o,_⟩:=C7 (G6 a) k (l.take ((l.length+1) / 2)) A H;obtain⟨v,hv,g,_⟩:=C7 (G6 a) k (l.drop ((l.length+1) / 2)) E J;have N:=E4 (G6 a) _ (l.take ((l.length+1) / 2)) (Ql _);have L:=E4 (G6 a) _ (l.drop ((l.length+1) / 2)) (Ql _);have F:(l.take ((l.length+1) / 2)).length+(l.drop ((l.length+1) / 2)).length=l.length:=by rw[Qt,Za];omega
     have w:=C (l.take ((l.length+1) / 2)) ms A Fo Fo λp hp=>hl p (Qn hp)
     have j:=C (l.drop ((l.length+1) / 2)) (ms++(Lj (G6 a) (l.take ((l.length+1) / 2))).2) E Fo (by rw[Qw];omega) λp hp=>hl p (Q3 hp)
     have y:=XE (G6 a) hs hu hv;rw[y];rw[hu]at w;rw[hv]at j;generalize (Lj (G6 a) (l.take ((l.length+1) / 2))).2=G1 at *;generalize (Lj (G6 a) (l.drop ((l.length+1) / 2))).2=G2 at *;have q:=hl u (Qn o);have n:=hl v (Q3 g);have cb:=Qrz (t:=a) q n ha;have G:((l.length:Int)+1).tdiv 2=(((l.length+1) / 2:Nat):Int):=rfl;have hg:∀m,XF (ms++(G1++G2++[m]))=XF ((ms++G1)++G2)++[Qhs m]:=λm=>by simp[XF]
     have K:(XF ((ms++G1)++G2)).length=ms.length+G1.length+G2.length:=by simp[XF];omega
     have e:(XF (ms++(G1++G2))).length=ms.length+G1.length+G2.length:=by simp[XF];omega
     have h5:=eq_true (p:=∀z,z∈Ga l->z.length=ti39.sz) (UB l);have D:(Ga l).take ((l.length+1) / 2)=Ga (l.take ((l.length+1) / 2)):=by simp[Ga,Yd]
     have B:(Ga l).drop ((l.length+1) / 2)=Ga (l.drop ((l.length+1) / 2)):=by simp[Ga,Vv]
     unfold DU;refine G7 func181 rfl ?_;by_cases hb:Ln (G6 a) u v=true
     .rw[if_pos hb,hg];exact U3 [] [0,1] [.f (by simp[d];omega),.r 17 (eI (b:=(((l.length+1) / 2:Nat):Int)) (by rw[d];rfl)),.i ((l.length+1) / 2),.r 22 (Qtv D),.c [0,1] w,.i ((l.length+1) / 2),.r 28 (Qtv B),.c [0,1] j,.x (i:=0) (l:=Ga [u]) (xs:=Gq u) rfl,.x (i:=0) (l:=Ga [v]) (xs:=Gq v) rfl,.k cb,.f (by rw[hb];rfl),.x (i:=0) (l:=Ga [u]) (xs:=Gq u) rfl,.x (i:=0) (l:=Ga [v]) (xs:=Gq v) rfl,.s (sz:=10) (l:=[Qhs (u,v)]) (λc hc=>by rw[Qk.1 hc];rfl),.i 1] rfl (by simp[Gi,Rl,e,h5];omega)
     .have hb:Ln (G6 a) u v=false:=by simpa using hb
      rw[if_neg (by simp[hb]),hg];exact U3 [] [0,1] [.f (by simp[d];omega),.r 17 (eI (b:=(((l.length+1) / 2:Nat):Int)) (by rw[d];rfl)),.i ((l.length+1) / 2),.r 22 (Qtv D),.c [0,1] w,.i ((l.length+1) / 2),.r 28 (Qtv B),.c [0,1] j,.x (i:=0) (l:=Ga [u]) (xs:=Gq u) rfl,.x (i:=0) (l:=Ga [v]) (xs:=Gq v) rfl,.k cb,.t (by rw[hb];rfl),.x (i:=0) (l:=Ga [v]) (xs:=Gq v) rfl,.x (i:=0) (l:=Ga [u]) (xs:=Gq u) rfl,.s (sz:=10) (l:=[Qhs (v,u)]) (λc hc=>by rw[Qk.1 hc];rfl),.i 1] rfl (by simp[Gi,Rl,e,h5];omega)
theorem jN{l:List Pt}{a:Tm}{c:Cr}{r1:Ff×Ff}(hl:∀p∈l,Sc p.c)(hn:l.length≤1000)(ha:Va a):Ge prog 115 [.one (.ow 0 0),.agg (ta a)] [.blk 206 (Pg c (Ga l) r1)] [.one (.row (Gk (xM l a)))] [.blk 206 (Pg c (Ga l) (lS l a))]:=by
 have cp:=Qkj (r0:=Ga l) (c:=c) (r1:=r1.1) ha l.length l [] (Ql _) hn (by show 0+l.length≤1000000;omega) hl;have hms:=E4 (G6 a) l.length l (Ql _);unfold xM lS;obtain⟨M,hM⟩:=nmE ((Lj (G6 a) l).2);have d:∀m∈M,Sc m.1.c/\Sc m.2.c:=λm hm=>by
  rw[hM]at hm;exact⟨hl _ (WQ m hm).1,hl _ (WQ m hm).2⟩
 rw[<-hM]at cp hms ⊢;rw[Jn]at cp;have e:(XF M).length=M.length:=by simp[XF]
 refine G7 func115 rfl ?_;refine Ux [] rfl ?_;refine oz 0 14 272 10 rfl rfl ?_;refine Ux [.k ZJ,.c [0,2] cp,.o 5 66 7] rfl ?_;refine U4 (S:=Nat) 4 (λL1 i=>(29,.v (.oi i))::(5,.v (.one (.orow 3 7 none)))::L1) (λi=>[.blk 206 [.bool true,pl c.now.p,sg c.now.lo.num,mg c.now.lo.num,sg (c.now.lo.den:Int),mg (c.now.lo.den:Int),sg c.now.hi.num,mg c.now.hi.num,sg (c.now.hi.den:Int),mg (c.now.hi.den:Int),.row (Lk c.l),.int .i64 c.ev,.row (Ga l),.row (Ga (Lj (G6 a) l).1),.orow 2 10 none],.blk 72 (ta a),.row false 272 10 (XF M),.row false 66 7 (Gk ((M.map λm=>Ag (G6 a) m.1 m.2).take i))]) (λi=>M.length-i) (λi=>i<=M.length) 0 (Qj _) rfl rfl λi hi=>?_
 by_cases b:i<M.length
 .obtain⟨m,hm⟩:=gxE (l:=M) (i:=i) b;obtain⟨g,j⟩:=d m (Qc hm);have hg:(XF M)[i]? = some (Qhs m):=Ra hm;have f:∀y∈[Ey (Ag (G6 a) m.1 m.2)],y.length=7:=λy h=>by rw[Qk.1 h];rfl
  have ht:(M.map λm=>Ag (G6 a) m.1 m.2).take (i+1)=(M.map λm=>Ag (G6 a) m.1 m.2).take i++[Ag (G6 a) m.1 m.2]:=by
   rw[Zv,Q9,hm];rfl
  refine go tt [.T,.i i,.x hg,.i 0,.i 1,.k (Qsd g j ha),.s (sz:=7) f] rfl (by simp[Gi,e,Nf];omega) ?_;exact rd (i+1) Fo b (by rw[ht];simp[Gk];rfl)
 .obtain rfl:i=M.length:=Fo;rw[Qo Ft];exact U3 [2,3] [0] [.F] rfl
def Q22(l:List Pt)(a:Tm):Cr:=⟨a,(Gv (xM l a)).map fresh,0⟩
variable{c:Cr}
theorem Qsr{t:Rat}{l:List Pt}{K:Nat}{c':Cr}{r1 b:Ff×Ff}{n:Int}(ht:Qs 1640000 t)(hl:∀p∈l,Sc p.c)(hn:l.length≤1000)(hc:CrOk c)(d:0≤c.ev/\c.ev+K≤1000000000000000000)(h:Gt c.now t≤0)(hg:HE (xM l) (lS l) t K c r1 0=some (c',b,n)):
 Ge prog 375 [.one (.ow 0 0),.agg (rl t)] [.blk 206 (Pg c (Ga l) r1)] [.oi n,.oi 0] [.blk 206 (Pg c' (Ga l) b)]:=by
 have e:=Q3e (T:=206) (r0:=Ga l) ht (eK hl hn) (λa c r1 ha _=>jN (c:=c) (r1:=r1) hl hn ha) hc d h hg;refine G7 func375 rfl ?_;exact U3 [] [0] [.k (Dk (ht.mono Fp)),.c [0] e] rfl
theorem Qst{r0 r2:Ff}{w:Pt}:Ge prog 107 [.one (.ow 0 0)] [.blk 206 (Pg c r0 ([Gq w],r2))] [.oi w.id,.one (.bool true)] [.blk 206 (Pg c r0 ([Gq w],r2))]:=by
 refine G7 func107 rfl ?_;exact U3 [] [0] [.f rfl,.x (i:=0) (xs:=Gq w) rfl] rfl
theorem Qkm{r0 r2:Ff}:Ge prog 107 [.one (.ow 0 0)] [.blk 206 (Pg c r0 ([],r2))] [.oi 0,.one (.bool false)] [.blk 206 (Pg c r0 ([],r2))]:=by
 refine G7 func107 rfl ?_;exact U3 [] [0] [.t rfl] rfl
end Orr
