import Derived.Test.YtenbfolapbibpaaGreatPart07
import Derived.Test.YtenbfolapbibpaaGreatPart10
import Derived.Test.YtenbfolapbibpaaGreatPart00
import Derived.Test.YtenbfolapbibpaaGreatPart09
import Derived.Test.YtenbfolapbibpaaGreatPart08
import Derived.Deep.Slices
import Derived.ProofKit
import Derived.OpenShut
import Derived.WideKeyArgs
import Derived.SizedLaws
set_option linter.all false
namespace Orr
open Go Go.Proofs Tryz Orq
set_option maxRecDepth 10000
theorem YB(a:Int):∀i,Gl (a^i)<=Gl a*i+1
 | 0=>by rw[Ug];show Gl 1<=_;exact Qc Fl (Wx 1 _)
 |
  i+1=>by
  rw[Uf];have h1:=Hb (a^i) a;have h2:=YB a i;rw[Uk];omega
theorem Qhv{a:Int}{n:Nat}(ha:Gl a<=1000)(hn:n<=256):U3 122 [.agg (Rj a),.oi n] [.agg (Rj (a^n))]:=by
 refine G5 func122 rfl ?_;refine Uv [.k (EZ (z:=1) Fl),.r 8 (v:=.oi n) Fo,.r 9 (v:=.oi n) Fp] rfl ?_;refine lp (S:=Nat) 3 (λL1 i=>(10,.v (.oi i))::L1) (λi=>[.blk 35 (Rj a),.blk 35 [.bool false,.nils],.blk 35 (Rj (a^i))]) (λi=>n-i) (λi=>i<=n) 0 (Qg _) rfl (λ_ _=>rfl) (by rw[Ug];rfl) λi hi=>?_
 by_cases h:i<n
 ·have h1:=YB a i;have h2:Gl a*i<=1000*256:=Zg ha Fj;have cm:=Nj (Fy (a^i)) (Fy a) Fj Fj;rw[<-Uf]at cm;refine Uw [.t Fo,.k cm] rfl ?_;exact rd (i+1) Fj h rfl
 ·obtain rfl:i=n:=Fj;exact Ux [.f Fp] rfl
def Sk(n d:Int):U6->U6×Int
 | []=>([],1)
 |x::l=>(Eh (Hg (Sk n d l).1 [n,d]) [x*(Sk n d l).2],(Sk n d l).2*d)
theorem eW(n d:Int):∀l,Gk (Sk n d l).1
 | []=>rfl
 |_::_=>Gw _ _
theorem cY{n d:Int}(hn:Gl n<=130)(hd:Gl d<=130):Bd 130 [n,d]:=λz hz=>by
 rcases Qk.1 hz with rfl|hz
 ·exact hn
 ·rw[Ql.1 hz];exact hd
theorem RU{n d:Int}(hn:Gl n<=130)(hd:Gl d<=130){s:Nat}:∀{l:U6},Bd s l->l.length<=8->Bd (s+140*l.length) (Sk n d l).1/\(Sk n d l).1.length<=l.length/\Gl (Sk n d l).2<=130*l.length+1
 | [],_,_=>⟨UG,Qm _,by show Gl 1<=_;exact Qc Fl (Wx 1 _)⟩
 |
  x::l,h,hl=>by
  rw[Q5]at hl ⊢;obtain⟨h1,h2,h3⟩:=RU hn hd (λz hz=>h z (Qh _ hz)) (by omega:l.length<=8);have hx:=h x (Qw ..);have b1:=Mv (u:=4) h1 (cY hn hd) Fj;have b2:Bd (s+(130*l.length+1)) [x*(Sk n d l).2]:=λz hz=>by
   rw[Ql.1 hz];have:=Hb x (Sk n d l).2;omega
  refine⟨Fz (KV b1 b2) Fj,?_,?_⟩
  ·have h4:=ZQ (Hg (Sk n d l).1 [n,d]) [x*(Sk n d l).2];have h5:=Pm (Sk n d l).1 [n,d];simp only[Q5,Xy]at h4 h5;show(Eh _ _).length<=_;omega
  ·have:=Hb (Sk n d l).2 d;show Gl ((Sk n d l).2*d)<=_;omega
theorem Qeu{a:U6}{j:Nat}{x:Int}(h:a[j]? = some x):a.drop j=x::a.drop (j+1):=by
 obtain⟨h1,h2⟩:=Qd.1 h;rw[Zq h1,h2]
variable{s:Nat}
theorem Qhm{a:U6}{n d:Int}(ta:Gk a)(ha:Bd s a)(hs:s<=1000)(hl:a.length<=8)(hn:Gl n<=130)(hd:Gl d<=130)(h0:d≠0):U3 118 [pr a,.agg (Rj n),.agg (Rj d)] [pr (Sk n d a).1,.oi 0]:=by
 have nn:=Bl (Fy n) Fj;have nd:=Bl (Fy d) Fj;have cn:=Ti (p:=a) ta Fj (Fz ha Fj);have td:Gk [n,d]:=by simp[Gk,trim,h0]
 refine G5 func118 rfl ?_;refine Uw [.k nd,.k (Ed (z:=d)),.f (by simpa using h0),.k cn,.z 8,.k nn,.k nd,.k (EZ (z:=1) Fl),.r 25 (eI (b:=(a.length:Int)-1) Fp)] rfl ?_;refine lp (S:=Nat) 3 (λL1 j=>(11,.v (.oi ((j:Int)-1)))::(8,.v (pr (Sk n d (a.drop j)).1))::L1) (λj=>[.blk 35 (Rj n),.blk 35 (Rj d),.blk 35 (Rj (Sk n d (a.drop j)).2)]) (λj=>j) (λj=>j<=a.length) a.length (Qm _) rfl (λ_ _=>rfl) (by rw[Vh];rfl) λj hj=>?_
 cases j with
 |zero=>exact Ux [.f Fp] rfl
 |
  succ j =>
  obtain⟨x,hx⟩:=gxE (l:=a) (i:=j) Fj;obtain⟨b1,b2,b3⟩:=RU hn hd (l:=a.drop (j+1)) (λz hz=>ha z (Qx hz)) (by rw[Q9];omega);have hdl:(a.drop (j+1)).length<=8:=by rw[Q9];omega
  have e:Sk n d (a.drop j)=(Eh (Hg (Sk n d (a.drop (j+1))).1 [n,d]) [x*(Sk n d (a.drop (j+1))).2],(Sk n d (a.drop (j+1))).2*d):=by rw[Qeu hx];rfl
  have e1:(Sk n d (a.drop j)).1=Eh (Hg (Sk n d (a.drop (j+1))).1 [n,d]) [x*(Sk n d (a.drop (j+1))).2]:=by rw[e]
  have e2:(Sk n d (a.drop j)).2=(Sk n d (a.drop (j+1))).2*d:=by rw[e]
  have tm:=eW n d (a.drop (j+1));obtain⟨P,hP⟩:=nmE ((Sk n d (a.drop (j+1))).1);obtain⟨W,hW⟩:=nmE ((Sk n d (a.drop (j+1))).2);rw[<-hP,<-hW]at e1;rw[<-hW]at e2;rw[<-hP]at b1 b2 tm;rw[<-hW]at b3;have hxs:=ha x (Qa hx);have c1:=US tm td Fj (by show 2<137438953472;decide) b1 (cY hn hd) Fj;have c2:=Nj (Fy x) (Fy W) Fj Fj;have bm:=Mv (u:=4) b1 (cY hn hd) Fj;have hm:=Hb x W;have hlm:=Pm P [n,d];simp only[Q5,Xy]at hlm;have c3:=EJ (p:=Hg P [n,d]) (q:=[x*W]) Fj (by show 1<274877906944;decide) (Fz bm Fj) (λz hz=>by rw[Ql.1 hz];omega);rw[<-e1]at c3;have c4:=Nj (Fy W) (Fy d) Fj Fj;rw[<-e2]at c4;rw[show((j+1:Nat):Int)-1=(j:Int) by omega,<-hP,<-hW];refine Uw [.t Fp,.k c1,.x (M3 hx),.k c2,.k c3,.k c4] rfl ?_;exact rd j Fj Fj rfl
def mD(px py:U6)(q:Rat):Crv:=⟨Gy (Sk (-q).num ((-q).den:Int) (trim px)).1 (((-q).den:Int)^(max ((trim px).length-1) ((trim py).length-1)-((trim px).length-1))),Gy (Sk (-q).num ((-q).den:Int) (trim py)).1 (((-q).den:Int)^(max ((trim px).length-1) ((trim py).length-1)-((trim py).length-1))),((-q).den:Int)^(max ((trim px).length-1) ((trim py).length-1))⟩
theorem Qhz{lx ly:Fc}{px py:U6}{q:Rat}(hx:IsInts lx px)(hy:IsInts ly py)(hq:Qs 128 q)(bx:Bd s px)(by_:Bd s py)(hs:s<=1000)(llx:px.length<=8)(lly:py.length<=8):
 Cs 4294967294 1073741824 (mD px py q)/\U3 59 [.one (.row lx),.one (.row ly),.agg (rl q)] [.agg (cl (Crv.norm (mD px py q)))]:=by
 have cx:=D5 hx Fj (Fz bx Fj);have cy:=D5 hy Fj (Fz by_ Fj);have cg:=Qi4 (q:=q) (hq.mono Fl);have hnq:Qs 128 (-q):=by
  refine⟨?_,?_⟩
  ·rw[Rat.neg_num,Te];exact hq.1
  ·rw[Rat.neg_den];exact hq.2
 have hX:Bd s (trim px):=Mg bx;have hY:Bd s (trim py):=Mg by_;have lX:(trim px).length<=8:=Qc (Sw px) llx;have lY:(trim py).length<=8:=Qc (Sw py) lly;have h0:((-q).den:Int)≠0:=by have:=(-q).den_pos;omega
 have hn1:Gl (-q).num<=130:=Qc hnq.1 Fl;have hd1:Gl ((-q).den:Int)<=130:=Qc hnq.2 Fl;have m1:=Qhm (Sj px) hX hs Fj hn1 hd1 h0;have m2:=Qhm (Sj py) hY hs Fj hn1 hd1 h0;obtain⟨p1,p2,_⟩:=RU hn1 hd1 hX Fj;obtain⟨q1,q2,_⟩:=RU hn1 hd1 hY Fj;unfold mD;obtain⟨D,hD⟩:=nmE (((-q).den:Int));obtain⟨N,hN⟩:=nmE ((-q).num);have hgl:rl (-q)=[sg N,mg N,sg D,mg D]:=by rw[hN,hD]
 rw[hgl]at cg;rw[<-hD,<-hN]at m1 m2 p1 p2 q1 q2 ⊢;rw[<-hD]at hd1;obtain⟨X,hXe⟩:=nmE (trim px);obtain⟨Y,hYe⟩:=nmE (trim py);rw[<-hXe]at cx hX lX m1 p1 p2 ⊢;rw[<-hYe]at cy hY lY m2 q1 q2 ⊢;obtain⟨a,ha⟩:=nmE (X.length-1);obtain⟨b,hb⟩:=nmE (Y.length-1);rw[<-ha,<-hb];obtain⟨k,hk⟩:=nmE (max a b);rw[<-hk];have w1:=Qhv (a:=D) (n:=k-a) Fj Fj;have w2:=Qhv (a:=D) (n:=k-b) Fj Fj;have w3:=Qhv (a:=D) (n:=k) Fj Fj;have z1:=YB D (k-a);have z2:=YB D (k-b);have z3:=YB D k;have y1:Gl D*(k-a)<=130*8:=Zg hd1 Fj;have y2:Gl D*(k-b)<=130*8:=Zg hd1 Fj;have y3:Gl D*k<=130*8:=Zg hd1 Fj;have s1:=M6 (p:=(Sk N D X).1) (c:=D^(k-a)) Fj (Fz p1 Fj) Fj;have s2:=M6 (p:=(Sk N D Y).1) (c:=D^(k-b)) Fj (Fz q1 Fj) Fj;have e1:=Hi p1 (c:=D^(k-a)) (Qm _);have e2:=Hi q1 (c:=D^(k-b)) (Qm _);have f1:=G8 (Sk N D X).1 (D^(k-a));have f2:=G8 (Sk N D Y).1 (D^(k-b));have hcs:Cs 4294967294 1073741824 ⟨Gy (Sk N D X).1 (D^(k-a)),Gy (Sk N D Y).1 (D^(k-b)),D^k⟩:=⟨Fz e1 Fj,Fz e2 Fj,by show Gl (D^k)<=_;omega,by show(Gy _ _).length<=_;omega,by show(Gy _ _).length<=_;omega⟩;refine⟨hcs,?_⟩;have cn:=vO (Rk _) (Rk _) (Fy _) hcs;have ek:((max a b:Nat):Int)=(k:Int):=by rw[hk]
 exact Uy func59 rfl [.k cx,.k cy,.k cg,.k m1,.k m2,.k (Np X),.r 40 (eI (b:=(a:Int)) Fj),.k (Np Y),.r 43 (eI (b:=(b:Int)) Fj),.r 46 (eI (b:=(k:Int)) Fj),.r 52 (eI (b:=((k-a:Nat):Int)) Fj),.k w1,.k s1,.r 60 (eI (b:=((k-b:Nat):Int)) Fj),.k w2,.k s2,.k w3,.k cn] rfl rfl Fu
theorem Qx0{E:Es}{b:Int}(h:EOk b E){lx ly:Fc}{px py:U6}{id:Int}(hx:IsInts lx px)(hy:IsInts ly py)(bx:Bd s px)(by_:Bd s py)(hs:s<=1000)(llx:px.length<=8)(lly:py.length<=8):
 ∃E',EOk b E'/\E'.m=(E.m.rep ⟨Crv.norm (mD px py E.q),id⟩).1/\EnD 21 [.one (.ow 0 0),.oi id,.one (.row lx),.one (.row ly)] E [.one (.int .i64 (E.m.rep ⟨Crv.norm (mD px py E.q),id⟩).2)] E':=by
 obtain⟨hc,cr⟩:=Qhz hx hy h.q bx by_ hs llx lly;have hcn:=hc.norm Fj;have hnm:=Crv.nml (mD px py E.q);obtain⟨C,hC⟩:=nmE (Crv.norm (mD px py E.q));rw[<-hC]at cr hcn hnm ⊢;obtain⟨E',h1,h2,h3⟩:=tN h (id:=id) (Rk C.x) (Rk C.y) (Fy C.d) hcn;have eC:Crv.norm (Crv.mk C.x C.y C.d)=C:=Crv.norm_of hnm;rw[eC]at h2 h3;refine⟨E',h1,h2,?_⟩;refine G5 func21 rfl ?_;exact Uz [] [0,1,2,3,4,5,6] [.k cr,.c Fg h3] rfl
end Orr
namespace Orr
open Go
structure RawOp where
 k:Int
 n:Int
 d:Int
 p:RawPt
 t:RawInt
 u:RawInt
structure RawOp.Ok(o:RawOp):Prop where
 k:-9223372036854775808<=o.k/\o.k<=9223372036854775807
 n:-9223372036854775808<=o.n/\o.n<=9223372036854775807
 d:-9223372036854775808<=o.d/\o.d<=9223372036854775807
 p:o.p.Ok
 t:o.t.Ok
 u:o.u.Ok
abbrev rwo(o:RawOp):Fb:=[.int .i64 o.k,.int .i64 o.n,.int .i64 o.d]++rwq o.p++Aq o.t++Aq o.u
def jD(l:List RawOp):Fc:=l.map rwo
theorem Qfr(l:List RawOp):(jD l).length=l.length:=by simp[jD]
theorem Qfq{l:List RawOp}{i:Nat}{o:RawOp}(h:l[i]? = some o):(jD l)[i]? = some (rwo o):=by rw[jD,Zb,h];rfl
end Orr
namespace Orr
open Go Go.Proofs Tryz Orq
set_option maxRecDepth 10000
def ZY(N:Int):Int:=if N=2 then 999 else if N=3 then 99 else 20
theorem pU(N:Int):0<=ZY N/\ZY N<=999:=by unfold ZY;split;decide;split;decide;decide
def HQ(N:Int)(z:RawPt):Crv:=if 1<N then ⟨Ht (ZY N) z.x++(if 3<z.x.length then [1]else []),Ht (ZY N) z.y,Tq 3 z.d⟩else ⟨((z.x.take 4).map (·.cutN 1)).map vI,((z.y.take 4).map (·.cutN 1)).map vI,vI (z.d.cutN 1)⟩
variable{l:List RawInt}
theorem Qm5(h:∀a∈l,a.Ok):∀z∈(l.take 4).map (·.cutN 1),z.Ok:=λz hz=>by
 obtain⟨y,hy,rfl⟩:=Q8.1 hz;exact(h y (Qn hy)).cutN_ok 1
theorem Qm4(h:∀a∈l,a.Ok):Bd 40 (((l.take 4).map (·.cutN 1)).map vI):=λz hz=>by
 obtain⟨y,hy,rfl⟩:=Q8.1 hz;obtain⟨x,hx,rfl⟩:=Q8.1 hy;exact Qc (DZ ((h x (Qn hx)).cutN_ok 1) (YY x 1)) Fl
variable{N:Int}{z:RawPt}
theorem Qrm(hz:z.Ok):Cs 40 4 (HQ N z):=by
 unfold HQ
 split
 ·have h:=Qeo (pU N) z.x z.y z.d;refine⟨λy hy=>?_,Fz h.y Fl,Qc h.d Fl,?_,Qc h.ly Fl⟩
  ·rcases Qp.1 hy with hy|hy
   ·exact Qc (h.x y hy) Fl
   ·split at hy
    ·rw[Ql.1 hy];decide
    ·cases hy
  ·have:=h.lx;have h2:(Ht (ZY N) z.x).length<=3:=this;show(_++_:U6).length<=4;rw[Qu]
   split <;> simp <;> omega
 ·exact⟨Qm4 hz.x,Qm4 hz.y,Qc (DZ (hz.d.cutN_ok 1) (YY z.d 1)) Fl,by show(List.map _ _).length<=4;rw[Ze,Ze,Qq];omega,by show(List.map _ _).length<=4;rw[Ze,Ze,Qq];omega⟩
def bG(o:RawOp):Int:=if Pj o.k 12<10 then Pj o.p.id 6 else o.p.id
abbrev Qxs(o:RawOp)(lx ly:Fc)(bb:Bool)(l3:Fc):Fb:=[.int .i64 o.k,.int .i64 o.n,.int .i64 o.d,.row lx,.row ly,.bool bb,.row l3,.int .i64 (bG o)]++Aq (o.t.cutN 6)++Aq (o.u.cutN 6)
abbrev Qce(ms:Fb)(N:Int):Fb:=[.ow 0 0,.sh ms,.int .i64 N]
theorem wP{most:Int}(h:3<l.length):(Ht most l).length=3:=by unfold Ht;rw[List.length_map,List.length_take];omega
abbrev Qvt:Fb:=[.bool false,.row [[.int .u32 1]]]
theorem lN{p:U6}:IsInts (p.map Rj++[Qvt]) (p++[1]):=(Rk p).append ⟨⟨_,_,rfl,false,[1],rfl,rfl,(λx hx=>by rw[Ql.1 hx];decide),rfl⟩,trivial⟩
theorem Qd0(hz:z.Ok){most:Int}(hm:0<=most/\most<=999):Ga prog 46 [.agg (rcw z),.oi most] [] [.agg [.orow 0 2 none,.row (I8 (Ht most z.y)),sg (Tq 3 z.d),mg (Tq 3 z.d)]] [.row false 35 2 (I8 (Ht most z.x))]:=by
 have hxl:=ZD z.x;have hyl:=ZD z.y;obtain⟨D,hD⟩:=nmE (Tq 3 z.d);have cd:=GB hz.d (most:=3) Fl;have hx0:∀{i:Nat},z.x.length<=i\/3<=i->Ht most (z.x.take i)=Ht most z.x:=ND most;have hy0:∀{i:Nat},z.y.length<=i\/3<=i->Ht most (z.y.take i)=Ht most z.y:=ND most;rw[<-hD]at cd ⊢;refine G5 func46 rfl ?_;refine Uv [.k cd] rfl ?_;refine oz2 5 0 35 2 rfl rfl ?_;refine U0 (S:=Nat) 4 (λL1 i=>(6,.v (.oi i))::L1) (λi=>[.blk 37 (rcw z),.blk 37 [.nils,.nils,.bool false,.nils],.blk 37 [.orow 3 2 none,.nils,sg D,mg D],.row false 35 2 (I8 (Ht most (z.x.take i)))]) (λi=>3-i) (λi=>i<=3/\i<=z.x.length) 0 ⟨Fl,Qg _⟩ rfl rfl λi ⟨hi,hi2⟩=>?_
 have hll:=wS (most:=most) hi hi2;by_cases hr:i<z.x.length/\i<3
 ·obtain⟨a,ha⟩:=gxE (l:=z.x) (i:=i) hr.1;have hs:∀y∈[Rj (Tq most a)],y.length=2:=λy hy=>by rw[Ql.1 hy];rfl
  refine go tt [.g 17 true U5,.T,.x (Rm (f:=Aq) ha),.k (GB (hz.x a (Qa ha)) hm),.s (sz:=2) hs] rfl (by simp[Gd,hll];omega) ?_;exact rd (i+1) Fj ⟨hr.2,hr.1⟩ (by rw[MX hr.2 ha];rfl)
 have hg1:decide ((i:Int)<((O9 z.x).length:Int))=true->i<z.x.length:=λh=>by have:=of_decide_eq_true h;omega
 rw[hx0 Fj];clear hll;have hfin:∀{j:Nat},j<=3/\j<=z.y.length->¬(j<z.y.length/\j<3)->I8 (Ht most (z.y.take j))=I8 (Ht most z.y):=λh1 h2=>by rw[hy0 Fj]
 by_cases hxx:i<z.x.length
 ·refine Uv [.g 17 true U5,.F] rfl ?_;refine oz2 5 1 35 2 rfl rfl ?_;refine U0 (S:=Nat) 5 (λL1 j=>(7,.v (.oi j))::L1) (λj=>[.blk 37 (rcw z),.blk 37 [.nils,.nils,.bool false,.nils],.blk 37 [.orow 3 2 none,.orow 4 2 none,sg D,mg D],.row false 35 2 (I8 (Ht most z.x)),.row false 35 2 (I8 (Ht most (z.y.take j)))]) (λj=>3-j) (λj=>j<=3/\j<=z.y.length) 0 ⟨Fl,Qg _⟩ rfl rfl λj ⟨hj,hj2⟩=>?_
  have hll:=wS (most:=most) hj hj2;by_cases hr:j<z.y.length/\j<3
  ·obtain⟨a,ha⟩:=gxE (l:=z.y) (i:=j) hr.1;have hs:∀y∈[Rj (Tq most a)],y.length=2:=λy hy=>by rw[Ql.1 hy];rfl
   refine go tt [.g 40 true U5,.T,.x (Rm (f:=Aq) ha),.k (GB (hz.y a (Qa ha)) hm),.s (sz:=2) hs] rfl (by simp[Gd,hll];omega) ?_;exact rd (j+1) Fj ⟨hr.2,hr.1⟩ (by rw[MX hr.2 ha];rfl)
  rw[hfin ⟨hj,hj2⟩ hr];by_cases hyy:j<z.y.length
  ·exact Uz [4] [3] [.g 40 true U5,.F] rfl
  ·exact Uz [4] [3] [.g 40 false U4,.f rfl] rfl
 ·refine Uv [.g 17 false U4,.f rfl] rfl ?_;refine oz2 5 1 35 2 rfl rfl ?_;refine U0 (S:=Nat) 5 (λL1 j=>(7,.v (.oi j))::L1) (λj=>[.blk 37 (rcw z),.blk 37 [.nils,.nils,.bool false,.nils],.blk 37 [.orow 3 2 none,.orow 4 2 none,sg D,mg D],.row false 35 2 (I8 (Ht most z.x)),.row false 35 2 (I8 (Ht most (z.y.take j)))]) (λj=>3-j) (λj=>j<=3/\j<=z.y.length) 0 ⟨Fl,Qg _⟩ rfl rfl λj ⟨hj,hj2⟩=>?_
  have hll:=wS (most:=most) hj hj2;by_cases hr:j<z.y.length/\j<3
  ·obtain⟨a,ha⟩:=gxE (l:=z.y) (i:=j) hr.1;have hs:∀y∈[Rj (Tq most a)],y.length=2:=λy hy=>by rw[Ql.1 hy];rfl
   refine go tt [.g 40 true U5,.T,.x (Rm (f:=Aq) ha),.k (GB (hz.y a (Qa ha)) hm),.s (sz:=2) hs] rfl (by simp[Gd,hll];omega) ?_;exact rd (j+1) Fj ⟨hr.2,hr.1⟩ (by rw[MX hr.2 ha];rfl)
  rw[hfin ⟨hj,hj2⟩ hr];by_cases hyy:j<z.y.length
  ·exact Uz [4] [3] [.g 40 true U5,.F] rfl
  ·exact Uz [4] [3] [.g 40 false U4,.f rfl] rfl
variable{E:Es}{o:RawOp}{ms:Fb}
set_option maxHeartbeats 4000000 in
theorem Qw1(hN:1<=N/\N<=4)(ho:o.Ok):∃lx ly bb l3,IsInts lx (HQ N o.p).x/\IsInts ly (HQ N o.p).y/\Hh (.bool bb) (.row l3) (HQ N o.p).d /\
 Ga prog 11 [.agg (Qce ms N),.agg (rwo o)] (enB 0 E) [.agg (Qxs o lx ly bb l3)] (enB 0 E):=by
 have c4:=Qwn (z:=o.p);have wk:=D6 (v:=o.k) (n:=12) ho.k Fl;have wi:=D6 (v:=o.p.id) (n:=6) ho.p.id Fl;have cr:=Qqy (t:=o.t) (u:=o.u);have cl:=Qd0 ho.p (most:=ZY N) (pU N);obtain⟨i,hi⟩:=nmE (bG o);have hln:(O9 o.p.x).length=o.p.x.length:=ZD _;unfold Qxs;rw[<-hi];by_cases h1:1<N
 ·have e1:HQ N o.p=⟨Ht (ZY N) o.p.x++(if 3<o.p.x.length then [1]else []),Ht (ZY N) o.p.y,Tq 3 o.p.d⟩:=if_pos h1;rw[e1];dsimp only;obtain⟨X,hX⟩:=nmE (Ht (ZY N) o.p.x);obtain⟨Y,hY⟩:=nmE (Ht (ZY N) o.p.y);obtain⟨D,hD⟩:=nmE (Tq 3 o.p.d);have hX3:=wP (most:=ZY N) (l:=o.p.x);rw[<-hX]at hX3;rw[<-hX,<-hY,<-hD]at cl ⊢;have e3:∃k:Nat,(k:Int)=min N 4/\[[LV.int .i64 0],[.int .i64 0],[.int .i64 999],[.int .i64 99],[.int .i64 20]][k]? = some [.int .i64 (ZY N)]:=by
   rcases(show N=2\/N=3\/N=4 by omega)with rfl|rfl|rfl
   ·exact⟨2,rfl,rfl⟩
   ·exact⟨3,rfl,rfl⟩
   ·exact⟨4,rfl,rfl⟩
  obtain⟨k,k1,k2⟩:=e3;by_cases h3:3<o.p.x.length
  ·rw[if_pos h3];have hX3:=hX3 h3;have hml:(X.map Rj).length=3:=by rw[Ze];exact hX3
   refine⟨_,_,_,_,lN,Rk Y,Fy D,?_⟩;refine G5 func11 rfl ?_;refine go tt [.k c4,.t (by simpa using h1),.r 19 (eI k1.symm),.x k2,.c [11] cl,.t Fo] rfl (by simp only[Gd,jT];omega) ?_;refine U0 (S:=Unit) 12 (λL1 _=>L1) (λ_=>enB 0 E++[.blk 26 (Qce ms N),.blk 43 (rwo o),.blk 43 [.int .i64 0,.int .i64 0,.int .i64 0,.nils,.nils,.bool false,.nils,.int .i64 0,.bool false,.nils,.bool false,.nils],.blk 37 [.orow 11 2 none,pl Y,sg D,mg D],.row false 35 2 (X.map Rj++[Qvt])]) (λ_=>0) (λ_=>True) () trivial rfl rfl λ_ _=>?_
   by_cases hk:Pj o.k 12<10
   ·rw[hi,show bG o=Pj o.p.id 6 from if_pos hk];exact Uz [11] [0,1,2,3,4,5,6] [.f Fo,.k wk,.t (by simpa using hk),.k wi,.k cr] rfl
   ·rw[hi,show bG o=o.p.id from if_neg hk];exact Uz [11] [0,1,2,3,4,5,6] [.f Fo,.k wk,.f (by simpa using hk),.k cr] rfl
  ·rw[if_neg h3,Zw];refine⟨_,_,_,_,Rk X,Rk Y,Fy D,?_⟩;refine G5 func11 rfl ?_;by_cases hk:Pj o.k 12<10
   ·rw[hi,show bG o=Pj o.p.id 6 from if_pos hk];exact Uz [11] [0,1,2,3,4,5,6] [.k c4,.t (by simpa using h1),.r 19 (eI k1.symm),.x k2,.c [11] cl,.f Fo,.k wk,.t (by simpa using hk),.k wi,.k cr] rfl
   ·rw[hi,show bG o=o.p.id from if_neg hk];exact Uz [11] [0,1,2,3,4,5,6] [.k c4,.t (by simpa using h1),.r 19 (eI k1.symm),.x k2,.c [11] cl,.f Fo,.k wk,.f (by simpa using hk),.k cr] rfl
 ·have e1:HQ N o.p=⟨((o.p.x.take 4).map (·.cutN 1)).map vI,((o.p.y.take 4).map (·.cutN 1)).map vI,vI (o.p.d.cutN 1)⟩:=if_neg h1;rw[e1];refine⟨_,_,_,_,FZ (Qm5 ho.p.x),FZ (Qm5 ho.p.y),KE (ho.p.d.cutN_ok 1),?_⟩;refine G5 func11 rfl ?_;by_cases hk:Pj o.k 12<10
  ·rw[hi,show bG o=Pj o.p.id 6 from if_pos hk];exact Uz [] [0,1,2,3,4,5,6] [.k c4,.f (by simpa using h1),.k wk,.t (by simpa using hk),.k wi,.k cr] rfl
  ·rw[hi,show bG o=o.p.id from if_neg hk];exact Uz [] [0,1,2,3,4,5,6] [.k c4,.f (by simpa using h1),.k wk,.f (by simpa using hk),.k cr] rfl
def QW(o:RawOp)(q:Rat):Rat:=q+Hm (Pj o.n 5-1) (1+Pj o.d 4)
theorem JG{v n:Int}(h:0<n):0<=Pj v n/\Pj v n<n:=by
 unfold Pj;rw[if_neg Fj];exact⟨Yx _ Fj,Yd _ h⟩
theorem mS{a b:Int}(ha:-10<=a/\a<=10)(hb:-10<=b/\b<=10):Qs 4 (Hm a b):=by
 have sz4:∀z:Int,-10<=z/\z<=10->Gl z<=4:=λz hz=>by
  have h16:(2:Nat)^4=16:=Fl;exact Mm.2 Fj
 unfold Hm
 split
 ·exact⟨Ml (sz4 a ha),Mk Fl Fl⟩
 ·exact⟨Ml (sz4 a ha),Mk (sz4 b hb) Fl⟩
theorem mT{q:Rat}(h:Qs 128 q):Qs 257 (QW o q):=by
 have h1:=JG (v:=o.n) (n:=5) Fl;have h2:=JG (v:=o.d) (n:=4) Fl;have:=Qze h ((mS (a:=Pj o.n 5-1) (b:=1+Pj o.d 4) Fj Fj).mono Fl);exact this
abbrev enP(E:Es)(ms:Fb)(N:Int)(o:RawOp)(lx ly:Fc)(bb:Bool)(l3:Fc):Fe:=[.blk 87 (lJ 0 E.q),tB E.np E.nd E.M,bS E.s E.M E.q,bT E.t E.M E.q,bH E.h E.M E.q,bP E.p E.M E.q,bD E.d E.M E.q,.blk 26 (Qce ms N),.blk 43 (Qxs o lx ly bb l3)]
set_option maxHeartbeats 4000000 in
theorem Qqz{lx ly:Fc}{bb:Bool}{l3:Fc}(ho:o.Ok)(hq:Qs 128 E.q):Ga prog 12 [.one (.ow 7 0),.one (.ow 8 0)] (enP E ms N o lx ly bb l3) [.agg (rl (QW o E.q))] (enP E ms N o lx ly bb l3):=by
 have wn:=D6 (v:=o.n) (n:=5) ho.n Fl;have wd:=D6 (v:=o.d) (n:=4) ho.d Fl;have b1:=JG (v:=o.n) (n:=5) Fl;have b2:=JG (v:=o.d) (n:=4) Fl;have co:=Qu2 (n:=Pj o.n 5-1) (d:=1+Pj o.d 4) Fj Fj;have cf:=Qhe (q:=E.q) (hq.mono Fl);have ca:=cA (a:=E.q) (b:=Hm (Pj o.n 5-1) (1+Pj o.d 4)) (hq.mono Fl) ((mS Fj Fj).mono Fl);have ct:=rS (q:=QW o E.q) ((mT hq).mono Fl);have cc:=vC (np:=E.np) (nd:=E.nd) (M:=E.M) (s:=E.s) (t:=E.t) (h:=E.h) (p:=E.p) (d:=E.d) hq;refine G5 func12 rfl ?_;exact Uz [] [0,1,2,3,4,5,6,7,8] [.lo,.c Fg cc,.k cf,.k wn,.k wd,.k co,.k ca,.k ct] rfl Fu
def BR(o:RawOp):Rat:=Hm (vI (o.t.cutN 6)) (vI (o.u.cutN 6))
open Classical in
noncomputable def nearT(o:RawOp):Rat:=if Qs 128 (BR o)then BQ (BR o)else BR o
noncomputable def aloneF(N:Int)(o:RawOp)(A:Em):Em×Int :=
 if Pj o.k 12<3 then A.ins ⟨Crv.norm (HQ N o.p),bG o⟩
 else if Pj o.k 12=3 then A.del (bG o)
 else if Pj o.k 12=4 then A.rep ⟨Crv.norm (HQ N o.p),bG o⟩
 else if Pj o.k 12=5 then A.rep ⟨Crv.norm (mD (HQ N o.p).x (HQ N o.p).y A.q),bG o⟩
 else if Pj o.k 12<9 then A.adv (QW o A.q)
 else if Pj o.k 12=9 then(A,(A.adv (QW o A.q)).2)
 else if Pj o.k 12=10 then A.adv (nearT o)
 else(A,(A.adv (nearT o)).2)
theorem Qq1(ho:o.Ok):∃x0 x1 x2 x3 n m,Hh x0 x1 n/\Hh x2 x3 m/\Gl n<=4294967295/\Gl m<=4294967295/\Hm n m=nearT o/\U3 24 [.agg (Aq (o.t.cutN 6)++Aq (o.u.cutN 6))] [.agg [x0,x1,x2,x3]]:=by
 have i1:=KE (ho.t.cutN_ok 6);have i2:=KE (ho.u.cutN_ok 6);have s1:=DZ (ho.t.cutN_ok 6) (YY o.t 6);have s2:=DZ (ho.u.cutN_ok 6) (YY o.u 6);have ln:∀(z:RawInt) l,LV.row (lm (z.cutN 6).l)=.row (lm l)->l.length<=1000:=λz l h=>by
  have:=Qln h;have:=YY z 6;omega
 by_cases hq:Qs 128 (BR o)
 ·have e:nearT o=BQ (BR o):=if_pos hq;have hn:=Qcu hq;rw[e];exact⟨_,_,_,_,_,_,Fy (BQ (BR o)).num,Fy ((BQ (BR o)).den:Int),Qc hn.1 Fl,Qc hn.2 Fl,Po _,Qq3 i1 i2 (ln o.t) (ln o.u) Fj Fj hq⟩
 ·have e:nearT o=BR o:=if_neg hq;rw[e];exact⟨_,_,_,_,_,_,i1,i2,Fj,Fj,rfl,Qq2 i1 i2 (ln o.t) (ln o.u) Fj Fj hq⟩
set_option maxHeartbeats 8000000 in
theorem Qrx{b:Int}(h:EOk b E)(hb:b<=900000000000000000)(hN:1<=N/\N<=4)(ho:o.Ok):
 ∃E',EOk (b+67000000) E'/\E'.m=(aloneF N o E.m).1/\EnD 5 [.agg (Qce ms N),.agg (rwo o)] E [.one (.int .i64 (aloneF N o E.m).2)] E':=by
 obtain⟨lx,ly,bb,l3,i1,i2,i3,cp⟩:=Qw1 (E:=E) (ms:=ms) hN ho;have wk:=D6 (v:=o.k) (n:=12) ho.k Fl;have hW:=JG (v:=o.k) (n:=12) Fl;have hcs:=Qrm (N:=N) ho.p;have hk:Cs 4294967294 1073741824 (Crv.mk (HQ N o.p).x (HQ N o.p).y (HQ N o.p).d):=hcs.mono Fl Fl;have cla:=Qqz (E:=E) (N:=N) (ms:=ms) (lx:=lx) (ly:=ly) (bb:=bb) (l3:=l3) ho h.q;have hla:=mT (o:=o) h.q;obtain⟨x0,x1,x2,x3,n,m,n1,n2,n3,n4,n5,cnr⟩:=Qq1 ho;have eq_:E.m.q=E.q:=rfl;unfold aloneF;rw[eq_];obtain⟨W,hWe⟩:=nmE (Pj o.k 12);rw[<-hWe]at wk hW ⊢;by_cases w0:W<3
 ·rw[if_pos w0];obtain⟨E',g1,g2,g3⟩:=Qj8 h (id:=bG o) i1 i2 i3 hk;refine⟨E',g1.mono Fj,g2,?_⟩;refine G5 func5 rfl ?_;exact Uz [] [0,1,2,3,4,5,6] [.c Fg cp,.k wk,.T,.c Fg g3] rfl
 rw[if_neg w0];by_cases w1:W=3
 ·rw[if_pos w1];obtain⟨E',g1,g2,g3⟩:=Qj7 h (id:=bG o);refine⟨E',g1.mono Fj,g2,?_⟩;refine G5 func5 rfl ?_;exact Uz [] [0,1,2,3,4,5,6] [.c Fg cp,.k wk,.F,.T,.c Fg g3] rfl
 rw[if_neg w1];by_cases w2:W=4
 ·rw[if_pos w2];obtain⟨E',g1,g2,g3⟩:=tN h (id:=bG o) i1 i2 i3 hk;refine⟨E',g1.mono Fj,g2,?_⟩;refine G5 func5 rfl ?_;exact Uz [] [0,1,2,3,4,5,6] [.c Fg cp,.k wk,.F,.F,.T,.c Fg g3] rfl
 rw[if_neg w2];by_cases w3:W=5
 ·rw[if_pos w3];obtain⟨E',g1,g2,g3⟩:=Qx0 h (id:=bG o) i1 i2 hcs.x hcs.y Fl (Qc hcs.lx Fl) (Qc hcs.ly Fl);refine⟨E',g1.mono Fj,g2,?_⟩;refine G5 func5 rfl ?_;exact Uz [] [0,1,2,3,4,5,6] [.c Fg cp,.k wk,.F,.F,.F,.T,.c Fg g3] rfl
 rw[if_neg w3];by_cases w4:W<9
 ·rw[if_pos w4];obtain⟨E',g1,g2,_,g3⟩:=PG h hb (Fy (QW o E.q).num) (Fy ((QW o E.q).den:Int)) (Qc hla.1 Fl) (Qc hla.2 Fl) (Po _);refine⟨E',g1,g2,?_⟩;refine G5 func5 rfl ?_;exact Uz [] [0,1,2,3,4,5,6] [.c Fg cp,.k wk,.F,.F,.F,.F,.T,.lo,.c [0,1,2,3,4,5,6,7,8] cla,.c Fg g3] rfl
 rw[if_neg w4];by_cases w5:W=9
 ·rw[if_pos w5];have g3:=Qa6 h hb (Fy (QW o E.q).num) (Fy ((QW o E.q).den:Int)) (Qc hla.1 Fl) (Qc hla.2 Fl) (Po _);refine⟨E,h.mono Fj,rfl,?_⟩;obtain⟨a,ha,hal⟩:∃a,a=E.m.ans (QW o E.q)/\∃a0 a1 a2 a3 a4,a=[LV.row a0,.row a1,.row a2,.row a3,.row a4]:=⟨_,rfl,by unfold Em.ans;split <;> exact⟨_,_,_,_,_,rfl⟩⟩;rw[<-ha]at g3;obtain⟨a0,a1,a2,a3,a4,rfl⟩:=hal;refine G5 func5 rfl ?_;exact Uz [] [0,1,2,3,4,5,6] [.c Fg cp,.k wk,.F,.F,.F,.F,.F,.T,.lo,.c [0,1,2,3,4,5,6,7,8] cla,.c Fg g3] rfl
 rw[if_neg w5];by_cases w6:W=10
 ·rw[if_pos w6];obtain⟨E',g1,g2,_,g3⟩:=PG h hb n1 n2 n3 n4 n5;refine⟨E',g1,g2,?_⟩;obtain⟨b1,r1,rfl,rfl,_⟩:=n1;obtain⟨b2,r2,rfl,rfl,_⟩:=n2;refine G5 func5 rfl ?_;exact Uz [] [0,1,2,3,4,5,6] [.c Fg cp,.k wk,.F,.F,.F,.F,.F,.F,.T,.k cnr,.c Fg g3] rfl
 ·rw[if_neg w6];have g3:=Qa6 h hb n1 n2 n3 n4 n5;refine⟨E,h.mono Fj,rfl,?_⟩;obtain⟨b1,r1,rfl,rfl,_⟩:=n1;obtain⟨b2,r2,rfl,rfl,_⟩:=n2;obtain⟨a,ha,hal⟩:∃a,a=E.m.ans (nearT o)/\∃a0 a1 a2 a3 a4,a=[LV.row a0,.row a1,.row a2,.row a3,.row a4]:=⟨_,rfl,by unfold Em.ans;split <;> exact⟨_,_,_,_,_,rfl⟩⟩;rw[<-ha]at g3;obtain⟨a0,a1,a2,a3,a4,rfl⟩:=hal;refine G5 func5 rfl ?_;exact Uz [] [0,1,2,3,4,5,6] [.c Fg cp,.k wk,.F,.F,.F,.F,.F,.F,.F,.k cnr,.c Fg g3] rfl
end Orr
namespace Orr
open Go Go.Proofs Tryz Orq
set_option maxRecDepth 10000
abbrev cC:U7:=[[-(0:Rat).num,((0:Rat).den:Int)],[1]]
abbrev Q1k:Fb:=[.nils,.nils,.nils,.bool false,.nils,.bool false,.nils,.bool false,.nils,.bool false,.nils,.int .i64 0,.nils]
abbrev Q1l:Fb:=aq 0 cC++[.row [],.int .i64 0,.nils]
abbrev Qnk(k i:Nat):Fb:=match Nat.blt k i with
 |true=>Q1l
 |false=>Q1k
abbrev mdl(np nd:Int)(i:Nat):Fb:=[.int .i64 np,.int .i64 nd,.nils]++fr 0++Qnk 0 i++Qnk 1 i++Qnk 2 i++Qnk 3 i++Qnk 4 i
set_option maxHeartbeats 4000000 in
theorem Qhl{np nd:Int}:Ga prog 44 [.one (.ow 0 0)] [.blk 122 (mdl np nd 0)] [] [.blk 122 (mdl np nd 5)]:=by
 have hq:Qs 2000000 (0:Rat):=⟨Fl,Fl⟩;have cr:=NW hq Qm3;refine G5 func44 rfl ?_;refine Uv [.k cr] rfl ?_;refine U0 (S:=Nat) 2 (λL1 i=>(9,.v (.oi i))::L1) (λi=>[.blk 122 (mdl np nd i),.blk 100 (aq 0 cC)]) (λi=>5-i) (λi=>i<=5) 0 Fl rfl rfl λi hi=>?_
 rcases(show i=0\/i=1\/i=2\/i=3\/i=4\/i=5 by omega)with rfl|rfl|rfl|rfl|rfl|rfl
 ·exact go tt [.t rfl,.i 0,.i 0,.i 0,.k (HK 0 Fl),.k AN,.i 0] rfl Fw (rd 1 Fj Fj rfl)
 ·exact go tt [.t rfl,.i 1,.i 1,.i 1,.k (HK 1 Fl),.k AN,.i 1] rfl Fw (rd 2 Fj Fj rfl)
 ·exact go tt [.t rfl,.i 2,.i 2,.i 2,.k (HK 2 Fl),.k AN,.i 2] rfl Fw (rd 3 Fj Fj rfl)
 ·exact go tt [.t rfl,.i 3,.i 3,.i 3,.k (HK 3 Fl),.k AN,.i 3] rfl Fw (rd 4 Fj Fj rfl)
 ·exact go tt [.t rfl,.i 4,.i 4,.i 4,.k (HK 4 Fl),.k AN,.i 4] rfl Fw (rd 5 Fj Fj rfl)
 ·exact Uz [] [0] [.f rfl] rfl
theorem Qwv{np nd:Int}(h1:1<=np/\np<=6)(h2:0<=nd/\nd<=2):Ga prog 10 [.oi np,.oi nd] [] [.one (.ow 0 0),.oi 0] [.blk 122 (mdl np nd 5)]:=by
 have co:=SC (n:=0) Fl;rw[show((0:Int):Rat)=0 from rfl]at co;refine G5 func10 rfl ?_;exact Uz [] [0] [.F,.f Fo,.f Fo,.f Fo,.k co,.c [0] Qhl] rfl
theorem Qpx{a b:Int}(ha:-9223372036854775808<=a/\a<=9223372036854775807)(hb:-9223372036854775808<=b/\b<=9223372036854775807):∃(N nd:Int) (ms:Fb),(1<=N/\N<=4)/\(0<=nd/\nd<=2)/\EOk 0 (Ql4 N nd)/\N=1+Pj a 4/\nd=Pj b 3 /\
 Ga prog 4 [.oi a,.oi b] [] [.agg [.ow 0 0,.sh ms,.int .i64 N],.one (.bool true)] (enB 0 (Ql4 N nd)):=by
 have w1:=JG (v:=a) (n:=4) Fl;have w2:=JG (v:=b) (n:=3) Fl;have c1:=D6 (v:=a) (n:=4) ha Fl;have c2:=D6 (v:=b) (n:=3) hb Fl;obtain⟨N,hN⟩:=nmE (1+Pj a 4);obtain⟨nd,hnd⟩:=nmE (Pj b 3);have hN4:1<=N/\N<=4:=Fj;have hd2:0<=nd/\nd<=2:=Fj;have cn:=Qwz (np:=N) (nd:=nd) Fj hd2;have cm:=Qwv (np:=N) (nd:=nd) Fj hd2;refine⟨N,nd,mdl N nd 5,hN4,hd2,Qy4 Fj hd2,hN,hnd,?_⟩;refine G5 func4 rfl ?_;exact Uz [8] [1,2,3,4,5,6,7] [.k c1,.r 12 (eI hN.symm),.k c2,.r 14 (eI hnd.symm),.c [1,2,3,4,5,6,7] cn,.c [8] cm,.t rfl,.t rfl] rfl Fu
theorem Qgy{N:Int}{o:RawOp}{A:Em}:(aloneF N o A).1.np=A.np:=by
 have hi:∀p,(A.ins p).1.np=A.np:=λp=>by unfold Em.ins;dsimp only;split <;> rfl
 have hr:∀p,(A.rep p).1.np=A.np:=λp=>by unfold Em.rep;dsimp only;split <;> rfl
 have hd:∀id,(A.del id).1.np=A.np:=λid=>by unfold Em.del;split <;> rfl
 have ha:∀t,(A.adv t).1.np=A.np:=λt=>by
  unfold Em.adv
  split
  ·split <;> rfl
  ·rfl
 unfold aloneF;by_cases w0:Pj o.k 12<3
 ·rw[if_pos w0];exact hi _
 rw[if_neg w0];by_cases w1:Pj o.k 12=3
 ·rw[if_pos w1];exact hd _
 rw[if_neg w1];by_cases w2:Pj o.k 12=4
 ·rw[if_pos w2];exact hr _
 rw[if_neg w2];by_cases w3:Pj o.k 12=5
 ·rw[if_pos w3];exact hr _
 rw[if_neg w3];by_cases w4:Pj o.k 12<9
 ·rw[if_pos w4];exact ha _
 rw[if_neg w4];by_cases w5:Pj o.k 12=9
 ·rw[if_pos w5]
 rw[if_neg w5];by_cases w6:Pj o.k 12=10
 ·rw[if_pos w6];exact ha _
 ·rw[if_neg w6]
theorem Qxg:U3 82 [.one (.row [])] [.one (rp (zp []))]:=by
 have cc:=YZ (p:=[]);refine G5 func82 rfl ?_;refine Uv [] rfl ?_;refine U0 (S:=Unit) 0 (λL1 _=>(7,.v (.oi 0))::(3,.v (.one .nils))::L1) (λ_=>[]) (λ_=>0) (λ_=>True) () trivial rfl rfl λ_ _=>?_
 exact Ux [.f rfl,.k cc] rfl
theorem Qqd:U3 36 [.one (.row []),.oi 30] [.agg (aq 0 cC)]:=by
 have c1:=Qqj (n:=30) (d:=0) Fl Fl;rw[show Hm (Pj 30 61-30) (1+Pj 0 6)=(0:Rat) by decide +kernel]at c1;have c2:=NW (q:=0) (c:=cC) ⟨Fl,Fl⟩ Qm3;refine G5 func36 rfl ?_;refine Uv [] rfl ?_;refine U0 (S:=Unit) 1 (λL1 _=>(6,.v (.oi 0))::(5,.v (.one .nils))::L1) (λ_=>[.blk 100 [.nils,.nils,.nils,.bool false,.nils,.bool false,.nils,.bool false,.nils,.bool false]]) (λ_=>0) (λ_=>True) () trivial rfl rfl λ_ _=>?_
 exact Ux [.f rfl,.f rfl,.k Qxg,.t rfl,.k c1,.k c2] rfl
theorem Qq7:U3 35 [.agg (aq 0 cC)] [.agg (ta (tq 0))]:=by
 have c1:=Q1f (p:=[-(0:Rat).num,((0:Rat).den:Int)]) (λz hz=>by revert z;decide) Fl;have c2:=rS (q:=0) ⟨Fl,Fl⟩;exact Uy func35 rfl [.k c1,.k c2,.k c2] rfl
theorem xZ:U3 7 [] [.one (.bool true)]:=by
 have hv:Va (tq 0):=BI ⟨Fl,Fl⟩;have h0:∀p∈([]:List Pt),Sc p.c:=λp hp=>by cases hp
 have cL:U3 28 [.agg (ta (tq 0)),.one (.row []),.one (.row [])] [.one (.bool true)]:=oO (M:=[]) (R:=[]) List.Pairwise.nil h0 Fl hv (λx hx=>by cases hx) rfl λi x y hx=>by cases hx
 have cL2:U3 28 [.agg (ta (tq 0)),.one (ids [1]),.one (.row [])] [.one (.bool false)]:=Uy func28 rfl [.t rfl] rfl;have cH:U3 29 [.agg (ta (tq 0)),.one (.row []),.one (.row [])] [.one (.bool true)]:=oI (M:=[]) (is:=[]) List.Pairwise.nil h0 Fl hv ⟨rfl,[],rfl,(λx hx=>by cases hx),(λi f x _ hf=>by cases hf),(λi j k x y z _ _ hx=>by cases hx)⟩;have cM:U3 30 [.agg (ta (tq 0)),.one (.row []),.one (.row [])] [.one (.bool true)]:=Qaa (M:=[]) List.Pairwise.nil h0 Fl hv;have cW:U3 33 [.agg (ta (tq 0)),.oi 0,.one (.row [])] [.one (.bool false)]:=Uy func33 rfl [.k Qii,.t rfl] rfl;exact Uy func7 rfl [.k Qqd,.k Qq7,.k cL,.g 6 true rfl,.k cL2,.g 12 true rfl,.k cH,.g 16 true rfl,.k cM,.g 20 true rfl,.k cW] rfl
abbrev enL(E:Es)(ms:Fb)(N:Int):Fe:=[.blk 87 (lJ 0 E.q),tB E.np E.nd E.M,bS E.s E.M E.q,bT E.t E.M E.q,bH E.h E.M E.q,bP E.p E.M E.q,bD E.d E.M E.q,.blk 26 [.ow 0 0,.sh ms,.int .i64 N]]
set_option maxHeartbeats 8000000 in
theorem BM{a b:Int}{l:List RawOp}(ha:-9223372036854775808≤a/\a≤9223372036854775807)(hb:-9223372036854775808≤b/\b≤9223372036854775807)(hl:∀x∈l,x.Ok):U3 3 [.oi a,.oi b,.one (.row (jD l))] [.one (.bool true)]:=by
 obtain⟨N,nd,ms,hN,hnd,h0,_,_,cb⟩:=Qpx ha hb;have hll:=Qfr l;refine G5 func3 rfl (ln 2 rfl rfl λhcl=>?_);rw[hll]at hcl;refine Uv [.c Fg cb,.f rfl] rfl ?_;refine U0 (S:=Nat×Es) 8 (λL1 s=>(9,.v (.oi (s.1:Int)))::L1) (λs=>enL s.2 ms N) (λs=>7-s.1) (λs=>s.1<=7/\s.1<=l.length/\EOk (67000000*s.1) s.2/\s.2.np=N) (0,Ql4 N nd) ⟨by show 0<=7;decide,Qg _,h0.mono (show(0:Int)<=67000000*((0:Nat):Int) by decide),rfl⟩ rfl rfl λ⟨i,E⟩ ⟨hi,hi2,hE,hnp⟩=>?_
 dsimp only at hi hi2 hE hnp ⊢;by_cases hr:i<l.length/\i<7
 ·obtain⟨x,hx⟩:=gxE (l:=l) (i:=i) hr.1;obtain⟨E',e1,e2,e3⟩:=Qrx (ms:=ms) hE Fj hN (hl x (Qa hx));refine Uw [.T,.T,.x (Qfq hx),.c Fg e3] rfl ?_;have e:67000000*(i:Int)+67000000=67000000*((i+1:Nat):Int):=Fj;rw[e]at e1;have hnp':E'.np=N:=by
   have:E'.m.np=E.m.np:=by rw[e2];exact Qgy
   exact this.trans hnp
  exact rd (i+1,E') Ft ⟨hr.2,hr.1,e1,hnp'⟩ rfl
 have h4:E.M.length<=4:=by have:=hE.m.len;omega
 have ca:=Qry hE h4;by_cases hj:i<l.length
 ·exact Ux [.T,.F,.c Fg ca,.g 37 true rfl,.k xZ] rfl
 ·exact Ux [.F,.f rfl,.c Fg ca,.g 37 true rfl,.k xZ] rfl
end Orr
namespace Orr
open Go Go.Proofs Tryz
variable{H:Type}{enc:TypeId×Value->H}{w:World}{base:Nat}{spare:Nat->Bool}{held:Bool}
theorem P7{α:Type}{l:List α}{n i:Nat}(h:l.length=n)(hi:i<n):∃x,l[i]? = some x:=⟨l[i]' Fj,Qf Fj⟩
end Orr
namespace Orr
open Go Go.Proofs Tryz Go.ChangeShapes Go.WideShapes Go.ChangeAt Go.RowKit Go.WideElems
variable{a:Addr}
theorem Qrf{w:World}{v:Value}(h:w.cell? a=some v):a.spot=none/\a.block<w.heap.size:=by
 simp only[World.cell?]at h
 split at h
 ·rename_i c t fr hc
  split at h
  ·cases h
  ·rename_i hs;refine⟨by cases e:a.spot with|none=>rfl|some _=>simp[e]at hs,?_⟩;exact(Array.getElem?_eq_some_iff.1 hc).1
 ·cases h
theorem Qpj(h:a.spot=none)(n m:Nat):(a.add n).add m=⟨a.block,a.off+n+m,none⟩:=by
 obtain⟨b,o,s⟩:=a;simp only at h;subst h;simp only[Addr.add]
 split
 ·rename_i h;subst h
  split
  ·rename_i h;subst h;simp
  ·simp
 ·split
  ·rename_i h;subst h;simp
  ·simp
def fr0(w:World):Fr:=⟨λb=>b<w.heap.size,λ_=>False,w,λ_=>False,λ_=>none⟩
theorem qP(w:World):HS (fr0 w) (ob []) (nw []) (λ_=>none) (λ_=>False) w where
 size:=Qm _
 kept:=λb hb=>⟨hb,rfl,Iff.rfl⟩
 ids:=λi h=>h.elim
 nj:=λi h=>by rw[uX]at h;cases h
 io:=⟨rfl,rfl⟩
 blk:=λi=>by rw[uX];trivial
 nk:=λi g c m h _=>by rw[uX]at h;cases h
 inj:=λi j g c m c' m' h _ _ _=>by rw[uX]at h;cases h
 mlt:=λb h=>h.elim
 m0:=λb _ h=>h.elim
 un:=λi _=>⟨rfl,rfl⟩
 uj:=λi _ h=>h.elim
variable{bl:Nat->OB}{U M:Nat->Prop}
theorem Qtt{w w':World}{E:Dv}(h:HS (fr0 w) bl U E M w'){p:MemPlace}(hp:p.block<w.heap.size):w.sameAt w' p:=by
 cases p with
 |cell b off=>simp only[World.sameAt,World.cell?];rw[(h.kept b hp).2.1];rfl
 |map b=>exact(h.kept b hp).2.1
theorem Qsb{w w':World}{E:Dv}(h:HS (fr0 w) bl U E M w')(may:MemPlace->Prop):w.keptBut w' may:=by
 refine⟨h.io.1,h.io.2,λi hi=>?_⟩;have e:w'.heap[i]? = w.heap[i]? := (h.kept i hi).2.1;rw[e];cases w.heap[i]? with
 |none=>rfl
 |some o=>cases o <;> simp
theorem KZ{H:Type}{P:Program}{e:TypeId}:∀{l:List (DataW H)} {i:Nat} {d:DataW H},l[i]? = some d->∀n∈d.weights P e,n∈DataW.weightsAll P e l
 | [],i,d,h,_,_=>by simp at h
 |
  x::l,0,d,h,n,hn=>by
  simp at h;subst h;simp only[DataW.weightsAll,Qp];exact .inl hn
 |
  x::l,i+1,d,h,n,hn=>by
  simp only[DataW.weightsAll,Qp];exact .inr (KZ (i:=i) (by simpa using h) n hn)
theorem Bj{H:Type}{P:Program}{t:TypeId}{fs:Array Field}{parts:List (DataW H)}(hu:P.underlying t=some (.struct fs))(hz:((DataW.agg parts).weights P t).all (· <= reachBytes)=true){i:Nat}{f:Field}{d:DataW H}(hf:fs[i]? = some f)(hd:parts[i]? = some d) :
 (d.weights P f.type).all (· <= reachBytes)=true:=by
 rw[Jc]at hz ⊢;intro n hn;refine hz n ?_;simp only[DataW.weights,hu];exact DataW.weights_mem_each (j:=i) (by rw[Zb];simp[hf]) hd n hn
variable{H:Type}{enc:TypeId×Value->H}{w:World}
abbrev O0:Nat->Prop:=λ_=>False
def gZ(w:World)(cs:List Value)(ls:Fb):Prop:=cs.length=ls.length/\∀(j:Nat) (u:LV),ls[j]? = some u->∃v,cs[j]? = some v/\LRep w O0 v u
theorem TF{α:Type}{rw_:α->Fb}{Ok:α->Prop}{t e sz:Nat}(hu:prog.underlying t=some (.slice e))(hc:prog.cellsOf e=sz)(hsz:0<sz)(hb:1<=prog.bytesOf e)(hw:∀z,(rw_ z).length=sz)
 (elem:∀fuel cs x,DataW.trod enc prog w 0 (λ_=>true) true fuel e cs=some x->(x.1.weights prog e).all (· <= reachBytes)=true->∃z,Ok z/\gZ w cs (rw_ z))
 {fuel:Nat} {cs:List Value} {x:DataW H×List MemPlace} (h:DataW.trod enc prog w 0 (λ_=>true) true fuel t cs=some x) (hz:(x.1.weights prog t).all (· <= reachBytes)=true) :
 ∃(v:Value) (l:List α),cs=[v]/\(∀z∈l,Ok z)/\l.length<2^47/\LRep w O0 v (.row (l.map rw_)):=by
 rcases Go.Deep.open_slice hu h with⟨rfl,_⟩|⟨a',len,cap,m,n,D,Pl,rfl,_,hlc,hcap,hm,rfl,hr⟩
 ·refine⟨_,[],rfl,Fp,Nat.two_pow_pos 47,?_⟩;exact LRep.row none 0 0 0 0 [] (λ_ _=>.bool true) (Qm _) Fl Fp Fp Fp Fp
 ·simp only[if_true]at hm;subst hm;rw[Jc]at hz;have hlen:len<2^47:=by
   have h0:=hz ((len+(m-len))*prog.bytesOf e) (by simp[DataW.weights,hu]);have h1:len<=(len+(m-len))*prog.bytesOf e:=by
    have:=Zg (Wj len (m-len)) hb;omega
   have h2:(len+(m-len))*prog.bytesOf e<=reachBytes:=by simpa using h0
   exact Xe (Qc h1 h2) reachBytes_lt
  have hel:∀i,i<len->((D i).weights prog e).all (· <= reachBytes)=true:=λi hi=>by
   rw[Jc];intro k hk;refine hz k ?_;simp only[DataW.weights,hu];refine Qh _ (Qp.2 (.inl (KZ (i:=i) ?_ k hk)));rw[Zb,Jl hi];rfl
  have hone:∀i,i<len->∃z cs',Ok z/\gZ w cs' (rw_ z)/\∀j,j<sz->w.cell? ((a'.add (i*sz)).add j)=cs'[j]? := λi hi=>by
   obtain⟨cs',hcs,htr⟩:=hr i Fj;rw[hc]at hcs;obtain⟨_,hl,hcell⟩:=World.cells?_some hcs;obtain⟨z,hz1,hz2⟩:=elem _ _ _ htr (hel i hi);refine⟨z,cs',hz1,hz2,λj hj=>?_⟩;rw[hcell j Fj]
  have hspot:0<len->a'.spot=none/\a'.block<w.heap.size:=λh0=>by
   obtain⟨z,cs',_,⟨hl,_⟩,h3⟩:=hone 0 h0;have h4:=h3 0 hsz;have:(a'.add (0*sz)).add 0=a':=by simp[Addr.add]
   rw[this,Qf (by rw[hl,hw];exact hsz)]at h4;exact Qrf h4
  obtain⟨l,hll,hl⟩:∃l:List α,l.length=len/\∀i z,l[i]? = some z->Ok z/\∃cs',gZ w cs' (rw_ z)/\∀j,j<sz->w.cell? ((a'.add (i*sz)).add j)=cs'[j]? := by
   have:∀k,k<=len->∃l:List α,l.length=k/\∀i z,l[i]? = some z->Ok z/\∃cs',gZ w cs' (rw_ z)/\∀j,j<sz->w.cell? ((a'.add (i*sz)).add j)=cs'[j]? := by
    intro k
    induction k with
    |zero=>intro _;exact⟨[],rfl,λi z h=>by simp at h⟩
    |
     succ k ih =>
     intro hk;obtain⟨l,h1,h2⟩:=ih Fj;obtain⟨z,cs',h3,h4,h5⟩:=hone k Fj;refine⟨l++[z],by simp[h1],λi y hy=>?_⟩;rcases Zc i l.length with hi|hi
     ·rw[Zd hi]at hy;exact h2 i y hy
     ·rw[Zz hi]at hy;have:i-l.length=0:=by
       rcases Q4 (i-l.length)with h|h
       ·exact h
       ·rw[Qy (by rw[Kb];exact h)]at hy;cases hy
      rw[this]at hy;simp at hy;subst hy;have:i=k:=Fj;subst this;exact⟨h3,cs',h4,h5⟩
   exact this len (Qm _)
  refine⟨_,l,rfl,λz hz=>?_,by rw[hll];exact hlen,?_⟩
  ·obtain⟨i,hi⟩:=Zk.1 hz;exact(hl i z hi).1
  ·have key:LRep w O0 (.slice (some a') (l.map rw_).length m) (.row (l.map rw_)):=by
    have hgl:∀i c,(l.map rw_)[i]? = some c->∃z,l[i]? = some z/\c=rw_ z/\i<len:=λi c h=>by
     rw[Zb]at h;cases e:l[i]? with
     |none=>rw[e]at h;cases h
     |some z=>rw[e]at h;simp at h;exact⟨z,rfl,h.symm,by have:=(Qd.1 e).1;omega⟩
    have hcl:∀i c,(l.map rw_)[i]? = some c->∃cs':List Value,gZ w cs' c/\∀j,j<sz->w.cell? ⟨a'.block,a'.off+i*sz+j,none⟩=cs'[j]? := λi c h=>by
     obtain⟨z,hz,rfl,hi⟩:=hgl i c h;obtain⟨_,cs',h1,h2⟩:=hl i z hz;refine⟨cs',h1,λj hj=>?_⟩;rw[<-h2 j hj,Qpj (hspot Fj).1]
    refine LRep.row (some a') m sz a'.block a'.off (l.map rw_) (λi j=>(w.cell? ⟨a'.block,a'.off+i*sz+j,none⟩).getD (.bool true)) (by rw[Ze];omega) ?_ ?_ ?_ ?_ ?_
    ·have:maxLen=2^63-1:=by rfl
     omega
    ·intro c hc2;obtain⟨z,_,rfl⟩:=Q8.1 hc2;exact hw z
    ·intro h0;rw[Ze,hll]at h0;obtain⟨hs,hb⟩:=hspot h0;refine⟨?_,hb,by simp[O0]⟩;obtain⟨b,o,s⟩:=a';simp only at hs;rw[hs]
    ·intro i c hi j hj;obtain⟨z,_,rfl,_⟩:=hgl i c hi;obtain⟨cs',⟨h1,_⟩,h2⟩:=hcl i _ hi;have hjs:j<sz:=by rw[<-hw z];exact hj
     rw[h2 j hjs,Qf (by rw[h1];exact hj)];rfl
    ·intro i c hi j u hu2;obtain⟨z,_,rfl,_⟩:=hgl i c hi;obtain⟨cs',⟨h1,h3⟩,h2⟩:=hcl i _ hi;obtain⟨v,hv,hr2⟩:=h3 j u hu2;have hjs:j<sz:=by rw[<-hw z];exact(Qd.1 hu2).1
     show LRep w O0 ((w.cell? ⟨a'.block,a'.off+i*sz+j,none⟩).getD (.bool true)) u;rw[h2 j hjs,hv];exact hr2
   rw[Ze,hll]at key;exact key
abbrev Q2w(x:Nat):Fb:=[.int .u32 (x:Int)]
theorem Qog:∀fuel cs x,DataW.trod enc prog w 0 (λ_=>true) true fuel 125 cs=some x->(x.1.weights prog 125).all (· <= reachBytes)=true->∃z:Nat,z<4294967296/\gZ w cs (Q2w z):=by
 intro fuel cs x h _;obtain⟨n,rfl,_,hwf⟩:=DataW.trod_int underlying125 h;have hn:0<=n/\n<4294967296:=by
  have:0<=n/\n<=4294967295:=by simpa[Lit.wf,IntKind.min,IntKind.max,IntKind.signed,IntKind.bits]using hwf
  omega
 refine⟨n.toNat,Fj,rfl,λj u hu=>?_⟩
 match j,hu with
 |
  0,hu =>
  simp at hu;subst hu;refine⟨_,rfl,?_⟩;rw[show max n 0=n by omega];exact .int _ _
 |j+1,hu=>simp at hu
set_option maxRecDepth 20000 in
theorem YP:∀fuel cs x,DataW.trod enc prog w 0 (λ_=>true) true fuel 35 cs=some x->(x.1.weights prog 35).all (· <= reachBytes)=true->∃z:RawInt,z.Ok/\gZ w cs (Aq z):=by
 intro fuel cs x h hz;obtain⟨xs,n,_,rfl,hl,hxs,hf⟩:=DataW.trod_struct underlying35 h;have hl:cs.length=2:=hl
 match cs,hl with
 |
  [v0,v1],_ =>
  obtain⟨z0,hz0⟩:=P7 (i:=0) hxs Fl;obtain⟨z1,hz1⟩:=P7 (i:=1) hxs Fl;have h0:=hf 0 _ rfl;have h1:=hf 1 _ rfl;rw[hz0]at h0;rw[hz1]at h1;obtain⟨b,e0,_⟩:=DataW.trod_bool underlying4 h0;have f0:v0=.bool b:=(List.cons.inj (show [v0]=[Value.bool b] from e0)).1;have hw1:=Bj underlying35 hz (i:=1) rfl (d:=z1.1) (by rw[Zb,hz1];rfl);obtain⟨v,l,e1,hlo,_,hrep⟩:=TF (sz:=1) (Ok:=λu:Nat=>u<4294967296) (rw_:=Q2w) underlying33 (by kernel_rfl) Fl (of_decide_eq_true (by kernel_rfl)) (λ_=>rfl) Qog h1 hw1;have f1:v1=v:=(List.cons.inj (show [v1]=[v] from e1)).1;subst f0 f1;refine⟨⟨b,l⟩,⟨hlo⟩,rfl,λj u hu=>?_⟩
  match j,hu with
  | 0,hu=>simp at hu;subst hu;exact⟨_,rfl,.bool _⟩
  | 1,hu=>simp at hu;subst hu;exact⟨_,rfl,hrep⟩
  |j+2,hu=>simp at hu
set_option maxRecDepth 20000 in
theorem aJ:∀fuel cs x,DataW.trod enc prog w 0 (λ_=>true) true fuel 39 cs=some x->(x.1.weights prog 39).all (· <= reachBytes)=true->∃z:RawPt,z.Ok/\gZ w cs (rwq z):=by
 intro fuel cs x h hz;obtain⟨xs,n,_,rfl,hl,hxs,hf⟩:=DataW.trod_struct underlying39 h;have hl:cs.length=5:=hl
 match cs,hl with
 |
  [v0,v1,v2,v3,v4],_ =>
  obtain⟨z0,hz0⟩:=P7 (i:=0) hxs Fl;obtain⟨z1,hz1⟩:=P7 (i:=1) hxs Fl;have h0:=hf 0 _ rfl;have h1:=hf 1 _ rfl;rw[hz0]at h0;rw[hz1]at h1;obtain⟨id,e4,_,hwf⟩:=DataW.trod_int underlying3 h1;have f4:v4=.int .i64 id:=(List.cons.inj (show [v4]=[Value.int .i64 id] from e4)).1;have hw0:=Bj underlying39 hz (i:=0) rfl (d:=z0.1) (by rw[Zb,hz0];rfl);obtain⟨ys,n2,_,e5,_,hys,hg⟩:=DataW.trod_struct underlying37 h0;rw[e5]at hw0;obtain⟨y0,hy0⟩:=P7 (i:=0) hys Fl;obtain⟨y1,hy1⟩:=P7 (i:=1) hys Fl;obtain⟨y2,hy2⟩:=P7 (i:=2) hys Fl;have g0:=hg 0 _ rfl;have g1:=hg 1 _ rfl;have g2:=hg 2 _ rfl;rw[hy0]at g0;rw[hy1]at g1;rw[hy2]at g2;have w0:=Bj underlying37 hw0 (i:=0) rfl (d:=y0.1) (by rw[Zb,hy0];rfl);have w1:=Bj underlying37 hw0 (i:=1) rfl (d:=y1.1) (by rw[Zb,hy1];rfl);have w2:=Bj underlying37 hw0 (i:=2) rfl (d:=y2.1) (by rw[Zb,hy2];rfl);obtain⟨u0,lx,e0,hx,_,rx⟩:=TF (sz:=2) (Ok:=RawInt.Ok) (rw_:=Aq) underlying32 (by kernel_rfl) Fl (of_decide_eq_true (by kernel_rfl)) (λ_=>rfl) YP g0 w0;obtain⟨u1,ly,e1,hy,_,ry⟩:=TF (sz:=2) (Ok:=RawInt.Ok) (rw_:=Aq) underlying32 (by kernel_rfl) Fl (of_decide_eq_true (by kernel_rfl)) (λ_=>rfl) YP g1 w1;obtain⟨d,hd,hde⟩:=YP _ _ _ g2 w2;have f0:v0=u0:=(List.cons.inj (show [v0]=[u0] from e0)).1;have f1:v1=u1:=(List.cons.inj (show [v1]=[u1] from e1)).1;have hde2:gZ w [v2,v3] (Aq d):=hde;subst f0 f1 f4;obtain⟨q2,hq2,r2⟩:=hde2.2 0 _ rfl;obtain⟨q3,hq3,r3⟩:=hde2.2 1 _ rfl;simp at hq2 hq3;subst hq2 hq3;refine⟨⟨lx,ly,d,id⟩,⟨hx,hy,hd,by simpa[Lit.wf,IntKind.min,IntKind.max,IntKind.signed,IntKind.bits]using hwf⟩,rfl,λj u hu=>?_⟩
  match j,hu with
  | 0,hu=>simp[rwq]at hu;subst hu;exact⟨_,rfl,rx⟩
  | 1,hu=>simp[rwq]at hu;subst hu;exact⟨_,rfl,ry⟩
  | 2,hu=>simp[rwq]at hu;subst hu;exact⟨_,rfl,r2⟩
  | 3,hu=>simp[rwq]at hu;subst hu;exact⟨_,rfl,r3⟩
  | 4,hu=>simp[rwq]at hu;subst hu;exact⟨_,rfl,.int _ _⟩
  |j+5,hu=>simp[rwq]at hu
end Orr
namespace Orr
open Go Go.Proofs Tryz Go.ChangeShapes Go.WideShapes Go.ChangeAt Go.RowKit Go.WideElems
variable{H:Type}{enc:TypeId×Value->H}{w:World}
end Orr
namespace Orr
open Go Go.Proofs Tryz Go.ChangeShapes Go.WideShapes Go.ChangeAt Go.RowKit Go.WideElems
set_option maxRecDepth 10000
def zU(t:TypeId)(R:TV->Prop):Prop:=∀{H:Type} {enc:TypeId×Value->H} {W:World} {base:Nat} {v:Value} {d:DataW H} {p:List MemPlace},Value.okWide prog W .any base t v->DataW.Trod enc prog W 0 (λ_=>true) true t v d p->(d.weights prog t).all (· <= reachBytes)=true->∃u,R u/\TRep W (λ_=>False) (λ_=>none) v u
section
variable{H:Type}{enc:TypeId×Value->H}{W W':World}{base:Nat}
theorem mB:∀{ps:List (TypeId×(TV->Prop))} {args:List Value} {ds:List (DataW H)} {p:List MemPlace},DataW.TrodAll enc prog W 0 (λ_=>true) true (ps.map (·.1)) args ds p ->
 (∀(j:Nat) t v,(ps.map (·.1))[j]? = some t->args[j]? = some v->Value.okWide prog W .any base t v)->(∀(j:Nat) t d,(ps.map (·.1))[j]? = some t->ds[j]? = some d->(d.weights prog t).all (· ≤ reachBytes)=true)->(∀q∈ps,zU q.1 q.2) ->
 ∃us,F2 (λu (q:TypeId×(TV->Prop))=>q.2 u) us ps/\F2 (TRep W (λ_=>False) (λ_=>none)) args us/\ds.length=ps.length
 |
  [],args,ds,p,h,_,_,_=>by
  obtain⟨rfl,rfl,rfl⟩:=trodAll_nil h;exact⟨[],.nil,.nil,rfl⟩
 |
  q::ps,args,ds,p,h,hv,hw,hr=>by
  obtain⟨v,vs,d,ds',p1,p2,rfl,rfl,rfl,h1,h2⟩:=trodAll_cons h;obtain⟨u,r1,r2⟩:=hr q (Qw ..) (hv 0 q.1 v rfl rfl) h1 (hw 0 q.1 d rfl rfl);obtain⟨us,s1,s2,s3⟩:=mB h2 (λj t v h h'=>hv (j+1) t v (by simpa using h) (by simpa using h')) (λj t d h h'=>hw (j+1) t d (by simpa using h) (by simpa using h')) λq hq=>hr q (Qh _ hq)
  exact⟨u::us,.cons r1 s1,.cons r2 s2,by simp[s3]⟩
theorem nH{sp':Nat->Bool}(hl:laidOutB prog=true):∀{ps:List (TypeId×(TV->Prop))} {args:List Value} {ds:List (DataW H)} {p:List MemPlace},DataW.TrodAll enc prog W 0 (λ_=>true) true (ps.map (·.1)) args ds p ->
 (∀q∈ps,prog.readableRec q.1=true/\q.1<prog.types.size)->(∀x∈p,W.sameAt W' x)->(∀x∈p,sp' x.block=true)->DataW.TrodAll enc prog W' 0 sp' true (ps.map (·.1)) args ds p
 |
  [],args,ds,p,h,_,_,_=>by
  obtain⟨rfl,rfl,rfl⟩:=trodAll_nil h;exact trodAll_mk0
 |
  q::ps,args,ds,p,h,hr,hs,hb=>by
  obtain⟨v,vs,d,ds',p1,p2,rfl,rfl,rfl,h1,h2⟩:=trodAll_cons h;obtain⟨r1,r2⟩:=hr q (Qw ..);exact trodAll_cons_mk (Trod_stays hl r1 r2 h1 (λx hx=>hs x (Qp.2 (.inl hx))) λx hx=>hb x (Qp.2 (.inl hx))) (nH hl h2 (λq hq=>hr q (Qh _ hq)) (λx hx=>hs x (Qp.2 (.inr hx))) λx hx=>hb x (Qp.2 (.inr hx)))
end
theorem Qlj{ps:List (TypeId×(TV->Prop))}{f:FuncId}{fn:Func}{s:ChangeSpec}(hp:fn.params=(ps.map (·.1)).toArray)(hr:fn.resultTypes = #[4])(hv:s.vars=[])
 (hs:∀(H:Type) (ds:List (DataW H)),ds.length=ps.length->s.fn H ds={ results:=[.lit (.bool true)],args:=ds })
 (hlaid:laidOutB prog=true) (hrec:∀q∈ps,prog.readableRec q.1=true/\q.1<prog.types.size) (hrd:∀q∈ps,zU q.1 q.2)
 (law:∀us:Ff,F2 (λu (q:TypeId×(TV->Prop))=>q.2 u) us ps->qM prog f us [.one (.bool true)])
 {H:Type} {enc:TypeId×Value->H} {W:World} {base:Nat} {args:Array Value} {ds gs:List (DataW H)} {H8:List MemPlace} {fresh handsOn:Bool}
 (hval:∀(j:Nat) t v,fn.params[j]? = some t->args[j]? = some v->Value.okWide prog W .any base t v)
 (hW:DataW.Whole enc prog fn.params.toList s.vars false W args.toList ds gs H8)
 (hz:(DataW.weightsEach prog (fn.params.toList++s.plain.varTypes prog) (ds++gs)).all (· <= reachBytes)=true) :
 Calls prog f args W λe W'=>∃v,e=.returned v/\s.post enc prog fn false fresh handsOn false W args v W':=by
 have hW':=hW;obtain⟨p,q,hA0,hV,rfl,hfz,hnd⟩:=hW;have hA:DataW.TrodAll enc prog W 0 (λ_=>true) true fn.params.toList args.toList ds p:=hA0;rw[hv]at hV;obtain⟨rfl,rfl⟩:=trodVars_none hV;have hlt:=hW'.lt;rw[hp]at hA hval hz;have hA:DataW.TrodAll enc prog W 0 (λ_=>true) true (ps.map (·.1)) args.toList ds p:=by simpa using hA
 obtain⟨us,r1,r2,r3⟩:=mB (base:=base) hA (λj t v h h'=>hval j t v (by simpa using h) (by simpa using h')) (λj t d h h'=>by
  rw[Jc]at hz ⊢;intro k hk;have hj:j<(ps.map (·.1)).length:=(Qd.1 h).1;have hj2:j<ds.length:=(Qd.1 h').1;exact hz k (DataW.weights_mem_each (j:=j) (by rw[Zd (by simpa using hj)];simpa using h) (by rw[Zd hj2];exact h') k hk)) hrd
 have hcall:=(law us r1).2 (fr0 W) (λ_=>none) (λ_=>False) W args.toList (qP W) r2;have ea:args.toList.toArray=args:=Fp;rw[ea]at hcall;refine hcall.mono λe W' ⟨v,u,Bo,E',M',he,⟨hu,hBo⟩,_,hm,har⟩=>?_
 subst hu;obtain rfl:v=.bool true:=by
  have h:LRep _ _ v (.bool true):=har;cases h;rfl
 refine⟨_,he,?_⟩;refine⟨ds,[],_,[],p,[],hW',?_,?_,?_,Qsb hm _,λh=>by cases h⟩
 ·rw[hr,Zw,hs H ds r3];exact trodAll_cons_mk (shut_bool underlying4 true) trodAll_mk0
 ·rw[hp,Zw,hs H ds r3];have hb:∀x∈p,x.block<W.heap.size:=λx hx=>hlt x (by simp[hx])
  have:=nH (sp':=λb=>decide (b<W.heap.size)) hlaid hA hrec (λx hx=>Qtt hm (hb x hx)) λx hx=>by simpa using hb x hx
  simpa using this
 ·rw[hv,Zw,hs H ds r3];rfl
abbrev Qv8(u:TV):Prop:=∃n:Int,(-9223372036854775808<=n/\n<=9223372036854775807)/\u=.oi n
theorem yT:zU 3 Qv8:=λ{H enc W base v d p} hv h _=>by
 obtain⟨n,rfl,rfl,rfl,w1⟩:=open_int underlying3 hv h;exact⟨_,⟨n,by simpa[Lit.wf,IntKind.min,IntKind.max,IntKind.signed,IntKind.bits]using w1,rfl⟩,show XRep W (λ_=>False) (λ_=>none) (.int .i64 n) (.int .i64 n) from(LRep.int .i64 n).x⟩
theorem Qf1{α:Type}{rw_:α->Fb}{Ok:α->Prop}{t e sz:Nat}(hu:prog.underlying t=some (.slice e))(hc:prog.cellsOf e=sz)(hsz:0<sz)(hb:1<=prog.bytesOf e)(hw:∀z,(rw_ z).length=sz)
 (elem:∀{H:Type} {enc:TypeId×Value->H} {w:World} fuel cs x,DataW.trod enc prog w 0 (λ_=>true) true fuel e cs=some x->(x.1.weights prog e).all (· ≤ reachBytes)=true->∃z,Ok z/\gZ w cs (rw_ z)):zU t λu=>∃l:List α,(∀z∈l,Ok z)/\u=.one (.row (l.map rw_)):=λ{H enc W base v d p} hv h hz=>by
 obtain⟨a,len,cap,rfl⟩:=okWide_slice hu hv;obtain⟨fu,h⟩:=h;obtain⟨v,l,e0,hok,_,hrep⟩:=TF hu hc hsz hb hw (λfuel cs x h h'=>elem fuel cs x h h') h hz;have f0:Value.slice a len cap=v:=(List.cons.inj (show [Value.slice a len cap]=[v] from e0)).1;subst f0;exact⟨_,⟨l,hok,rfl⟩,show XRep W (λ_=>False) (λ_=>none) _ (.row (l.map rw_)) from hrep.x⟩
end Orr
namespace Orr
open Go Go.Proofs Tryz Go.ChangeShapes Go.WideShapes Go.ChangeAt Go.RowKit Go.WideElems
set_option maxRecDepth 10000
theorem HF{w:World}{cs cs':List Value}{ls ls':Fb}(h:gZ w cs ls)(h':gZ w cs' ls'):gZ w (cs++cs') (ls++ls'):=by
 refine⟨by simp[h.1,h'.1],λj u hu=>?_⟩;by_cases hj:j<ls.length
 ·rw[Zd hj]at hu;obtain⟨v,hv,hr⟩:=h.2 j u hu;exact⟨v,by rw[Zd (by rw[h.1];exact hj)];exact hv,hr⟩
 ·rw[Zz Fj]at hu;obtain⟨v,hv,hr⟩:=h'.2 _ u hu;exact⟨v,by rw[Zz (by rw[h.1];omega),h.1];exact hv,hr⟩
theorem kE{w:World}{n:Int}:gZ w [.int .i64 n] [.int .i64 n]:=⟨rfl,λj u hu=>by
 match j,hu with
 | 0,hu=>simp at hu;subst hu;exact⟨_,rfl,.int _ _⟩
 |j+1,hu=>simp at hu⟩
section
variable{H:Type}{enc:TypeId×Value->H}{w:World}
set_option maxRecDepth 20000 in
theorem Qsw:∀fuel cs x,DataW.trod enc prog w 0 (λ_=>true) true fuel 43 cs=some x->(x.1.weights prog 43).all (· <= reachBytes)=true->∃z:RawOp,z.Ok/\gZ w cs (rwo z):=by
 intro fuel cs x h hz;obtain⟨xs,n,_,rfl,hl,hxs,hf⟩:=DataW.trod_struct underlying43 h;have hl:cs.length=12:=hl
 match cs,hl with
 |
  [v0,v1,v2,v3,v4,v5,v6,v7,v8,v9,v10,v11],_ =>
  obtain⟨z0,hz0⟩:=P7 (i:=0) hxs Fl;obtain⟨z1,hz1⟩:=P7 (i:=1) hxs Fl;obtain⟨z2,hz2⟩:=P7 (i:=2) hxs Fl;obtain⟨z3,hz3⟩:=P7 (i:=3) hxs Fl;obtain⟨z4,hz4⟩:=P7 (i:=4) hxs Fl;have h0:=hf 0 _ rfl;have h1:=hf 1 _ rfl;have h2:=hf 2 _ rfl;have h3:=hf 3 _ rfl;have h4:=hf 4 _ rfl;rw[hz0]at h0;rw[hz1]at h1;rw[hz2]at h2;rw[hz3]at h3;rw[hz4]at h4;obtain⟨k,e0,_,w0⟩:=DataW.trod_int underlying3 h0;obtain⟨m,e1,_,w1⟩:=DataW.trod_int underlying3 h1;obtain⟨d,e2,_,w2⟩:=DataW.trod_int underlying3 h2;have f0:v0=.int .i64 k:=(List.cons.inj (show [v0]=[Value.int .i64 k] from e0)).1;have f1:v1=.int .i64 m:=(List.cons.inj (show [v1]=[Value.int .i64 m] from e1)).1;have f2:v2=.int .i64 d:=(List.cons.inj (show [v2]=[Value.int .i64 d] from e2)).1;have hw3:=Bj underlying43 hz (i:=3) rfl (d:=z3.1) (by rw[Zb,hz3];rfl);have hw4:=Bj underlying43 hz (i:=4) rfl (d:=z4.1) (by rw[Zb,hz4];rfl);obtain⟨p,p1,p2⟩:=aJ _ _ _ h3 hw3;have p2:gZ w [v3,v4,v5,v6,v7] (rwq p):=p2;obtain⟨ys,n2,_,e5,_,hys,hg⟩:=DataW.trod_struct underlying41 h4;rw[e5]at hw4;obtain⟨y0,hy0⟩:=P7 (i:=0) hys Fl;obtain⟨y1,hy1⟩:=P7 (i:=1) hys Fl;have g0:=hg 0 _ rfl;have g1:=hg 1 _ rfl;rw[hy0]at g0;rw[hy1]at g1;have x0:=Bj underlying41 hw4 (i:=0) rfl (d:=y0.1) (by rw[Zb,hy0];rfl);have x1:=Bj underlying41 hw4 (i:=1) rfl (d:=y1.1) (by rw[Zb,hy1];rfl);obtain⟨t,t1,t2⟩:=YP _ _ _ g0 x0;obtain⟨u,u1,u2⟩:=YP _ _ _ g1 x1;have t2:gZ w [v8,v9] (Aq t):=t2;have u2:gZ w [v10,v11] (Aq u):=u2;subst f0 f1 f2;exact⟨⟨k,m,d,p,t,u⟩,⟨by simpa[Lit.wf,IntKind.min,IntKind.max,IntKind.signed,IntKind.bits]using w0,by simpa[Lit.wf,IntKind.min,IntKind.max,IntKind.signed,IntKind.bits]using w1,by simpa[Lit.wf,IntKind.min,IntKind.max,IntKind.signed,IntKind.bits]using w2,p1,t1,u1⟩,
   HF (HF (HF (HF (HF kE kE) kE) p2) t2) u2⟩
end
abbrev Q0n(u:TV):Prop:=∃l:List RawOp,(∀o∈l,o.Ok)/\u=.one (.row (jD l))
theorem Qf0:zU 22 Q0n:=Qf1 (sz:=12) (Ok:=RawOp.Ok) (rw_:=rwo) underlying22 (by kernel_rfl) Fl (of_decide_eq_true (by kernel_rfl)) (λ_=>rfl) λfuel cs x=>Qsw fuel cs x
end Orr
