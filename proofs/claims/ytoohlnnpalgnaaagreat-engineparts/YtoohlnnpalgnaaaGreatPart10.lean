/- MD2 MD3 MD4 MD5 MD6 X22 SD2 H4 En2 X20 X21 En3 EnZ En4 EnO EnQ RatZ EnB W24 EnP EnR RawO EnA EnG WPT24 ReadN LastN -/
import Derived.Test.YtoohlnnpalgnaaaGreatPart09
import Derived.Test.YtoohlnnpalgnaaaGreatPart00
import Derived.Test.YtoohlnnpalgnaaaGreatPart08
import Derived.Test.YtoohlnnpalgnaaaGreatPart07
import Derived.Deep.Slices
import Derived.ProofKit
import Derived.OpenShut
import Derived.WideKeyArgs
import Derived.SizedLaws
set_option linter.all false
namespace Orr
open Go Go.Proofs Tryz Orq
set_option maxRecDepth 10000
def uE(T:Bb)(s:Int)(n:Uo)(F:Bb)(k:Nat):Bb:=(List.range k).foldl (I9 T s n) F
theorem nZ(T:Bb)(s:Int)(n:Uo)(F:Bb)(k:Nat):uE T s n F (k+1)=I9 T s n (uE T s n F k) k:=by unfold uE;rw[List.range_succ,List.foldl_append];rfl
theorem nQ(T:Bb)(s:Int)(n:Uo)(F:Bb):uE T s n F 4=OF T s n F:=rfl
set_option maxHeartbeats 4000000 in
theorem Qt1{F T:Bb}{s n0 n1 n2 n3:Int}(hT:kR T)(hs:-1<=s/\s<=1):U6 prog 261 [.one (.omap 0),.one (.omap 1),.oi s,.agg [.int .i64 n0,.int .i64 n1,.int .i64 n2,.int .i64 n3]] [.mpb F,.mpb T] [] [.mpb (OF T s [n0,n1,n2,n3] F),.mpb T]:=by
 have hm:Ql7 T:=λk=>(hT k).1
 have hb:=λ(k:Uo) (x:Int) (hx:-1<=x/\x<=1)=>Qcw (hT k).2 hx
 rw[<-nQ];obtain⟨f,hf⟩:=nmE (uE T s [n0,n1,n2,n3] F);have f0:F=f 0:=by rw[hf];rfl
 have fs:∀k,f (k+1)=I9 T s [n0,n1,n2,n3] (f k) k:=λk=>by rw[hf];exact nZ ..
 rw[<-hf];rw[f0];clear hf f0;refine Fv func261 rfl ?_;refine Uf [] rfl ?_;refine Uk (S:=Nat) 3 (λL1 k=>(14,.v (.oi k))::L1) (λk=>[.mpb (f k),.mpb T,.blk 95 [.int .i64 n0,.int .i64 n1,.int .i64 n2,.int .i64 n3]]) (λk=>4-k) (λk=>k<=4) 0 (by decide) rfl rfl λk hk=>?_
 rcases(show k=0\/k=1\/k=2\/k=3\/k=4 by omega)with rfl|rfl|rfl|rfl|rfl
 ·have e1:=fs 0;have e2:I9 T s [n0,n1,n2,n3] (f 0) 0=if ZS T [n1,n2,n3]*(-s)>0 then L6 (f 0) [n1,n2,n3] (.bool true)else f 0:=rfl
  rw[e2]at e1;refine Uf [.t rfl] rfl ?_;refine Uk (S:=Nat) 4 (λL1 i=>(18,.v (.oi i))::(10,.v (.oi (if i<=0 then(i:Int)else(i:Int)-1)))::L1) (λi=>[.mpb (f 0),.mpb T,.blk 95 [.int .i64 n0,.int .i64 n1,.int .i64 n2,.int .i64 n3],.blk 84 [.int .i64 (if 2<=i then n1 else 0),.int .i64 (if 3<=i then n2 else 0),.int .i64 (if 4<=i then n3 else 0)]]) (λi=>4-i) (λi=>i<=4) 0 (by decide) rfl rfl λi hi=>?_
  rcases(show i=0\/i=1\/i=2\/i=3\/i=4 by omega)with rfl|rfl|rfl|rfl|rfl
  ·refine Uf [.t rfl,.i 0,.f rfl] rfl ?_ (by simp[U3]);exact rd 1 (by omega) (by omega) rfl
  ·refine Uf [.t rfl,.i 1,.t rfl,.i 0] rfl ?_ (by simp[U3]);exact rd 2 (by omega) (by omega) rfl
  ·refine Uf [.t rfl,.i 2,.t rfl,.i 1] rfl ?_ (by simp[U3]);exact rd 3 (by omega) (by omega) rfl
  ·refine Uf [.t rfl,.i 3,.t rfl,.i 2] rfl ?_ (by simp[U3]);exact rd 4 (by omega) (by omega) rfl
  ·have hbb:=hb [n1,n2,n3] (-s) (by omega);by_cases hc:ZS T [n1,n2,n3]*(-s)>0
   ·rw[if_pos hc]at e1;refine go tt [.f rfl,.t rfl,.t (decide_eq_true hc)] rfl (by simp only[U3];first|exact⟨⟨by omega,by omega⟩,hbb,hm,⟨by omega,by omega⟩,by decide,by omega,by omega⟩|exact⟨⟨by omega,by omega⟩,hbb,hm,by decide,by omega,by omega⟩) ?_;exact rd 1 (by omega) (by omega) (by rw[e1];rfl)
   ·rw[if_neg hc]at e1;refine go tt [.f rfl,.t rfl,.f (decide_eq_false hc)] rfl (by simp only[U3];first|exact⟨⟨by omega,by omega⟩,hbb,hm,⟨by omega,by omega⟩,by decide,by omega,by omega⟩|exact⟨⟨by omega,by omega⟩,hbb,hm,by decide,by omega,by omega⟩) ?_;exact rd 1 (by omega) (by omega) (by rw[e1];rfl)
 ·have e1:=fs 1;have e2:I9 T s [n0,n1,n2,n3] (f 1) 1=if ZS T [n0,n2,n3]*s>0 then L6 (f 1) [n0,n2,n3] (.bool true)else f 1:=rfl
  rw[e2]at e1;refine Uf [.t rfl] rfl ?_;refine Uk (S:=Nat) 4 (λL1 i=>(18,.v (.oi i))::(10,.v (.oi (if i<=1 then(i:Int)else(i:Int)-1)))::L1) (λi=>[.mpb (f 1),.mpb T,.blk 95 [.int .i64 n0,.int .i64 n1,.int .i64 n2,.int .i64 n3],.blk 84 [.int .i64 (if 1<=i then n0 else 0),.int .i64 (if 3<=i then n2 else 0),.int .i64 (if 4<=i then n3 else 0)]]) (λi=>4-i) (λi=>i<=4) 0 (by decide) rfl rfl λi hi=>?_
  rcases(show i=0\/i=1\/i=2\/i=3\/i=4 by omega)with rfl|rfl|rfl|rfl|rfl
  ·refine Uf [.t rfl,.i 0,.t rfl,.i 0] rfl ?_ (by simp[U3]);exact rd 1 (by omega) (by omega) rfl
  ·refine Uf [.t rfl,.i 1,.f rfl] rfl ?_ (by simp[U3]);exact rd 2 (by omega) (by omega) rfl
  ·refine Uf [.t rfl,.i 2,.t rfl,.i 1] rfl ?_ (by simp[U3]);exact rd 3 (by omega) (by omega) rfl
  ·refine Uf [.t rfl,.i 3,.t rfl,.i 2] rfl ?_ (by simp[U3]);exact rd 4 (by omega) (by omega) rfl
  ·have hbb:=hb [n0,n2,n3] s (by omega);by_cases hc:ZS T [n0,n2,n3]*s>0
   ·rw[if_pos hc]at e1;refine go tt [.f rfl,.f rfl,.t (decide_eq_true hc)] rfl (by simp only[U3];first|exact⟨⟨by omega,by omega⟩,hbb,hm,⟨by omega,by omega⟩,by decide,by omega,by omega⟩|exact⟨⟨by omega,by omega⟩,hbb,hm,by decide,by omega,by omega⟩) ?_;exact rd 2 (by omega) (by omega) (by rw[e1];rfl)
   ·rw[if_neg hc]at e1;refine go tt [.f rfl,.f rfl,.f (decide_eq_false hc)] rfl (by simp only[U3];first|exact⟨⟨by omega,by omega⟩,hbb,hm,⟨by omega,by omega⟩,by decide,by omega,by omega⟩|exact⟨⟨by omega,by omega⟩,hbb,hm,by decide,by omega,by omega⟩) ?_;exact rd 2 (by omega) (by omega) (by rw[e1];rfl)
 ·have e1:=fs 2;have e2:I9 T s [n0,n1,n2,n3] (f 2) 2=if ZS T [n0,n1,n3]*(-s)>0 then L6 (f 2) [n0,n1,n3] (.bool true)else f 2:=rfl
  rw[e2]at e1;refine Uf [.t rfl] rfl ?_;refine Uk (S:=Nat) 4 (λL1 i=>(18,.v (.oi i))::(10,.v (.oi (if i<=2 then(i:Int)else(i:Int)-1)))::L1) (λi=>[.mpb (f 2),.mpb T,.blk 95 [.int .i64 n0,.int .i64 n1,.int .i64 n2,.int .i64 n3],.blk 84 [.int .i64 (if 1<=i then n0 else 0),.int .i64 (if 2<=i then n1 else 0),.int .i64 (if 4<=i then n3 else 0)]]) (λi=>4-i) (λi=>i<=4) 0 (by decide) rfl rfl λi hi=>?_
  rcases(show i=0\/i=1\/i=2\/i=3\/i=4 by omega)with rfl|rfl|rfl|rfl|rfl
  ·refine Uf [.t rfl,.i 0,.t rfl,.i 0] rfl ?_ (by simp[U3]);exact rd 1 (by omega) (by omega) rfl
  ·refine Uf [.t rfl,.i 1,.t rfl,.i 1] rfl ?_ (by simp[U3]);exact rd 2 (by omega) (by omega) rfl
  ·refine Uf [.t rfl,.i 2,.f rfl] rfl ?_ (by simp[U3]);exact rd 3 (by omega) (by omega) rfl
  ·refine Uf [.t rfl,.i 3,.t rfl,.i 2] rfl ?_ (by simp[U3]);exact rd 4 (by omega) (by omega) rfl
  ·have hbb:=hb [n0,n1,n3] (-s) (by omega);by_cases hc:ZS T [n0,n1,n3]*(-s)>0
   ·rw[if_pos hc]at e1;refine go tt [.f rfl,.t rfl,.t (decide_eq_true hc)] rfl (by simp only[U3];first|exact⟨⟨by omega,by omega⟩,hbb,hm,⟨by omega,by omega⟩,by decide,by omega,by omega⟩|exact⟨⟨by omega,by omega⟩,hbb,hm,by decide,by omega,by omega⟩) ?_;exact rd 3 (by omega) (by omega) (by rw[e1];rfl)
   ·rw[if_neg hc]at e1;refine go tt [.f rfl,.t rfl,.f (decide_eq_false hc)] rfl (by simp only[U3];first|exact⟨⟨by omega,by omega⟩,hbb,hm,⟨by omega,by omega⟩,by decide,by omega,by omega⟩|exact⟨⟨by omega,by omega⟩,hbb,hm,by decide,by omega,by omega⟩) ?_;exact rd 3 (by omega) (by omega) (by rw[e1];rfl)
 ·have e1:=fs 3;have e2:I9 T s [n0,n1,n2,n3] (f 3) 3=if ZS T [n0,n1,n2]*s>0 then L6 (f 3) [n0,n1,n2] (.bool true)else f 3:=rfl
  rw[e2]at e1;refine Uf [.t rfl] rfl ?_;refine Uk (S:=Nat) 4 (λL1 i=>(18,.v (.oi i))::(10,.v (.oi (if i<=3 then(i:Int)else(i:Int)-1)))::L1) (λi=>[.mpb (f 3),.mpb T,.blk 95 [.int .i64 n0,.int .i64 n1,.int .i64 n2,.int .i64 n3],.blk 84 [.int .i64 (if 1<=i then n0 else 0),.int .i64 (if 2<=i then n1 else 0),.int .i64 (if 3<=i then n2 else 0)]]) (λi=>4-i) (λi=>i<=4) 0 (by decide) rfl rfl λi hi=>?_
  rcases(show i=0\/i=1\/i=2\/i=3\/i=4 by omega)with rfl|rfl|rfl|rfl|rfl
  ·refine Uf [.t rfl,.i 0,.t rfl,.i 0] rfl ?_ (by simp[U3]);exact rd 1 (by omega) (by omega) rfl
  ·refine Uf [.t rfl,.i 1,.t rfl,.i 1] rfl ?_ (by simp[U3]);exact rd 2 (by omega) (by omega) rfl
  ·refine Uf [.t rfl,.i 2,.t rfl,.i 2] rfl ?_ (by simp[U3]);exact rd 3 (by omega) (by omega) rfl
  ·refine Uf [.t rfl,.i 3,.f rfl] rfl ?_ (by simp[U3]);exact rd 4 (by omega) (by omega) rfl
  ·have hbb:=hb [n0,n1,n2] s (by omega);by_cases hc:ZS T [n0,n1,n2]*s>0
   ·rw[if_pos hc]at e1;refine go tt [.f rfl,.f rfl,.t (decide_eq_true hc)] rfl (by simp only[U3];first|exact⟨⟨by omega,by omega⟩,hbb,hm,⟨by omega,by omega⟩,by decide,by omega,by omega⟩|exact⟨⟨by omega,by omega⟩,hbb,hm,by decide,by omega,by omega⟩) ?_;exact rd 4 (by omega) (by omega) (by rw[e1];rfl)
   ·rw[if_neg hc]at e1;refine go tt [.f rfl,.f rfl,.f (decide_eq_false hc)] rfl (by simp only[U3];first|exact⟨⟨by omega,by omega⟩,hbb,hm,⟨by omega,by omega⟩,by decide,by omega,by omega⟩|exact⟨⟨by omega,by omega⟩,hbb,hm,by decide,by omega,by omega⟩) ?_;exact rd 4 (by omega) (by omega) (by rw[e1];rfl)
 ·exact Uj [] [0,1] [.f rfl] rfl
set_option maxHeartbeats 8000000 in
theorem IH{l:List Pt}{a:Tm}{c:Cr}{r1:Uu}(hl:∀p∈l,Sc p.c)(hn:l.length≤6)(ha:Va a):U6 prog 199 [.one (.ow 0 0),.agg (ta a)] [.blk 229 (Hn c (U0 l) r1)] [.one (.row (Fl (wQ l a)))] [.blk 229 (Hn c (U0 l) (pS l a))]:=by
 have hwl:=Az l;have cw:=mZ (l:=l) (Qaw hl) (by omega);have hgb:=Qh2 a;unfold pS wQ gZ SS;obtain⟨sg',hsg⟩:∃s,s=Fq a:=⟨_,rfl⟩;obtain⟨W,hW⟩:=nmE (H7 l);have hWs:∀p∈W,Sc p.c:=λp hp=>hl p (Tp (by rw[<-hW];exact hp))
 have mR:=λ{x y z:Pt} (hx:x∈W) (hy:y∈W) (hz:z∈W)=>lF (t:=a) (hWs x hx) (hWs y hy) (hWs z hz) ha
 have mC:=λ{x y z u:Pt} (hx:x∈W) (hy:y∈W) (hz:z∈W) (hu:u∈W)=>Qm1 (t:=a) (hWs x hx) (hWs y hy) (hWs z hz) (hWs u hu) ha
 rw[<-hW]at cw hwl ⊢;rw[<-hsg]at hgb mR mC ⊢;have hW6:W.length<=6:=by omega
 have hTi:=λps=>Qco hgb ps
 have hcp:(W.map Fb).length=W.length:=by simp
 have hcp2:=G7 W;have hdr:∀i,(U0 W).drop i=U0 (W.drop i):=λi=>by unfold U0;rw[List.map_drop]
 have hel:∀z∈U0 W,z.length=5:=λz hz=>by obtain⟨p,_,rfl⟩:=Q9.1 hz;rfl
 have s7:∀x:Ct,∀y∈[Lx x],y.length=7:=λx y hy=>by rw[Qk.1 hy];rfl
 have s3:∀x:P3,∀y∈[trL x],y.length=3:=λx y hy=>by rw[Qk.1 hy];rfl
 obtain⟨T,hT⟩:=nmE (Ax (ZM sg' (Rj W)));obtain⟨G,hG⟩:=nmE (Oc T (VS sg' (O4 W)));have hTI:kR T:=by rw[hT];exact hTi _
 have hTm:Ql7 T:=λk=>(hTI k).1
 have hGB:Qd2 G:=λk=>by rw[hG];exact pT _ _ _ k
 rw[<-hT,<-hG];have e0:(Fl (((C0 0 W).map (PM sg'))))=[]:=rfl;refine Fv func199 rfl ?_;refine Uf [.k cw,.o 6 99 7] rfl ?_;refine Uk (S:=Nat) 4 (λL1 i=>(42,.v (.oi i))::(6,.v (.one (.orow 2 7 none)))::L1) (λi=>[.blk 229 (Hn c (U0 l) r1),.blk 105 (ta a),.row false 99 7 (Fl ((C0 i W).map (PM sg'))),.mpb (Ax (ZM sg' (C0 i W)))]) (λi=>W.length-i) (λi=>i<=W.length) 0 (Qh _) rfl rfl λi hi=>?_
 by_cases hlt:i<W.length
 ·obtain⟨x,hx⟩:=gxE (l:=W) (i:=i) hlt;have xm:=Qa hx;obtain⟨V,hV⟩:=nmE (W.drop (i+1));have hVl:V.length=W.length-(i+1):=by rw[hV,Q8]
  have hVm:∀p∈V,p∈W:=λp hp=>by rw[hV]at hp;exact Qz hp
  have eV:(U0 W).drop (i+1)=U0 V:=by rw[hdr,<-hV]
  rw[<-LH W x i];refine go tt [.T,.x (Sf hx),.r 49 (eI (b:=((i+1:Nat):Int)) (by omega)),.i (i+1),.r 50 (UM eV)] rfl (by simp only[U3];(repeat' apply And.intro) <;> first|omega|exact hel) ?_;have hVr:=G7 V;refine Uk (S:=Nat) 5 (λL1 j=>(52,.v (.oi j))::(6,.v (.one (.orow 2 7 none)))::L1) (λj=>[.blk 229 (Hn c (U0 l) r1),.blk 105 (ta a),.row false 99 7 (Fl ((p3j W x i j).map (PM sg'))),.mpb (Ax (ZM sg' (p3j W x i j))),.blk 40 (Fb x)]) (λj=>V.length-j) (λj=>j<=V.length) 0 (Qh _) rfl rfl λj hj=>?_
  by_cases hltj:j<V.length
  ·obtain⟨y,hy⟩:=gxE (l:=V) (i:=j) hltj;have ym:=hVm y (Qa hy);have hy':(W.drop (i+1))[j]? = some y:=by rw[<-hV];exact hy
   obtain⟨U,hU⟩:=nmE (V.drop (j+1));have hUl:U.length=V.length-(j+1):=by rw[hU,Q8]
   have hUm:∀p∈U,p∈W:=λp hp=>by rw[hU]at hp;exact hVm p (Qz hp)
   have hUW:U=(W.drop (i+1)).drop (j+1):=by rw[hU,hV]
   have eU:(U0 W).drop (i+j+2)=U0 U:=by rw[hdr,hU,hV,Jx];congr 2;omega
   have hUr:=G7 U;rw[<-LP W x y i j];refine go tt [.T,.x (Sf hy),.r 61 (eI (b:=((i+j+2:Nat):Int)) (by omega)),.i (i+j+2),.r 62 (UM eU)] rfl (by simp only[U3];(repeat' apply And.intro) <;> first|omega|exact hel) ?_;refine Uk (S:=Nat) 6 (λL1 k=>(64,.v (.oi k))::(6,.v (.one (.orow 2 7 none)))::L1) (λk=>[.blk 229 (Hn c (U0 l) r1),.blk 105 (ta a),.row false 99 7 (Fl ((qM W x y i j k).map (PM sg'))),.mpb (Ax (ZM sg' (qM W x y i j k))),.blk 40 (Fb x),.blk 40 (Fb y)]) (λk=>U.length-k) (λk=>k<=U.length) 0 (Qh _) rfl rfl λk hk=>?_
   by_cases hltk:k<U.length
   ·obtain⟨z,hz⟩:=gxE (l:=U) (i:=k) hltk;have zm:=hUm z (Qa hz);have hlen:=oZ hW6 (k:=k) hx hy';have en:=LR (x:=x) (y:=y) (by rw[<-hUW];exact hz);have et:=dG sg' (qM W x y i j k) (x,y,z);rw[<-en]at et;refine go tt [.T,.x (Sf hz),.k (mR xm ym zm),.s (sz:=7) (s7 _)] rfl (by simp[U3,Be] <;> omega) ?_;exact rd (k+1) (by omega) hltk (by rw[et,en,Yj];simp[Fl];rfl)
   ·have e:=yB (x:=x) (k:=k) hy' (by rw[<-hUW];omega);rw[e];refine go tt [.F] rfl (by simp[U3] <;> omega) ?_;exact rd (j+1) (by omega) hltj rfl
  ·have e:=yN (x:=x) (j:=j) hx (by rw[<-hV];omega);rw[e];refine go tt [.F] rfl (by simp[U3] <;> omega) ?_;exact rd (i+1) (by omega) hlt rfl
 rw[Qap (show i=W.length by omega),<-hT];have hiW:¬i<W.length:=hlt;clear hlt;obtain⟨C3,hC3⟩:=nmE ((Rj W).map (PM sg'));have hC3l:C3.length<=20:=by rw[hC3,Zb];exact(YO hW6).1
 rw[<-hC3];refine Uf [.F] rfl ?_;have eC:Fl C3=Fl (C3++(Et 0 W).map (HH sg')):=by rw[show Et 0 W=[] from rfl,X7,Zv]
 rw[eC];refine Uk (S:=Nat) 5 (λL1 i=>(97,.v (.oi i))::(6,.v (.one (.orow 2 7 none)))::L1) (λi=>[.blk 229 (Hn c (U0 l) r1),.blk 105 (ta a),.row false 99 7 (Fl (C3++(Et i W).map (HH sg'))),.mpb T,.mpb (Oc T (VS sg' (Et i W)))]) (λi=>W.length-i) (λi=>i<=W.length) 0 (Qh _) rfl rfl λi hi=>?_
 by_cases hlt:i<W.length
 ·obtain⟨x,hx⟩:=gxE (l:=W) (i:=i) hlt;have xm:=Qa hx;obtain⟨V,hV⟩:=nmE (W.drop (i+1));have hVl:V.length=W.length-(i+1):=by rw[hV,Q8]
  have hVm:∀p∈V,p∈W:=λp hp=>by rw[hV]at hp;exact Qz hp
  have eV:(U0 W).drop (i+1)=U0 V:=by rw[hdr,<-hV]
  have hVr:=G7 V;rw[<-Qji W x i];refine go tt [.T,.x (Sf hx),.r 104 (eI (b:=((i+1:Nat):Int)) (by omega)),.i (i+1),.r 105 (UM eV)] rfl (by simp only[U3];(repeat' apply And.intro) <;> first|omega|exact hel) ?_;refine Uk (S:=Nat) 6 (λL1 j=>(107,.v (.oi j))::(6,.v (.one (.orow 2 7 none)))::L1) (λj=>[.blk 229 (Hn c (U0 l) r1),.blk 105 (ta a),.row false 99 7 (Fl (C3++(p4j W x i j).map (HH sg'))),.mpb T,.mpb (Oc T (VS sg' (p4j W x i j))),.blk 40 (Fb x)]) (λj=>V.length-j) (λj=>j<=V.length) 0 (Qh _) rfl rfl λj hj=>?_
  by_cases hltj:j<V.length
  ·obtain⟨y,hy⟩:=gxE (l:=V) (i:=j) hltj;have ym:=hVm y (Qa hy);have hy':(W.drop (i+1))[j]? = some y:=by rw[<-hV];exact hy
   obtain⟨U,hU⟩:=nmE (V.drop (j+1));have hUl:U.length=V.length-(j+1):=by rw[hU,Q8]
   have hUm:∀p∈U,p∈W:=λp hp=>by rw[hU]at hp;exact hVm p (Qz hp)
   have hUW:U=(W.drop (i+1)).drop (j+1):=by rw[hU,hV]
   have eU:(U0 W).drop (i+j+2)=U0 U:=by rw[hdr,hU,hV,Jx];congr 2;omega
   have hUr:=G7 U;rw[<-Qjj W x y i j];refine go tt [.T,.x (Sf hy),.r 116 (eI (b:=((i+j+2:Nat):Int)) (by omega)),.i (i+j+2),.r 117 (UM eU)] rfl (by simp only[U3];(repeat' apply And.intro) <;> first|omega|exact hel) ?_;refine Uk (S:=Nat) 7 (λL1 k=>(119,.v (.oi k))::(6,.v (.one (.orow 2 7 none)))::L1) (λk=>[.blk 229 (Hn c (U0 l) r1),.blk 105 (ta a),.row false 99 7 (Fl (C3++(p4k W x y i j k).map (HH sg'))),.mpb T,.mpb (Oc T (VS sg' (p4k W x y i j k))),.blk 40 (Fb x),.blk 40 (Fb y)]) (λk=>U.length-k) (λk=>k<=U.length) 0 (Qh _) rfl rfl λk hk=>?_
   by_cases hltk:k<U.length
   ·obtain⟨z,hz⟩:=gxE (l:=U) (i:=k) hltk;have zm:=hUm z (Qa hz);have hz':((W.drop (i+1)).drop (j+1))[k]? = some z:=by rw[<-hUW];exact hz
    obtain⟨R,hR⟩:=nmE (U.drop (k+1));have hRl:R.length=U.length-(k+1):=by rw[hR,Q8]
    have hRm:∀p∈R,p∈W:=λp hp=>by rw[hR]at hp;exact hUm p (Qz hp)
    have hRW:R=((W.drop (i+1)).drop (j+1)).drop (k+1):=by rw[hR,hUW]
    have eR:(U0 W).drop (i+j+k+3)=U0 R:=by rw[hdr,hRW,Jx,Jx];congr 2;omega
    have hRr:=G7 R;rw[<-Qjl W x y z i j k];refine go tt [.T,.x (Sf hz),.r 130 (eI (b:=((i+j+k+3:Nat):Int)) (by omega)),.i (i+j+k+3),.r 131 (UM eR)] rfl (by simp only[U3];(repeat' apply And.intro) <;> first|omega|exact hel) ?_;refine Uk (S:=Nat) 8 (λL1 m=>(133,.v (.oi m))::(6,.v (.one (.orow 2 7 none)))::L1) (λm=>[.blk 229 (Hn c (U0 l) r1),.blk 105 (ta a),.row false 99 7 (Fl (C3++(p4m W x y z i j k m).map (HH sg'))),.mpb T,.mpb (Oc T (VS sg' (p4m W x y z i j k m))),.blk 40 (Fb x),.blk 40 (Fb y),.blk 40 (Fb z)]) (λm=>R.length-m) (λm=>m<=R.length) 0 (Qh _) rfl rfl λm hm=>?_
    by_cases hltm:m<R.length
    ·obtain⟨u,hu⟩:=gxE (l:=R) (i:=m) hltm;have um:=hRm u (Qa hu);have hlen:=Qpp hW6 (m:=m) hx hy' hz';have en:=Qjk (x:=x) (y:=y) (z:=z) (by rw[<-hRW];exact hu);have et:=nV sg' T (p4m W x y z i j k m) (x,y,z,u);rw[<-en]at et;have cf:=Qt1 (F:=Oc T (VS sg' (p4m W x y z i j k m))) (s:=(qF sg' x y z u).want) (n0:=x.id) (n1:=y.id) (n2:=z.id) (n3:=u.id) hTI (hgb _);refine go tt [.T,.x (Sf hu),.k (mC xm ym zm um),.s (sz:=7) (s7 _),.c [4,3] cf] rfl (by simp[U3,Be] <;> omega) ?_;exact rd (m+1) (by omega) hltm (by rw[et,en,Yj,<-Ze];simp[Fl];rfl)
    ·have e:=Qpo (x:=x) (y:=y) (m:=m) hz' (by rw[<-hRW];omega);rw[e];refine go tt [.F] rfl (by simp[U3] <;> omega) ?_;exact rd (k+1) (by omega) hltk rfl
   ·have e:=Qpn (x:=x) (k:=k) hy' (by rw[<-hUW];omega);rw[e];refine go tt [.F] rfl (by simp[U3] <;> omega) ?_;exact rd (j+1) (by omega) hltj rfl
  ·have e:=Qpm (x:=x) (j:=j) hx (by rw[<-hV];omega);rw[e];refine go tt [.F] rfl (by simp[U3] <;> omega) ?_;exact rd (i+1) (by omega) hlt rfl
 rw[Qp6 (show i=W.length by omega),<-hG];obtain⟨C4,hC4⟩:=nmE (C3++(O4 W).map (HH sg'));rw[<-hC4];refine Uf [.F] rfl ?_;refine ozM 0 13 84 3 rfl rfl ?_;have eT:([]:Uu)=I0 ((C0 0 W).filter (jL T G)):=rfl;rw[eT];refine Uk (S:=Nat) 6 (λL1 i=>(174,.v (.oi i))::L1) (λi=>[.blk 229 [.bool true,pl c.now.p,sg c.now.lo.num,mg c.now.lo.num,sg (c.now.lo.den:Int),mg (c.now.lo.den:Int),sg c.now.hi.num,mg c.now.hi.num,sg (c.now.hi.den:Int),mg (c.now.hi.den:Int),.row (C9 c.l),.int .i64 c.ev,.row (U0 l),.orow 5 3 none],.blk 105 (ta a),.row false 99 7 (Fl C4),.mpb T,.mpb G,.row false 84 3 (I0 ((C0 i W).filter (jL T G)))]) (λi=>W.length-i) (λi=>i<=W.length) 0 (Qh _) rfl rfl λi hi=>?_
 by_cases hlt:i<W.length
 ·obtain⟨x,hx⟩:=gxE (l:=W) (i:=i) hlt;obtain⟨V,hV⟩:=nmE (W.drop (i+1));have hVl:V.length=W.length-(i+1):=by rw[hV,Q8]
  have eV:(U0 W).drop (i+1)=U0 V:=by rw[hdr,<-hV]
  have hVr:=G7 V;rw[<-LH W x i];refine go tt [.T,.x (Sf hx),.r 181 (eI (b:=((i+1:Nat):Int)) (by omega)),.i (i+1),.r 182 (UM eV)] rfl (by simp only[U3];(repeat' apply And.intro) <;> first|omega|exact hel) ?_;refine Uk (S:=Nat) 7 (λL1 j=>(184,.v (.oi j))::L1) (λj=>[.blk 229 [.bool true,pl c.now.p,sg c.now.lo.num,mg c.now.lo.num,sg (c.now.lo.den:Int),mg (c.now.lo.den:Int),sg c.now.hi.num,mg c.now.hi.num,sg (c.now.hi.den:Int),mg (c.now.hi.den:Int),.row (C9 c.l),.int .i64 c.ev,.row (U0 l),.orow 5 3 none],.blk 105 (ta a),.row false 99 7 (Fl C4),.mpb T,.mpb G,.row false 84 3 (I0 ((p3j W x i j).filter (jL T G))),.blk 40 (Fb x)]) (λj=>V.length-j) (λj=>j<=V.length) 0 (Qh _) rfl rfl λj hj=>?_
  by_cases hltj:j<V.length
  ·obtain⟨y,hy⟩:=gxE (l:=V) (i:=j) hltj;have hy':(W.drop (i+1))[j]? = some y:=by rw[<-hV];exact hy
   obtain⟨U,hU⟩:=nmE (V.drop (j+1));have hUl:U.length=V.length-(j+1):=by rw[hU,Q8]
   have hUW:U=(W.drop (i+1)).drop (j+1):=by rw[hU,hV]
   have eU:(U0 W).drop (i+j+2)=U0 U:=by rw[hdr,hU,hV,Jx];congr 2;omega
   have hUr:=G7 U;rw[<-LP W x y i j];refine go tt [.T,.x (Sf hy),.r 193 (eI (b:=((i+j+2:Nat):Int)) (by omega)),.i (i+j+2),.r 194 (UM eU)] rfl (by simp only[U3];(repeat' apply And.intro) <;> first|omega|exact hel) ?_;refine Uk (S:=Nat) 8 (λL1 k=>(196,.v (.oi k))::L1) (λk=>[.blk 229 [.bool true,pl c.now.p,sg c.now.lo.num,mg c.now.lo.num,sg (c.now.lo.den:Int),mg (c.now.lo.den:Int),sg c.now.hi.num,mg c.now.hi.num,sg (c.now.hi.den:Int),mg (c.now.hi.den:Int),.row (C9 c.l),.int .i64 c.ev,.row (U0 l),.orow 5 3 none],.blk 105 (ta a),.row false 99 7 (Fl C4),.mpb T,.mpb G,.row false 84 3 (I0 ((qM W x y i j k).filter (jL T G))),.blk 40 (Fb x),.blk 40 (Fb y)]) (λk=>U.length-k) (λk=>k<=U.length) 0 (Qh _) rfl rfl λk hk=>?_
   by_cases hltk:k<U.length
   ·obtain⟨z,hz⟩:=gxE (l:=U) (i:=k) hltk;have hlen:=oZ hW6 (k:=k) hx hy';have en:=LR (x:=x) (y:=y) (by rw[<-hUW];exact hz);have hfl:=Y3 (jL T G) (qM W x y i j k);have htl:=EO ((qM W x y i j k).filter (jL T G));by_cases h1:ZS T [x.id,y.id,z.id]≠0
    ·by_cases h2:BQ G [x.id,y.id,z.id]=true
     ·have ef:jL T G (x,y,z)=false:=by unfold jL nP;simp[h2]
      have eF:=Qhn (ps:=qM W x y i j k) ef;rw[<-en]at eF;refine go tt [.T,.x (Sf hz),.g 211 true (decide_eq_true h1),.f (by rw[h2];rfl)] rfl (by simp only[U3];(repeat' apply And.intro) <;> first|exact hTm|exact hGB|omega|(simp only[Q5,Jg];omega)) ?_;exact rd (k+1) (by omega) hltk (by rw[eF];rfl)
     ·have h2:BQ G [x.id,y.id,z.id]=false:=by simpa using h2
      have ef:jL T G (x,y,z)=true:=by unfold jL nP;simp[h2,h1]
      have eF:=Qu1 (ps:=qM W x y i j k) ef;rw[<-en]at eF;refine go tt [.T,.x (Sf hz),.g 211 true (decide_eq_true h1),.t (by rw[h2];rfl),.s (sz:=3) (s3 (x,y,z))] rfl (by simp only[U3];(repeat' apply And.intro) <;> first|exact hTm|exact hGB|omega|(simp only[Q5,Jg];omega)) ?_;exact rd (k+1) (by omega) hltk (by rw[eF];simp[I0];rfl)
    ·have ef:jL T G (x,y,z)=false:=by unfold jL nP;simp[h1]
     have eF:=Qhn (ps:=qM W x y i j k) ef;rw[<-en]at eF;refine go tt [.T,.x (Sf hz),.g 211 false (decide_eq_false h1),.f rfl] rfl (by simp only[U3];(repeat' apply And.intro) <;> first|exact hTm|exact hGB|omega|(simp only[Q5,Jg];omega)) ?_;exact rd (k+1) (by omega) hltk (by rw[eF];rfl)
   ·have e:=yB (x:=x) (k:=k) hy' (by rw[<-hUW];omega);rw[e];refine go tt [.F] rfl (by simp[U3] <;> omega) ?_;exact rd (j+1) (by omega) hltj rfl
  ·have e:=yN (x:=x) (j:=j) hx (by rw[<-hV];omega);rw[e];refine go tt [.F] rfl (by simp[U3] <;> omega) ?_;exact rd (i+1) (by omega) hlt rfl
 rw[Qap (show i=W.length by omega)];rw[hC4,hC3];exact Uj [2,5] [0] [.F] rfl
theorem Qxt{T:Nat}{t:Rat}{Bc:Tm->List Ct}{Br:Tm->Uu}{r0:Uu}(ht:Qs 1640000 t)(hB:BuildOk Bc)
 (hb:∀a c r1,Va a->CrOk c->U6 prog 199 [.one (.ow 0 0),.agg (ta a)] [.blk T (Hn c r0 r1)] [.one (.row (Fl (Bc a)))] [.blk T (Hn c r0 (Br a))])
 {K:Nat} {c c':Cr} {r1 r1':Uu} {n:Int} (hc:CrOk c) (hev:0<=c.ev/\c.ev+K<=1000000000000000000) (h:Fo c.now t<=0) (hg:WE Bc Br t K c r1 0=some (c',r1',n)) :
 U6 prog 396 [.one (.ow 0 0),.agg (rl t),.one (.ofn 199 [.ow 0 0] [])] [.blk T (Hn c r0 r1)] [.oi n,.oi 0] [.blk T (Hn c' r0 r1')]:=by
 have qt:Qb t:=ht.mono (by decide);have c1:=Dh hc.n.tb qt;refine Fv func396 rfl ?_;refine Uf [.c [0] (QV hc.n),.k c1,.f (by simpa using h)] rfl ?_;refine Uk (S:=Nat×Cr×Uu×Int) 2 (λL1 s=>(8,.v (.oi s.2.2.2))::L1) (λs=>[.blk T (Hn s.2.1 r0 s.2.2.1),.blk 42 (rl t)]) (λs=>s.1) (λs=>CrOk s.2.1/\(0<=s.2.1.ev/\s.2.1.ev+s.1<=1000000000000000000)/\(0<=s.2.2.2/\s.2.2.2+s.1<=1000000000000000000)/\WE Bc Br t s.1 s.2.1 s.2.2.1 s.2.2.2=some (c',r1',n)) (K,c,r1,0) ⟨hc,hev,⟨Int.le_refl 0,by dsimp only;omega⟩,hg⟩ rfl rfl λ⟨k,x,r,m⟩ ⟨j1,j2,j3,j4⟩=>?_
 dsimp only at j1 j2 j3 j4 ⊢;cases k with
 |zero=>cases j4
 |
  succ k =>
  simp only[WE]at j4;obtain⟨ws,w1,j4⟩:=Qd.1 j4;obtain⟨o,o1,j4⟩:=Qd.1 j4;have cn:=MQ (T:=T) (r0:=r0) (r1:=r) j1 w1 o1;have ca:=VC (U4 t.num) (U4 (t.den:Int)) (Qc ht.1 (by decide)) (Qc ht.2 (by decide)) (by rw[Sw];exact ht.mono (by decide));rw[Sw]at ca;cases o with
  |
   none =>
   injection j4 with j4;injection j4 with e1 j4;injection j4 with e2 e3;subst e1;subst e2;subst e3;exact Uj [] [0] [.c [0] cn,.g 25 true rfl,.t rfl,.k ca] rfl
  |
   some a =>
   have ha:=LF j1 w1 o1;dsimp only at j4;have cc:=Dh ha.tb qt;by_cases h0:0<Fo a t
   ·rw[if_pos h0]at j4;injection j4 with j4;injection j4 with e1 j4;injection j4 with e2 e3;subst e1;subst e2;subst e3;exact Uj [] [0] [.c [0] cn,.g 25 false rfl,.k cc,.t (by simpa using h0),.k ca] rfl
   ·rw[if_neg h0]at j4;obtain⟨w2,l1,j4⟩:=Qd.1 j4;have j1':=El j1 w1;have cl:=S8 (b:=a) (l:=[]) ha.tb (λt ht=>by cases ht) (by decide) rfl;have cb:=hb a { x with l:=ws } r ha j1';have cy:=UX (T:=T) (r0:=r0) (r1:=Br a) j1' ha (hB.p a ha) (hB.n a ha) l1;have hf:decide (0<Fo a t)=false:=by simpa using h0
    refine Ug [.c [0] cn,.g 25 false rfl,.k cc,.f hf,.k cl,.c [0] cb,.c [0] cy] rfl ?_;exact rd (k,⟨a,w2,x.ev+1⟩,Br a,m+1) (by dsimp only;omega) ⟨lay_ok _ j1' ha (hB.p a ha) (hB.n a ha) l1,by dsimp only;omega,by dsimp only;omega,j4⟩ rfl
theorem Qth{t:Rat}{l:List Pt}{K:Nat}{c c':Cr}{r1 r1':Uu}{n:Int}(ht:Qs 1640000 t)(hl:∀p∈l,Sc p.c)(hn:l.length≤6)(hc:CrOk c)(hev:0≤c.ev/\c.ev+K≤1000000000000000000)(h:Fo c.now t≤0)(hg:WE (wQ l) (pS l) t K c r1 0=some (c',r1',n)) :
 U6 prog 432 [.one (.ow 0 0),.agg (rl t)] [.blk 229 (Hn c (U0 l) r1)] [.oi n,.oi 0] [.blk 229 (Hn c' (U0 l) r1')]:=by
 have cg:=Qxt (T:=229) (r0:=U0 l) ht (pJ hl hn) (λa c r1 ha _=>IH (c:=c) (r1:=r1) hl hn ha) hc hev h hg;refine Fv func432 rfl ?_;exact Uj [] [0] [.k (Nx (ht.mono (by decide))),.c [0] cg] rfl
theorem pD{c:Cr}{r0:Uu}{ts:List P3}(ht:ts.length<=1000):U6 prog 83 [.one (.ow 0 0)] [.blk 229 (Hn c r0 (I0 ts))] [.one (.row (I0 ts))] [.blk 229 (Hn c r0 (I0 ts))]:=by
 have hl:=EO ts;have h3:∀y∈I0 ts,y.length=3:=λy hy=>by obtain⟨m,_,rfl⟩:=Q9.1 hy;rfl
 refine Fv func83 rfl ?_;exact Uj [1] [0] [.s (sz:=3) h3] rfl (by simp[U3] <;> omega)

theorem BX{c:Cr}{l l':List Pt}{r1:Uu}{ws:List Wt}(hc:CrOk c)(hl:∀p∈l',Sc p.c)(hn:l'.length≤6)(h:Tl c.l c.now (Fw (wQ l' c.now))=some ws) :
 U6 prog 436 [.one (.ow 0 0),.agg [pts l'],.oi 0] [.blk 229 (Hn c (U0 l) r1)] [.oi 0] [.blk 229 (Hn ⟨c.now,ws,c.ev⟩ (U0 l') (pS l' c.now))]:=by
 have hB:=pJ hl hn;have cn:=QV (T:=229) (c:=c) (r0:=U0 l') (r1:=r1) hc.n;have cb:=IH (c:=c) (r1:=r1) hl hn hc.n;have cg:=YZ (T:=229) (r0:=U0 l') (r1:=pS l' c.now) hc hc.n (I4 hc.n) (J7 0) (hB.p _ hc.n) (hB.n _ hc.n) h;refine Fv func436 rfl ?_;exact Uj [] [0] [.f rfl,.c [0] cn,.c [0] cb,.c [0] cg] rfl
theorem Qmv{lx ly:Uu}{px py:Uo}{x y:LV}{d id:Int}{c:Cr}{l:List Pt}{r1:Uu}{ws:List Wt}(hx:IsInts lx px)(hy:IsInts ly py)(hd:Gd x y d)(hk:Cs 4294967294 1073741824 (Crv.mk px py d))(hll:l.length<=900)
 (he:WU l ⟨Crv.norm (Crv.mk px py d),id⟩=0) (hc:CrOk c) (hl:∀p∈put l ⟨Crv.norm (Crv.mk px py d),id⟩,Sc p.c) (hn:(put l ⟨Crv.norm (Crv.mk px py d),id⟩).length≤6) (h:Tl c.l c.now (Fw (wQ (put l ⟨Crv.norm (Crv.mk px py d),id⟩) c.now))=some ws) :
 U6 prog 434 [.one (.ow 0 0),.agg [.row lx,.row ly,x,y,.int .i64 id]] [.blk 229 (Hn c (U0 l) r1)] [.oi 0] [.blk 229 (Hn ⟨c.now,ws,c.ev⟩ (U0 (put l ⟨Crv.norm (Crv.mk px py d),id⟩)) (pS (put l ⟨Crv.norm (Crv.mk px py d),id⟩) c.now))]:=by
 have cp:=wU (l:=l) (id:=id) hx hy hd hk (by omega);rw[if_pos he,he]at cp;have cw:=BX (l:=l) (r1:=r1) hc hl hn h;refine Fv func434 rfl ?_;obtain⟨b,l',rfl,rfl,_⟩:=hd;exact Uj [] [0] [.k cp,.c [0] cw] rfl
theorem Qeo{lx ly:Uu}{px py:Uo}{x y:LV}{d id:Int}{c:Cr}{l l':List Pt}{r1:Uu}{ws:List Wt}(hx:IsInts lx px)(hy:IsInts ly py)(hd:Gd x y d)(hk:Cs 4294967294 1073741824 (Crv.mk px py d))(hll:l.length<=6)(h:has l id=true)(hc:CrOk c)
 (hl':l'=l.set (Rx l id) (Pt.mk (Crv.norm (Crv.mk px py d)) id)) (hs:∀p∈l',Sc p.c) (hw:Tl c.l c.now (Fw (wQ l' c.now))=some ws) :
 U6 prog 435 [.one (.ow 0 0),.agg [.row lx,.row ly,x,y,.int .i64 id]] [.blk 229 (Hn c (U0 l) r1)] [.oi 0] [.blk 229 (Hn ⟨c.now,ws,c.ev⟩ (U0 l') (pS l' c.now))]:=by
 have ct1:=UK (l:=l) hx hy hd hk (by omega) h;rw[<-hl']at ct1;have cw:=BX (c:=c) (l:=l) (l':=l') (r1:=r1) hc hs (by rw[hl',Xe];omega) hw;obtain⟨b,r,rfl,rfl,_⟩:=hd;refine Fv func435 rfl ?_;exact Uj [] [0] [.k ct1,.c [0] cw] rfl
theorem Qen{id:Int}{c:Cr}{l l':List Pt}{r1:Uu}{ws:List Wt}(hll:l.length<=6)(h:has l id=true)(hc:CrOk c)
 (hl':l'=l.take (Rx l id)++l.drop (Rx l id+1)) (hs:∀p∈l',Sc p.c) (hw:Tl c.l c.now (Fw (wQ l' c.now))=some ws) :
 U6 prog 433 [.one (.ow 0 0),.oi id] [.blk 229 (Hn c (U0 l) r1)] [.oi 0] [.blk 229 (Hn ⟨c.now,ws,c.ev⟩ (U0 l') (pS l' c.now))]:=by
 have ct1:=UY (l:=l) (id:=id) (by omega) h;rw[<-hl']at ct1;have cw:=BX (c:=c) (l:=l) (l':=l') (r1:=r1) hc hs (by rw[hl',Qx,Qr,Q8];omega) hw;refine Fv func433 rfl ?_;exact Uj [] [0] [.k ct1,.c [0] cw] rfl
theorem Qa9{c:Cr}{r0:Uu}{r1:Uu}:U6 prog 67 [.one (.ow 0 0)] [.blk 229 (Hn c r0 r1)] [.one (.ow 1 0)] [.blk 229 (Hn c r0 r1),.blk 229 (Hn c r0 r1)]:=by
 refine Fv func67 rfl ?_;exact Uj [] [0,1] [] rfl
theorem Qnb{lx ly:Uu}{px py:Uo}{x y:LV}{d id:Int}{c:Cr}{l l':List Pt}{r1:Uu}{ws:List Wt}(hx:IsInts lx px)(hy:IsInts ly py)(hd:Gd x y d)(hk:Cs 4294967294 1073741824 (Crv.mk px py d))(hll:l.length<=900)(h:has l id=true)(hc:CrOk c)
 (hl':l'=l.set (Rx l id) (Pt.mk (Crv.norm (Crv.mk px py d)) id)) (hs:∀p∈l',Sc p.c) (hw:Tl c.l c.now (Fw (JA l' c.now))=some ws) :
 U6 prog 394 [.one (.ow 0 0),.agg [.row lx,.row ly,x,y,.int .i64 id]] [.blk 220 (Hn c (U0 l) r1)] [.oi 0] [.blk 220 (Hn ⟨c.now,ws,c.ev⟩ (U0 l') (IF l' c.now))]:=by
 have ct1:=UK (l:=l) hx hy hd hk (by omega) h;rw[<-hl']at ct1;have cw:=xP (c:=c) (l:=l) (l':=l') (r1:=r1) hc hs (by rw[hl',Xe];omega) hw;obtain⟨b,r,rfl,rfl,_⟩:=hd;refine Fv func394 rfl ?_;exact Uj [] [0] [.k ct1,.c [0] cw] rfl
theorem Qm9{id:Int}{c:Cr}{l l':List Pt}{r1:Uu}{ws:List Wt}(hll:l.length<=900)(h:has l id=true)(hc:CrOk c)
 (hl':l'=l.take (Rx l id)++l.drop (Rx l id+1)) (hs:∀p∈l',Sc p.c) (hw:Tl c.l c.now (Fw (JA l' c.now))=some ws) :
 U6 prog 390 [.one (.ow 0 0),.oi id] [.blk 220 (Hn c (U0 l) r1)] [.oi 0] [.blk 220 (Hn ⟨c.now,ws,c.ev⟩ (U0 l') (IF l' c.now))]:=by
 have ct1:=UY (l:=l) (id:=id) (by omega) h;rw[<-hl']at ct1;have cw:=xP (c:=c) (l:=l) (l':=l') (r1:=r1) hc hs (by rw[hl',Qx,Qr,Q8];omega) hw;refine Fv func390 rfl ?_;exact Uj [] [0] [.k ct1,.c [0] cw] rfl
theorem Qxu{T:Nat}{t:Rat}{Bc:Tm->List Ct}{Br:Tm->Uu}{r0:Uu}(ht:Qs 1640000 t)(hB:BuildOk Bc)
 (hb:∀a c r1,Va a->CrOk c->U6 prog 197 [.one (.ow 0 0),.agg (ta a)] [.blk T (Hn c r0 r1)] [.one (.row (Fl (Bc a)))] [.blk T (Hn c r0 (Br a))])
 {K:Nat} {c c':Cr} {r1 r1':Uu} {n:Int} (hc:CrOk c) (hev:0<=c.ev/\c.ev+K<=1000000000000000000) (h:Fo c.now t<=0) (hg:WE Bc Br t K c r1 0=some (c',r1',n)) :
 U6 prog 396 [.one (.ow 0 0),.agg (rl t),.one (.ofn 197 [.ow 0 0] [])] [.blk T (Hn c r0 r1)] [.oi n,.oi 0] [.blk T (Hn c' r0 r1')]:=by
 have qt:Qb t:=ht.mono (by decide);have c1:=Dh hc.n.tb qt;refine Fv func396 rfl ?_;refine Uf [.c [0] (QV hc.n),.k c1,.f (by simpa using h)] rfl ?_;refine Uk (S:=Nat×Cr×Uu×Int) 2 (λL1 s=>(8,.v (.oi s.2.2.2))::L1) (λs=>[.blk T (Hn s.2.1 r0 s.2.2.1),.blk 42 (rl t)]) (λs=>s.1) (λs=>CrOk s.2.1/\(0<=s.2.1.ev/\s.2.1.ev+s.1<=1000000000000000000)/\(0<=s.2.2.2/\s.2.2.2+s.1<=1000000000000000000)/\WE Bc Br t s.1 s.2.1 s.2.2.1 s.2.2.2=some (c',r1',n)) (K,c,r1,0) ⟨hc,hev,⟨Int.le_refl 0,by dsimp only;omega⟩,hg⟩ rfl rfl λ⟨k,x,r,m⟩ ⟨j1,j2,j3,j4⟩=>?_
 dsimp only at j1 j2 j3 j4 ⊢;cases k with
 |zero=>cases j4
 |
  succ k =>
  simp only[WE]at j4;obtain⟨ws,w1,j4⟩:=Qd.1 j4;obtain⟨o,o1,j4⟩:=Qd.1 j4;have cn:=MQ (T:=T) (r0:=r0) (r1:=r) j1 w1 o1;have ca:=VC (U4 t.num) (U4 (t.den:Int)) (Qc ht.1 (by decide)) (Qc ht.2 (by decide)) (by rw[Sw];exact ht.mono (by decide));rw[Sw]at ca;cases o with
  |
   none =>
   injection j4 with j4;injection j4 with e1 j4;injection j4 with e2 e3;subst e1;subst e2;subst e3;exact Uj [] [0] [.c [0] cn,.g 25 true rfl,.t rfl,.k ca] rfl
  |
   some a =>
   have ha:=LF j1 w1 o1;dsimp only at j4;have cc:=Dh ha.tb qt;by_cases h0:0<Fo a t
   ·rw[if_pos h0]at j4;injection j4 with j4;injection j4 with e1 j4;injection j4 with e2 e3;subst e1;subst e2;subst e3;exact Uj [] [0] [.c [0] cn,.g 25 false rfl,.k cc,.t (by simpa using h0),.k ca] rfl
   ·rw[if_neg h0]at j4;obtain⟨w2,l1,j4⟩:=Qd.1 j4;have j1':=El j1 w1;have cl:=S8 (b:=a) (l:=[]) ha.tb (λt ht=>by cases ht) (by decide) rfl;have cb:=hb a { x with l:=ws } r ha j1';have cy:=UX (T:=T) (r0:=r0) (r1:=Br a) j1' ha (hB.p a ha) (hB.n a ha) l1;have hf:decide (0<Fo a t)=false:=by simpa using h0
    refine Ug [.c [0] cn,.g 25 false rfl,.k cc,.f hf,.k cl,.c [0] cb,.c [0] cy] rfl ?_;exact rd (k,⟨a,w2,x.ev+1⟩,Br a,m+1) (by dsimp only;omega) ⟨lay_ok _ j1' ha (hB.p a ha) (hB.n a ha) l1,by dsimp only;omega,by dsimp only;omega,j4⟩ rfl
def Qxo(l:List Pt)(a:Tm):Cr:=⟨a,(Fw (AM l a)).map fresh,0⟩
theorem Qtj{t:Rat}{l:List Pt}{K:Nat}{c c':Cr}{r1 r1':Uu}{n:Int}(ht:Qs 1640000 t)(hl:∀p∈l,Sc p.c)(hn:l.length≤10)(hc:CrOk c)(hev:0≤c.ev/\c.ev+K≤1000000000000000000)(h:Fo c.now t≤0)(hg:WE (AM l) (brH l) t K c r1 0=some (c',r1',n)) :
 U6 prog 422 [.one (.ow 0 0),.agg (rl t)] [.blk 225 (Hn c (U0 l) r1)] [.oi n,.oi 0] [.blk 225 (Hn c' (U0 l) r1')]:=by
 have cg:=Qxu (T:=225) (r0:=U0 l) ht (pY hl hn) (λa c r1 ha _=>IT (c:=c) (r1:=r1) hl hn ha) hc hev h hg;refine Fv func422 rfl ?_;exact Uj [] [0] [.k (Nx (ht.mono (by decide))),.c [0] cg] rfl
theorem Qtk{c:Cr}{l s:List Pt}(hs:s.length<=1000000):U6 prog 82 [.one (.ow 0 0)] [.blk 225 (Hn c (U0 l) (U0 s))] [.one (ids (s.map (·.id)))] [.blk 225 (Hn c (U0 l) (U0 s))]:=by
 have hcl:=G7 s;refine Fv func82 rfl ?_;refine Uf [.o 3 3 1] rfl ?_;refine Uk (S:=Nat) 2 (λL1 i=>(11,.v (.oi i))::(3,.v (.one (.orow 1 1 none)))::L1) (λi=>[.blk 225 (Hn c (U0 l) (U0 s)),.row false 3 1 (((s.take i).map (·.id)).map λ(z:Int)=>[LV.int .i64 z])]) (λi=>s.length-i) (λi=>i<=s.length) 0 (Qh _) rfl rfl λi hi=>?_
 by_cases hlt:i<s.length
 ·obtain⟨p,hp⟩:=gxE (l:=s) (i:=i) hlt;have hg:(((s.take (i+1)).map (·.id)).map λ(z:Int)=>[LV.int .i64 z])=(((s.take i).map (·.id)).map λ(z:Int)=>[LV.int .i64 z])++[[.int .i64 p.id]]:=by
   rw[Z1,hp];simp
  refine Ug [.t (by simp[hcl];omega),.x (Ts hp),.s (sz:=1) (l:=[[.int .i64 p.id]]) (λc hc=>by rw[Qk.1 hc];rfl)] rfl ?_;exact rd (i+1) (by omega) hlt (by rw[hg];rfl)
 ·obtain rfl:i=s.length:=by omega
  rw[Q7];exact Uj [1] [0] [.f (by simp[hcl])] rfl
abbrev YH(k:Nat)(np nd:Int)(M:List Pt)(q:Rat)(s t h p d:Cr):Uv:=[.blk 80 (mI k q),tB np nd M,bS s M q,bT t M q,bH h M q,bP p M q,bD d M q]
abbrev Q0i(k:Nat):Ut:=[.oif 74 (k+2) 0,.oif 75 (k+3) 0,.oif 76 (k+4) 0,.oif 77 (k+5) 0,.oif 78 (k+6) 0]
theorem wH{np nd:Int}{Mt M:List Pt}{q:Rat}{s t h p d:Cr}:U6 prog 71 [.one (.ow 0 0)] [.blk 80 (mI 0 q),tB np nd Mt,bS s M q,bT t M q,bH h M q,bP p M q,bD d M q] [.agg (Q0i 0)] [.blk 80 (mI 0 q),tB np nd Mt,bS s M q,bT t M q,bH h M q,bP p M q,bD d M q]:=by
 refine Fv func71 rfl ?_;exact Uj [] [0,1,2,3,4,5,6] [] rfl
abbrev zM(k i:Nat)(a b:OB):OB:=match Nat.blt k i with
 |true=>b
 |false=>a
theorem Qex{np nd id:Int}{M M':List Pt}{q:Rat}{s t h p d s' t' h' p' d':Cr}{lx ly l3:Uu}{bn:Bool}{e1 e2 e3 e4 e5:Int}
 (ht:U6 prog 132 [.one (.ow 0 0),.agg [.row lx,.row ly,.bool bn,.row l3,.int .i64 id]] [tB np nd M] [.oi 0] [tB np nd M'])
 (h1:U6 prog 393 [.one (.ow 0 0),.agg [.row lx,.row ly,.bool bn,.row l3,.int .i64 id]] [bS s M q] [.oi e1] [bS s' M' q])
 (h2:U6 prog 419 [.one (.ow 0 0),.agg [.row lx,.row ly,.bool bn,.row l3,.int .i64 id]] [bT t M q] [.oi e2] [bT t' M' q])
 (h3:U6 prog 424 [.one (.ow 0 0),.agg [.row lx,.row ly,.bool bn,.row l3,.int .i64 id]] [bH h M q] [.oi e3] [bH h' M' q])
 (h4:U6 prog 429 [.one (.ow 0 0),.agg [.row lx,.row ly,.bool bn,.row l3,.int .i64 id]] [bP p M q] [.oi e4] [bP p' M' q])
 (h5:U6 prog 434 [.one (.ow 0 0),.agg [.row lx,.row ly,.bool bn,.row l3,.int .i64 id]] [bD d M q] [.oi e5] [bD d' M' q]) :
 U6 prog 58 [.one (.ow 0 0),.oi id,.agg [.row lx,.row ly,.bool bn,.row l3]] (YH 0 np nd M q s t h p d) [.oi 0] (YH 0 np nd M' q s' t' h' p' d'):=by
 refine Fv func58 rfl ?_;refine Uf [.c [1] ht,.f rfl,.c Ux wH] rfl ?_;refine Uk (S:=Nat) 9 (λL1 i=>(25,.v (.oi i))::L1) (λi=>[.blk 80 (mI 0 q),tB np nd M',zM 0 i (bS s M q) (bS s' M' q),zM 1 i (bT t M q) (bT t' M' q),zM 2 i (bH h M q) (bH h' M' q),zM 3 i (bP p M q) (bP p' M' q),zM 4 i (bD d M q) (bD d' M' q),.blk 38 [.row lx,.row ly,.bool bn,.row l3],.blk 40 [.row lx,.row ly,.bool bn,.row l3,.int .i64 id]]) (λi=>5-i) (λi=>i<=5) 0 (by decide) rfl rfl λi hi=>?_
 rcases(show i=0\/i=1\/i=2\/i=3\/i=4\/i=5 by omega)with rfl|rfl|rfl|rfl|rfl|rfl
 ·exact go tt [.t rfl,.i 0,.c [2] h1] rfl (by simp[U3]) (rd 1 (by omega) (by omega) rfl)
 ·exact go tt [.t rfl,.i 1,.c [3] h2] rfl (by simp[U3]) (rd 2 (by omega) (by omega) rfl)
 ·exact go tt [.t rfl,.i 2,.c [4] h3] rfl (by simp[U3]) (rd 3 (by omega) (by omega) rfl)
 ·exact go tt [.t rfl,.i 3,.c [5] h4] rfl (by simp[U3]) (rd 4 (by omega) (by omega) rfl)
 ·exact go tt [.t rfl,.i 4,.c [6] h5] rfl (by simp[U3]) (rd 5 (by omega) (by omega) rfl)
 ·exact Uj [] [0,1,2,3,4,5,6] [.f rfl] rfl
theorem Qbf{np nd id:Int}{M:List Pt}{q:Rat}{s t h p d:Cr}{lx ly l3:Uu}{bn:Bool}{e:Int}(he:e≠0)
 (ht:U6 prog 132 [.one (.ow 0 0),.agg [.row lx,.row ly,.bool bn,.row l3,.int .i64 id]] [tB np nd M] [.oi e] [tB np nd M]) :
 U6 prog 58 [.one (.ow 0 0),.oi id,.agg [.row lx,.row ly,.bool bn,.row l3]] (YH 0 np nd M q s t h p d) [.oi e] (YH 0 np nd M q s t h p d):=by
 refine Fv func58 rfl ?_;exact Uj [] [0,1,2,3,4,5,6] [.c [1] ht,.t (by simpa using he)] rfl
theorem Qff{np nd id:Int}{M M':List Pt}{q:Rat}{s t h p d s' t' h' p' d':Cr}{lx ly l3:Uu}{bn:Bool}{e1 e2 e3 e4 e5:Int}
 (ht:U6 prog 114 [.one (.ow 0 0),.agg [.row lx,.row ly,.bool bn,.row l3,.int .i64 id]] [tB np nd M] [.oi 0] [tB np nd M'])
 (h1:U6 prog 394 [.one (.ow 0 0),.agg [.row lx,.row ly,.bool bn,.row l3,.int .i64 id]] [bS s M q] [.oi e1] [bS s' M' q])
 (h2:U6 prog 420 [.one (.ow 0 0),.agg [.row lx,.row ly,.bool bn,.row l3,.int .i64 id]] [bT t M q] [.oi e2] [bT t' M' q])
 (h3:U6 prog 425 [.one (.ow 0 0),.agg [.row lx,.row ly,.bool bn,.row l3,.int .i64 id]] [bH h M q] [.oi e3] [bH h' M' q])
 (h4:U6 prog 430 [.one (.ow 0 0),.agg [.row lx,.row ly,.bool bn,.row l3,.int .i64 id]] [bP p M q] [.oi e4] [bP p' M' q])
 (h5:U6 prog 435 [.one (.ow 0 0),.agg [.row lx,.row ly,.bool bn,.row l3,.int .i64 id]] [bD d M q] [.oi e5] [bD d' M' q]) :
 U6 prog 49 [.one (.ow 0 0),.oi id,.agg [.row lx,.row ly,.bool bn,.row l3]] (YH 0 np nd M q s t h p d) [.oi 0] (YH 0 np nd M' q s' t' h' p' d'):=by
 refine Fv func49 rfl ?_;refine Uf [.c [1] ht,.f rfl,.c Ux wH] rfl ?_;refine Uk (S:=Nat) 9 (λL1 i=>(25,.v (.oi i))::L1) (λi=>[.blk 80 (mI 0 q),tB np nd M',zM 0 i (bS s M q) (bS s' M' q),zM 1 i (bT t M q) (bT t' M' q),zM 2 i (bH h M q) (bH h' M' q),zM 3 i (bP p M q) (bP p' M' q),zM 4 i (bD d M q) (bD d' M' q),.blk 38 [.row lx,.row ly,.bool bn,.row l3],.blk 40 [.row lx,.row ly,.bool bn,.row l3,.int .i64 id]]) (λi=>5-i) (λi=>i<=5) 0 (by decide) rfl rfl λi hi=>?_
 rcases(show i=0\/i=1\/i=2\/i=3\/i=4\/i=5 by omega)with rfl|rfl|rfl|rfl|rfl|rfl
 ·exact go tt [.t rfl,.i 0,.c [2] h1] rfl (by simp[U3]) (rd 1 (by omega) (by omega) rfl)
 ·exact go tt [.t rfl,.i 1,.c [3] h2] rfl (by simp[U3]) (rd 2 (by omega) (by omega) rfl)
 ·exact go tt [.t rfl,.i 2,.c [4] h3] rfl (by simp[U3]) (rd 3 (by omega) (by omega) rfl)
 ·exact go tt [.t rfl,.i 3,.c [5] h4] rfl (by simp[U3]) (rd 4 (by omega) (by omega) rfl)
 ·exact go tt [.t rfl,.i 4,.c [6] h5] rfl (by simp[U3]) (rd 5 (by omega) (by omega) rfl)
 ·exact Uj [] [0,1,2,3,4,5,6] [.f rfl] rfl
theorem Qbj{np nd id:Int}{M:List Pt}{q:Rat}{s t h p d:Cr}{lx ly l3:Uu}{bn:Bool}{e:Int}(he:e≠0)
 (ht:U6 prog 114 [.one (.ow 0 0),.agg [.row lx,.row ly,.bool bn,.row l3,.int .i64 id]] [tB np nd M] [.oi e] [tB np nd M]) :
 U6 prog 49 [.one (.ow 0 0),.oi id,.agg [.row lx,.row ly,.bool bn,.row l3]] (YH 0 np nd M q s t h p d) [.oi e] (YH 0 np nd M q s t h p d):=by
 refine Fv func49 rfl ?_;exact Uj [] [0,1,2,3,4,5,6] [.c [1] ht,.t (by simpa using he)] rfl
theorem Qep{np nd id:Int}{M M':List Pt}{q:Rat}{s t h p d s' t' h' p' d':Cr}{e1 e2 e3 e4 e5:Int}
 (ht:U6 prog 133 [.one (.ow 0 0),.oi id] [tB np nd M] [.oi 0] [tB np nd M'])
 (h1:U6 prog 390 [.one (.ow 0 0),.oi id] [bS s M q] [.oi e1] [bS s' M' q])
 (h2:U6 prog 418 [.one (.ow 0 0),.oi id] [bT t M q] [.oi e2] [bT t' M' q])
 (h3:U6 prog 423 [.one (.ow 0 0),.oi id] [bH h M q] [.oi e3] [bH h' M' q])
 (h4:U6 prog 428 [.one (.ow 0 0),.oi id] [bP p M q] [.oi e4] [bP p' M' q])
 (h5:U6 prog 433 [.one (.ow 0 0),.oi id] [bD d M q] [.oi e5] [bD d' M' q]) :
 U6 prog 59 [.one (.ow 0 0),.oi id] (YH 0 np nd M q s t h p d) [.oi 0] (YH 0 np nd M' q s' t' h' p' d'):=by
 refine Fv func59 rfl ?_;refine Uf [.c [1] ht,.f rfl,.c Ux wH] rfl ?_;refine Uk (S:=Nat) 7 (λL1 i=>(19,.v (.oi i))::L1) (λi=>[.blk 80 (mI 0 q),tB np nd M',zM 0 i (bS s M q) (bS s' M' q),zM 1 i (bT t M q) (bT t' M' q),zM 2 i (bH h M q) (bH h' M' q),zM 3 i (bP p M q) (bP p' M' q),zM 4 i (bD d M q) (bD d' M' q)]) (λi=>5-i) (λi=>i<=5) 0 (by decide) rfl rfl λi hi=>?_
 rcases(show i=0\/i=1\/i=2\/i=3\/i=4\/i=5 by omega)with rfl|rfl|rfl|rfl|rfl|rfl
 ·exact go tt [.t rfl,.i 0,.c [2] h1] rfl (by simp[U3]) (rd 1 (by omega) (by omega) rfl)
 ·exact go tt [.t rfl,.i 1,.c [3] h2] rfl (by simp[U3]) (rd 2 (by omega) (by omega) rfl)
 ·exact go tt [.t rfl,.i 2,.c [4] h3] rfl (by simp[U3]) (rd 3 (by omega) (by omega) rfl)
 ·exact go tt [.t rfl,.i 3,.c [5] h4] rfl (by simp[U3]) (rd 4 (by omega) (by omega) rfl)
 ·exact go tt [.t rfl,.i 4,.c [6] h5] rfl (by simp[U3]) (rd 5 (by omega) (by omega) rfl)
 ·exact Uj [] [0,1,2,3,4,5,6] [.f rfl] rfl
theorem Qba{np nd id:Int}{M:List Pt}{q:Rat}{s t h p d:Cr}{e:Int}(he:e≠0)
 (ht:U6 prog 133 [.one (.ow 0 0),.oi id] [tB np nd M] [.oi e] [tB np nd M]) :
 U6 prog 59 [.one (.ow 0 0),.oi id] (YH 0 np nd M q s t h p d) [.oi e] (YH 0 np nd M q s t h p d):=by
 refine Fv func59 rfl ?_;exact Uj [] [0,1,2,3,4,5,6] [.c [1] ht,.t (by simpa using he)] rfl
theorem Qa8{np nd:Int}{M:List Pt}{q r:Rat}{s t h p d s' t' h' p' d':Cr}{x0 x1 x2 x3:LV}{a b n1 n2 n3 n4 n5:Int}(ha:Gd x0 x1 a)(hb:Gd x2 x3 b)(sa:Fc a<=4294967295)(sb:Fc b<=4294967295)(hr:Gh a b=r)(hs:Qs 128 r)(hq:Qs 128 q)(hqr:q<=r)
 (h1:U6 prog 388 [.one (.ow 0 0),.agg (rl r)] [bS s M q] [.oi n1,.oi 0] [bS s' M r])
 (h2:U6 prog 417 [.one (.ow 0 0),.agg (rl r)] [bT t M q] [.oi n2,.oi 0] [bT t' M r])
 (h3:U6 prog 422 [.one (.ow 0 0),.agg (rl r)] [bH h M q] [.oi n3,.oi 0] [bH h' M r])
 (h4:U6 prog 427 [.one (.ow 0 0),.agg (rl r)] [bP p M q] [.oi n4,.oi 0] [bP p' M r])
 (h5:U6 prog 432 [.one (.ow 0 0),.agg (rl r)] [bD d M q] [.oi n5,.oi 0] [bD d' M r]) :
 U6 prog 17 [.one (.ow 0 0),.agg [x0,x1,x2,x3]] (YH 0 np nd M q s t h p d) [.oi 0] (YH 0 np nd M r s' t' h' p' d'):=by
 have cm:=BC ha hb sa sb;rw[hr]at cm;obtain⟨b1,r1,rfl,rfl,_⟩:=ha;obtain⟨b2,r2,rfl,rfl,_⟩:=hb;have cc:=Dk (a:=r) (b:=q) (hs.mono (by decide)) (hq.mono (by decide));have l1:=ZP.2 hs.1;have l2:(Gb r.den).length<=4:=by simpa using ZP.2 hs.2
 have hc:¬Hk r q<0:=λh=>absurd (Ny.1 h) (Rat.not_lt.2 hqr)
 refine Fv func17 rfl ?_;refine Uf [.k cm,.f (by simp[kF];omega),.f (by simp[kF];omega),.k cc,.f (by simpa using hc),.c Ux wH] rfl ?_;refine Uk (S:=Nat) 8 (λL1 i=>(32,.v (.oi i))::L1) (λi=>[.blk 80 (mI 0 q),tB np nd M,zM 0 i (bS s M q) (bS s' M r),zM 1 i (bT t M q) (bT t' M r),zM 2 i (bH h M q) (bH h' M r),zM 3 i (bP p M q) (bP p' M r),zM 4 i (bD d M q) (bD d' M r),.blk 42 (rl r)]) (λi=>5-i) (λi=>i<=5) 0 (by decide) rfl rfl λi hi=>?_
 rcases(show i=0\/i=1\/i=2\/i=3\/i=4\/i=5 by omega)with rfl|rfl|rfl|rfl|rfl|rfl
 ·exact go tt [.t rfl,.i 0,.c [2] h1] rfl (by simp[U3]) (rd 1 (by omega) (by omega) rfl)
 ·exact go tt [.t rfl,.i 1,.c [3] h2] rfl (by simp[U3]) (rd 2 (by omega) (by omega) rfl)
 ·exact go tt [.t rfl,.i 2,.c [4] h3] rfl (by simp[U3]) (rd 3 (by omega) (by omega) rfl)
 ·exact go tt [.t rfl,.i 3,.c [5] h4] rfl (by simp[U3]) (rd 4 (by omega) (by omega) rfl)
 ·exact go tt [.t rfl,.i 4,.c [6] h5] rfl (by simp[U3]) (rd 5 (by omega) (by omega) rfl)
 ·exact Uj [] [0,1,2,3,4,5,6] [.f rfl] rfl
theorem xH{np nd:Int}{M:List Pt}{q r:Rat}{s t h p d:Cr}{x0 x1 x2 x3:LV}{a b:Int}(ha:Gd x0 x1 a)(hb:Gd x2 x3 b)(sa:Fc a<=4294967295)(sb:Fc b<=4294967295)(hr:Gh a b=r)(hs:¬Qs 128 r) :
 U6 prog 17 [.one (.ow 0 0),.agg [x0,x1,x2,x3]] (YH 0 np nd M q s t h p d) [.oi 1] (YH 0 np nd M q s t h p d):=by
 have cm:=BC ha hb sa sb;rw[hr]at cm;obtain⟨b1,r1,rfl,rfl,_⟩:=ha;obtain⟨b2,r2,rfl,rfl,_⟩:=hb;refine Fv func17 rfl ?_;by_cases h1:Fc r.num<=128
 ·have h2:¬Fc (r.den:Int)<=128:=λh=>hs ⟨h1,h⟩
  have l1:=ZP.2 h1;have l2:=mt ZP.1 h2;exact Uj [] [0,1,2,3,4,5,6] [.k cm,.f (by simp[kF];omega),.t (by simp[kF]at l2 ⊢;omega)] rfl
 ·have l1:=mt ZP.1 h1;exact Uj [] [0,1,2,3,4,5,6] [.k cm,.t (by simp[kF];omega),.t rfl] rfl
theorem AN{np nd:Int}{M:List Pt}{q r:Rat}{s t h p d:Cr}{x0 x1 x2 x3:LV}{a b:Int}(ha:Gd x0 x1 a)(hb:Gd x2 x3 b)(sa:Fc a<=4294967295)(sb:Fc b<=4294967295)(hr:Gh a b=r)(hs:Qs 128 r)(hq:Qs 128 q)(hqr:r<q) :
 U6 prog 17 [.one (.ow 0 0),.agg [x0,x1,x2,x3]] (YH 0 np nd M q s t h p d) [.oi 8] (YH 0 np nd M q s t h p d):=by
 have cm:=BC ha hb sa sb;rw[hr]at cm;obtain⟨b1,r1,rfl,rfl,_⟩:=ha;obtain⟨b2,r2,rfl,rfl,_⟩:=hb;have cc:=Dk (a:=r) (b:=q) (hs.mono (by decide)) (hq.mono (by decide));have l1:=ZP.2 hs.1;have l2:(Gb r.den).length<=4:=by simpa using ZP.2 hs.2
 have hc:Hk r q<0:=Ny.2 hqr;refine Fv func17 rfl ?_;exact Uj [] [0,1,2,3,4,5,6] [.k cm,.f (by simp[kF];omega),.f (by simp[kF];omega),.k cc,.t (by simpa using hc)] rfl
theorem BY{c:Cr}{l l':List Pt}{r1:Uu}{ws:List Wt}(hc:CrOk c)(hl:∀p∈l',Sc p.c)(hn:l'.length≤10)(h:Tl c.l c.now (Fw (AM l' c.now))=some ws) :
 U6 prog 426 [.one (.ow 0 0),.agg [pts l'],.oi 0] [.blk 225 (Hn c (U0 l) r1)] [.oi 0] [.blk 225 (Hn ⟨c.now,ws,c.ev⟩ (U0 l') (brH l' c.now))]:=by
 have hB:=pY hl hn;have cn:=QV (T:=225) (c:=c) (r0:=U0 l') (r1:=r1) hc.n;have cb:=IT (c:=c) (r1:=r1) hl hn hc.n;have cg:=YZ (T:=225) (r0:=U0 l') (r1:=brH l' c.now) hc hc.n (I4 hc.n) (J7 0) (hB.p _ hc.n) (hB.n _ hc.n) h;refine Fv func426 rfl ?_;exact Uj [] [0] [.f rfl,.c [0] cn,.c [0] cb,.c [0] cg] rfl
theorem Qmy{lx ly:Uu}{px py:Uo}{x y:LV}{d id:Int}{c:Cr}{l:List Pt}{r1:Uu}{ws:List Wt}(hx:IsInts lx px)(hy:IsInts ly py)(hd:Gd x y d)(hk:Cs 4294967294 1073741824 (Crv.mk px py d))(hll:l.length<=900)
 (he:WU l ⟨Crv.norm (Crv.mk px py d),id⟩=0) (hc:CrOk c) (hl:∀p∈put l ⟨Crv.norm (Crv.mk px py d),id⟩,Sc p.c) (hn:(put l ⟨Crv.norm (Crv.mk px py d),id⟩).length≤10) (h:Tl c.l c.now (Fw (AM (put l ⟨Crv.norm (Crv.mk px py d),id⟩) c.now))=some ws) :
 U6 prog 424 [.one (.ow 0 0),.agg [.row lx,.row ly,x,y,.int .i64 id]] [.blk 225 (Hn c (U0 l) r1)] [.oi 0] [.blk 225 (Hn ⟨c.now,ws,c.ev⟩ (U0 (put l ⟨Crv.norm (Crv.mk px py d),id⟩)) (brH (put l ⟨Crv.norm (Crv.mk px py d),id⟩) c.now))]:=by
 have cp:=wU (l:=l) (id:=id) hx hy hd hk (by omega);rw[if_pos he,he]at cp;have cw:=BY (l:=l) (r1:=r1) hc hl hn h;refine Fv func424 rfl ?_;obtain⟨b,l',rfl,rfl,_⟩:=hd;exact Uj [] [0] [.k cp,.c [0] cw] rfl
theorem Qev{lx ly:Uu}{px py:Uo}{x y:LV}{d id:Int}{c:Cr}{l l':List Pt}{r1:Uu}{ws:List Wt}(hx:IsInts lx px)(hy:IsInts ly py)(hd:Gd x y d)(hk:Cs 4294967294 1073741824 (Crv.mk px py d))(hll:l.length<=10)(h:has l id=true)(hc:CrOk c)
 (hl':l'=l.set (Rx l id) (Pt.mk (Crv.norm (Crv.mk px py d)) id)) (hs:∀p∈l',Sc p.c) (hw:Tl c.l c.now (Fw (AM l' c.now))=some ws) :
 U6 prog 425 [.one (.ow 0 0),.agg [.row lx,.row ly,x,y,.int .i64 id]] [.blk 225 (Hn c (U0 l) r1)] [.oi 0] [.blk 225 (Hn ⟨c.now,ws,c.ev⟩ (U0 l') (brH l' c.now))]:=by
 have ct1:=UK (l:=l) hx hy hd hk (by omega) h;rw[<-hl']at ct1;have cw:=BY (c:=c) (l:=l) (l':=l') (r1:=r1) hc hs (by rw[hl',Xe];omega) hw;obtain⟨b,r,rfl,rfl,_⟩:=hd;refine Fv func425 rfl ?_;exact Uj [] [0] [.k ct1,.c [0] cw] rfl
theorem Qeu{id:Int}{c:Cr}{l l':List Pt}{r1:Uu}{ws:List Wt}(hll:l.length<=10)(h:has l id=true)(hc:CrOk c)
 (hl':l'=l.take (Rx l id)++l.drop (Rx l id+1)) (hs:∀p∈l',Sc p.c) (hw:Tl c.l c.now (Fw (AM l' c.now))=some ws) :
 U6 prog 423 [.one (.ow 0 0),.oi id] [.blk 225 (Hn c (U0 l) r1)] [.oi 0] [.blk 225 (Hn ⟨c.now,ws,c.ev⟩ (U0 l') (brH l' c.now))]:=by
 have ct1:=UY (l:=l) (id:=id) (by omega) h;rw[<-hl']at ct1;have cw:=BY (c:=c) (l:=l) (l':=l') (r1:=r1) hc hs (by rw[hl',Qx,Qr,Q8];omega) hw;refine Fv func423 rfl ?_;exact Uj [] [0] [.k ct1,.c [0] cw] rfl
theorem Qbe{c:Cr}{r0:Uu}{r1:Uu}:U6 prog 65 [.one (.ow 0 0)] [.blk 225 (Hn c r0 r1)] [.one (.ow 1 0)] [.blk 225 (Hn c r0 r1),.blk 225 (Hn c r0 r1)]:=by
 refine Fv func65 rfl ?_;exact Uj [] [0,1] [] rfl
theorem BU{c:Cr}{l l':List Pt}{r1:Uu}{ws:List Wt}(hc:CrOk c)(hl:∀p∈l',Sc p.c)(hn:l'.length≤10)(h:Tl c.l c.now (Fw (dE l' c.now))=some ws) :
 U6 prog 431 [.one (.ow 0 0),.agg [pts l'],.oi 0] [.blk 227 (Hn c (U0 l) r1)] [.oi 0] [.blk 227 (Hn ⟨c.now,ws,c.ev⟩ (U0 l') (brP l' c.now))]:=by
 have hB:=Qee hl hn;have cn:=QV (T:=227) (c:=c) (r0:=U0 l') (r1:=r1) hc.n;have cb:=IS (c:=c) (r1:=r1) hl hn hc.n;have cg:=YZ (T:=227) (r0:=U0 l') (r1:=brP l' c.now) hc hc.n (I4 hc.n) (J7 0) (hB.p _ hc.n) (hB.n _ hc.n) h;refine Fv func431 rfl ?_;exact Uj [] [0] [.f rfl,.c [0] cn,.c [0] cb,.c [0] cg] rfl
theorem Qm6{lx ly:Uu}{px py:Uo}{x y:LV}{d id:Int}{c:Cr}{l:List Pt}{r1:Uu}{ws:List Wt}(hx:IsInts lx px)(hy:IsInts ly py)(hd:Gd x y d)(hk:Cs 4294967294 1073741824 (Crv.mk px py d))(hll:l.length<=900)
 (he:WU l ⟨Crv.norm (Crv.mk px py d),id⟩=0) (hc:CrOk c) (hl:∀p∈put l ⟨Crv.norm (Crv.mk px py d),id⟩,Sc p.c) (hn:(put l ⟨Crv.norm (Crv.mk px py d),id⟩).length≤10) (h:Tl c.l c.now (Fw (dE (put l ⟨Crv.norm (Crv.mk px py d),id⟩) c.now))=some ws) :
 U6 prog 429 [.one (.ow 0 0),.agg [.row lx,.row ly,x,y,.int .i64 id]] [.blk 227 (Hn c (U0 l) r1)] [.oi 0] [.blk 227 (Hn ⟨c.now,ws,c.ev⟩ (U0 (put l ⟨Crv.norm (Crv.mk px py d),id⟩)) (brP (put l ⟨Crv.norm (Crv.mk px py d),id⟩) c.now))]:=by
 have cp:=wU (l:=l) (id:=id) hx hy hd hk (by omega);rw[if_pos he,he]at cp;have cw:=BU (l:=l) (r1:=r1) hc hl hn h;refine Fv func429 rfl ?_;obtain⟨b,l',rfl,rfl,_⟩:=hd;exact Uj [] [0] [.k cp,.c [0] cw] rfl
theorem Qe9{lx ly:Uu}{px py:Uo}{x y:LV}{d id:Int}{c:Cr}{l l':List Pt}{r1:Uu}{ws:List Wt}(hx:IsInts lx px)(hy:IsInts ly py)(hd:Gd x y d)(hk:Cs 4294967294 1073741824 (Crv.mk px py d))(hll:l.length<=10)(h:has l id=true)(hc:CrOk c)
 (hl':l'=l.set (Rx l id) (Pt.mk (Crv.norm (Crv.mk px py d)) id)) (hs:∀p∈l',Sc p.c) (hw:Tl c.l c.now (Fw (dE l' c.now))=some ws) :
 U6 prog 430 [.one (.ow 0 0),.agg [.row lx,.row ly,x,y,.int .i64 id]] [.blk 227 (Hn c (U0 l) r1)] [.oi 0] [.blk 227 (Hn ⟨c.now,ws,c.ev⟩ (U0 l') (brP l' c.now))]:=by
 have ct1:=UK (l:=l) hx hy hd hk (by omega) h;rw[<-hl']at ct1;have cw:=BU (c:=c) (l:=l) (l':=l') (r1:=r1) hc hs (by rw[hl',Xe];omega) hw;obtain⟨b,r,rfl,rfl,_⟩:=hd;refine Fv func430 rfl ?_;exact Uj [] [0] [.k ct1,.c [0] cw] rfl
theorem Qe8{id:Int}{c:Cr}{l l':List Pt}{r1:Uu}{ws:List Wt}(hll:l.length<=10)(h:has l id=true)(hc:CrOk c)
 (hl':l'=l.take (Rx l id)++l.drop (Rx l id+1)) (hs:∀p∈l',Sc p.c) (hw:Tl c.l c.now (Fw (dE l' c.now))=some ws) :
 U6 prog 428 [.one (.ow 0 0),.oi id] [.blk 227 (Hn c (U0 l) r1)] [.oi 0] [.blk 227 (Hn ⟨c.now,ws,c.ev⟩ (U0 l') (brP l' c.now))]:=by
 have ct1:=UY (l:=l) (id:=id) (by omega) h;rw[<-hl']at ct1;have cw:=BU (c:=c) (l:=l) (l':=l') (r1:=r1) hc hs (by rw[hl',Qx,Qr,Q8];omega) hw;refine Fv func428 rfl ?_;exact Uj [] [0] [.k ct1,.c [0] cw] rfl
theorem Qbh{c:Cr}{r0:Uu}{r1:Uu}:U6 prog 66 [.one (.ow 0 0)] [.blk 227 (Hn c r0 r1)] [.one (.ow 1 0)] [.blk 227 (Hn c r0 r1),.blk 227 (Hn c r0 r1)]:=by
 refine Fv func66 rfl ?_;exact Uj [] [0,1] [] rfl
theorem lZ{np nd:Int}{M:List Pt}{q:Rat}{s t h p d:Cr}(hq:Qs 128 q):U6 prog 32 [.one (.ow 0 0)] (YH 0 np nd M q s t h p d) [.agg (rl q)] (YH 0 np nd M q s t h p d):=by
 refine Fv func32 rfl ?_;exact Uj [] [0,1,2,3,4,5,6] [.k (Nx (hq.mono (by decide)))] rfl
abbrev en2(np nd:Int)(M:List Pt)(q:Rat)(s t h p d:Cr)(np' nd':Int)(M':List Pt)(q':Rat)(s' t' h' p' d':Cr):Uv:=[.blk 80 (mI 0 q),tB np nd M,bS s M q,bT t M q,bH h M q,bP p M q,bD d M q,.blk 80 (mI 7 q'),tB np' nd' M',bS s' M' q',bT t' M' q',bH h' M' q',bP p' M' q',bD d' M' q']
theorem lJ{np nd:Int}{M:List Pt}{q:Rat}{s t h p d:Cr}(hq:Qs 128 q):U6 prog 13 [.one (.ow 0 0)] (YH 0 np nd M q s t h p d) [.one (.ow 7 0)] (en2 np nd M q s t h p d np nd M q s t h p d):=by
 refine Fv func13 rfl ?_;exact Uj [] [0,1,2,3,4,5,6,13,7,8,9,10,11,12] [.lo,.c [1,7] Qgh,.lo,.c Ux (lZ hq),.lo,.c [2,8] Qfi,.lo,.c [3,9] Qbo,.lo,.c [4,10] Qbe,.lo,.c [5,11] Qbh,.lo,.c [6,12] Qa9] rfl
abbrev anw(S W H P:List Pt)(T:List P3):Ut:=[ids (S.map (·.id)),ids (W.map (·.id)),ids (H.map (·.id)),ids (P.map (·.id)),.row (I0 T)]
theorem Qnh{np nd:Int}{M S W H P:List Pt}{T:List P3}{r2:Uu}{q:Rat}{s t h p d:Cr}(hS:S.length<=1000000)(hH:H.length<=1000000)(hT:T.length<=1000)(hW:W=[]\/∃w,W=[w])(hP:P=[]\/∃a b,P=[a,b]) :
 U6 prog 26 [.one (.ow 0 0)] [.blk 80 (mI 0 q),tB np nd M,.blk 220 (Hn s (U0 M) (U0 S)),.blk 223 (Tt t (U0 M) (W.map Fb,r2)),.blk 225 (Hn h (U0 M) (U0 H)),.blk 227 (Hn p (U0 M) (U0 P)),.blk 229 (Hn d (U0 M) (I0 T))]
  [.agg (anw S W H P T)] [.blk 80 (mI 0 q),tB np nd M,.blk 220 (Hn s (U0 M) (U0 S)),.blk 223 (Tt t (U0 M) (W.map Fb,r2)),.blk 225 (Hn h (U0 M) (U0 H)),.blk 227 (Hn p (U0 M) (U0 P)),.blk 229 (Hn d (U0 M) (I0 T))]:=by
 have c1:=Qtv (c:=s) (l:=M) hS;have c2:=Qtk (c:=h) (l:=M) hH;have c3:=pD (c:=d) (r0:=U0 M) hT;rcases hW with rfl|⟨w,rfl⟩
 ·have c4:=Qfq (c:=t) (r0:=U0 M) (r2:=r2);rcases hP with rfl|⟨a,b,rfl⟩
  ·have c5:=wW (c:=p) (r0:=U0 M);refine Fv func26 rfl ?_;exact Uj [] [0,1,2,3,4,5,6] [.c [2] c1,.c [4] c2,.c [6] c3,.c [3] c4,.f rfl,.c [5] c5,.f rfl] rfl
  ·have c5:=lP (c:=p) (r0:=U0 M) (a:=a) (b:=b);refine Fv func26 rfl ?_;exact Uj [] [0,1,2,3,4,5,6] [.c [2] c1,.c [4] c2,.c [6] c3,.c [3] c4,.f rfl,.c [5] c5,.t rfl] rfl
 ·have c4:=Qnk (c:=t) (r0:=U0 M) (r2:=r2) (w:=w);rcases hP with rfl|⟨a,b,rfl⟩
  ·have c5:=wW (c:=p) (r0:=U0 M);refine Fv func26 rfl ?_;exact Uj [] [0,1,2,3,4,5,6] [.c [2] c1,.c [4] c2,.c [6] c3,.c [3] c4,.t rfl,.c [5] c5,.f rfl] rfl
  ·have c5:=lP (c:=p) (r0:=U0 M) (a:=a) (b:=b);refine Fv func26 rfl ?_;exact Uj [] [0,1,2,3,4,5,6] [.c [2] c1,.c [4] c2,.c [6] c3,.c [3] c4,.t rfl,.c [5] c5,.t rfl] rfl
abbrev Qa0(M:List Pt)(q:Rat):Ut:=anw (Rr (tq q) M) (M9 (Fq (tq q)) M).1 (Rk M (tq q)) (Ij (Fq (tq q)) M) (SS (Fq (tq q)) M)
theorem Qq6(sg:Uo->Int)(M:List Pt):(M9 sg M).1=[]\/∃w,(M9 sg M).1=[w]:=by
 by_cases h:0<M.length
 ·obtain⟨a,ha,_⟩:=Mg sg M.length M (Qm _) h;exact .inr ⟨a,ha⟩
 ·obtain rfl:=Qj (by omega:M.length=0);exact .inl rfl
theorem Qi6(sg:Uo->Int)(M:List Pt):Ij sg M=[]\/∃a b,Ij sg M=[a,b]:=by
 match M with
 | []=>exact .inl rfl
 | [_]=>exact .inl rfl
 |_::_::_=>exact .inr ⟨_,_,rfl⟩
theorem xN{np nd:Int}{M:List Pt}{q:Rat}{s t h p d:Cr}(hM:M.length<=6):U6 prog 26 [.one (.ow 0 0)] (YH 0 np nd M q s t h p d) [.agg (Qa0 M q)] (YH 0 np nd M q s t h p d) :=
 Qnh (by rw[Pu];omega) (by have:=HN M (tq q);omega) (by have:=qU (Fq (tq q)) hM;omega) (Qq6 _ _) (Qi6 _ _)
theorem Qbi{np nd:Int}{M:List Pt}{q r:Rat}{s t h p d s' t' h' p' d':Cr}{b1 b2:Bool}{r1 r2:Uu}(hq:Qs 128 q)(hM:M.length<=6)
 (ha:U6 prog 17 [.one (.ow 0 0),.agg [.bool b1,.row r1,.bool b2,.row r2]] (YH 0 np nd M q s t h p d) [.oi 0] (YH 0 np nd M r s' t' h' p' d')) :
 U6 prog 20 [.one (.ow 0 0),.agg [.bool b1,.row r1,.bool b2,.row r2]] (YH 0 np nd M q s t h p d) [.agg (Qa0 M r),.oi 0] (YH 0 np nd M q s t h p d):=by
 refine Fv func20 rfl ?_;exact Uj [] [0,1,2,3,4,5,6] [.c Uz (lJ hq),.c Uy ha,.f rfl,.c Uy (xN hM)] rfl
abbrev Qxj:Ut:=[.row [],.row [],.row [],.row [],.row []]
theorem Qfd{np nd:Int}{M:List Pt}{q:Rat}{s t h p d:Cr}{b1 b2:Bool}{r1 r2:Uu}{e:Int}(he:e≠0)(hq:Qs 128 q)
 (ha:U6 prog 17 [.one (.ow 0 0),.agg [.bool b1,.row r1,.bool b2,.row r2]] (YH 0 np nd M q s t h p d) [.oi e] (YH 0 np nd M q s t h p d)) :
 U6 prog 20 [.one (.ow 0 0),.agg [.bool b1,.row r1,.bool b2,.row r2]] (YH 0 np nd M q s t h p d) [.agg Qxj,.oi e] (YH 0 np nd M q s t h p d):=by
 refine Fv func20 rfl ?_;exact Uj [] [0,1,2,3,4,5,6] [.c Uz (lJ hq),.c Uy ha,.t (by simpa using he)] rfl
abbrev Qkn(k i:Nat)(e:Int):LV:=match Nat.blt k i with
 |true=>.int .i64 e
 |false=>.int .i64 0
theorem Qel{np nd:Int}{M:List Pt}{q:Rat}{s t h p d:Cr}:U6 prog 22 [.one (.ow 0 0)] (YH 0 np nd M q s t h p d) [.agg [.int .i64 s.ev,.int .i64 t.ev,.int .i64 h.ev,.int .i64 p.ev,.int .i64 d.ev]] (YH 0 np nd M q s t h p d):=by
 refine Fv func22 rfl ?_;refine Uf [.c Ux wH] rfl ?_;refine Uk (S:=Nat) 9 (λL1 i=>(8,.v (.oi i))::L1) (λi=>[.blk 80 (mI 0 q),tB np nd M,bS s M q,bT t M q,bH h M q,bP p M q,bD d M q,.blk 63 [.int .i64 0,.int .i64 0,.int .i64 0,.int .i64 0,.int .i64 0],.blk 63 [Qkn 0 i s.ev,Qkn 1 i t.ev,Qkn 2 i h.ev,Qkn 3 i p.ev,Qkn 4 i d.ev]]) (λi=>5-i) (λi=>i<=5) 0 (by decide) rfl rfl λi hi=>?_
 rcases(show i=0\/i=1\/i=2\/i=3\/i=4\/i=5 by omega)with rfl|rfl|rfl|rfl|rfl|rfl
 ·exact go tt [.t rfl,.i 0,.c [2] YX,.i 0] rfl (by simp[U3]) (rd 1 (by omega) (by omega) rfl)
 ·exact go tt [.t rfl,.i 1,.c [3] Qbn,.i 1] rfl (by simp[U3]) (rd 2 (by omega) (by omega) rfl)
 ·exact go tt [.t rfl,.i 2,.c [4] YX,.i 2] rfl (by simp[U3]) (rd 3 (by omega) (by omega) rfl)
 ·exact go tt [.t rfl,.i 3,.c [5] YX,.i 3] rfl (by simp[U3]) (rd 4 (by omega) (by omega) rfl)
 ·exact go tt [.t rfl,.i 4,.c [6] YX,.i 4] rfl (by simp[U3]) (rd 5 (by omega) (by omega) rfl)
 ·exact Uj [] [0,1,2,3,4,5,6] [.f rfl] rfl
theorem Qrj:∀p∈([]:List Pt),Sc p.c:=λ_ h=>by cases h
theorem Qly:∀x∈([]:List Ct),Cp x.p:=λ_ h=>by cases h
theorem sN:Ul 193 [.one (.row [])] [.agg [.row []],.oi 0]:=by
 refine Fv func193 rfl ?_;refine Uf [.f rfl] rfl ?_;refine nlb 1 rfl rfl rfl ?_;refine Uk (S:=Unit) 2 (λL1 _=>(14,.v (.oi 0))::L1) (λ_=>[.blk 218 [.nils],.blk 218 [.row []]]) (λ_=>0) (λ_=>True) () trivial rfl rfl λ_ _=>?_
 exact Uh [.f rfl] rfl
abbrev zT(r0 r1 r2:LV):OB:=.blk 223 [.bool false,.nils,.bool false,.nils,.bool false,.nils,.bool false,.nils,.bool false,.nils,.nils,.int .i64 0,r0,r1,r2]
theorem Qrh{a:Tm}:U6 prog 254 [.one (.ow 0 0),.agg (ta a),.one (.row [])] [zT (.row []) .nils (.orow 1 10 none),.row false 323 10 []] [.one (.row [])] [zT (.row []) .nils (.orow 1 10 none),.row false 323 10 []]:=by
 refine Fv func254 rfl ?_;exact Uj [] [0,1] [.t rfl] rfl
theorem Qlw{a:Tm}:U6 prog 196 [.one (.ow 0 0),.agg (ta a)] [zT (.row []) .nils .nils] [.one (.row [])] [zT (.row []) (.row []) (.row [])]:=by
 refine Fv func196 rfl ?_;refine Uf [] rfl ?_;refine oz 0 14 323 10 rfl rfl ?_;refine Uf [.k (Iq (l:=[])),.c [0,2] (Qrh (a:=a)),.o 5 99 7] rfl ?_;refine Uk (S:=Unit) 4 (λL1 _=>(29,.v (.oi 0))::(5,.v (.one (.orow 3 7 none)))::L1) (λ_=>[zT (.row []) (.row []) (.orow 2 10 none),.blk 105 (ta a),.row false 323 10 [],.row false 99 7 []]) (λ_=>0) (λ_=>True) () trivial rfl rfl λ_ _=>?_
 exact Uj [2,3] [0] [.f rfl] rfl
theorem Qlx:Ul 257 [.agg [.row []]] [.one (.row [])]:=mZ (l:=[]) (λ_ h=>by cases h) (by decide)
theorem Qs0{a:Tm}(ha:Va a):Ul 251 [.agg (ta a),.one (.row [])] [.one (.row [])]:=wF (l:=[]) Qrj (by decide) ha
theorem Qlu{a:Tm}(ha:Va a):U6 prog 197 [.one (.ow 0 0),.agg (ta a)] [.blk 225 (mH (.row []) .nils)] [.one (.row [])] [.blk 225 (mH (.row []) (.row []))]:=by
 have cn:Ul 256 [.agg (ta a),.one (.row [])] [.one (.row [])]:=eZ (R:=[]) Qrj (by decide) ha;have cc:U6 prog 253 [.agg (ta a),.one (.row [])] [] [.one (.orow 0 7 none)] [.row false 99 7 []]:=TE (l:=[]) Qrj (by decide) ha;refine Fv func197 rfl ?_;exact Uj [2] [0] [.k Qlx,.k (Qs0 ha),.k cn,.k (Iq (l:=[])),.k (Qs0 ha),.c [2] cc,.t rfl] rfl
theorem Qlv{a:Tm}:U6 prog 198 [.one (.ow 0 0),.agg (ta a)] [.blk 227 (mH (.row []) .nils)] [.one (.row [])] [.blk 227 (mH (.row []) (.row []))]:=by
 refine Fv func198 rfl ?_;refine Uf [.k (Iq (l:=[]))] rfl ?_;refine nlc 0 13 rfl rfl rfl ?_;exact Uj [] [0] [.t rfl] rfl
theorem Qlt{a:Tm}:U6 prog 199 [.one (.ow 0 0),.agg (ta a)] [.blk 229 (mH (.row []) .nils)] [.one (.row [])] [.blk 229 (mH (.row []) (.row []))]:=by
 refine Fv func199 rfl ?_;refine Uf [.k Qlx,.o 6 99 7] rfl ?_;refine Uk (S:=Unit) 4 (λL1 _=>(42,.v (.oi 0))::(6,.v (.one (.orow 2 7 none)))::L1) (λ_=>[.blk 229 (mH (.row []) .nils),.blk 105 (ta a),.row false 99 7 [],.mpb (Ax (ZM (Fq a) []))]) (λ_=>0) (λ_=>True) () trivial rfl rfl λ_ _=>?_
 refine Uf [.f rfl] rfl ?_;refine Uk (S:=Unit) 5 (λL1 _=>(97,.v (.oi 0))::(6,.v (.one (.orow 2 7 none)))::L1) (λ_=>[.blk 229 (mH (.row []) .nils),.blk 105 (ta a),.row false 99 7 [],.mpb (Ax (ZM (Fq a) [])),.mpb (Oc (Ax (ZM (Fq a) [])) (VS (Fq a) []))]) (λ_=>0) (λ_=>True) () trivial rfl rfl λ_ _=>?_
 refine Uf [.f rfl] rfl ?_;refine ozM 0 13 84 3 rfl rfl ?_;refine Uk (S:=Unit) 6 (λL1 _=>(174,.v (.oi 0))::L1) (λ_=>[.blk 229 [.bool false,.nils,.bool false,.nils,.bool false,.nils,.bool false,.nils,.bool false,.nils,.nils,.int .i64 0,.row [],.orow 5 3 none],.blk 105 (ta a),.row false 99 7 [],.mpb (Ax (ZM (Fq a) [])),.mpb (Oc (Ax (ZM (Fq a) [])) (VS (Fq a) [])),.row false 84 3 []]) (λ_=>0) (λ_=>True) () trivial rfl rfl λ_ _=>?_
 exact Uj [2,5] [0] [.f rfl] rfl
section
variable{x y x' y':LV}{n d:Int}(h1:Gd x y n)(h2:Gd x' y' d)(bn:Fc n<=4294967295)(bd:Fc d<=4294967295)(ht:Qs 1640000 (Gh n d))
include h1 h2 bn bd ht
theorem Qrg:U6 prog 123 [.agg [x,y,x',y'],.one (.row [])] [] [.one (.ow 0 0),.oi 0] [.blk 220 (Hn ⟨tq (Gh n d),[],0⟩ [] [])]:=by
 have co:=VC h1 h2 bn bd (ht.mono (by decide));have cb:U6 prog 195 [.one (.ow 0 0),.agg (ta (tq (Gh n d)))] [.blk 220 (mH (.row []) .nils)] [.one (.row [])] [.blk 220 (mH (.row []) (.row []))]:=Qbk (l:=[]) Qrj (by decide) (AQ ht);have cg:=YQ (T:=220) (r0:=[]) (r1:=[]) (AQ ht) Qly (by decide);obtain⟨b,l1,rfl,rfl,_⟩:=h1;obtain⟨b',l2,rfl,rfl,_⟩:=h2;refine Fv func123 rfl ?_;exact Uj [] [2] [.k sN,.f rfl,.k co,.c [2] cb,.c [2] cg] rfl
theorem Qri:U6 prog 124 [.agg [x,y,x',y'],.one (.row [])] [] [.one (.ow 0 0),.oi 0] [.blk 223 (Tt ⟨tq (Gh n d),[],0⟩ [] ([],[]))]:=by
 have co:=VC h1 h2 bn bd (ht.mono (by decide));have cg:=Qbl (T:=223) (r0:=[]) (r1:=([],[])) (AQ ht) Qly (by decide);obtain⟨b,l1,rfl,rfl,_⟩:=h1;obtain⟨b',l2,rfl,rfl,_⟩:=h2;refine Fv func124 rfl ?_;exact Uj [] [2] [.k sN,.f rfl,.k co,.c [2] (Qlw (a:=tq (Gh n d))),.c [2] cg] rfl
theorem Qre:U6 prog 125 [.agg [x,y,x',y'],.one (.row [])] [] [.one (.ow 0 0),.oi 0] [.blk 225 (Hn ⟨tq (Gh n d),[],0⟩ [] [])]:=by
 have co:=VC h1 h2 bn bd (ht.mono (by decide));have cg:=YQ (T:=225) (r0:=[]) (r1:=[]) (AQ ht) Qly (by decide);obtain⟨b,l1,rfl,rfl,_⟩:=h1;obtain⟨b',l2,rfl,rfl,_⟩:=h2;refine Fv func125 rfl ?_;exact Uj [] [2] [.k sN,.f rfl,.k co,.c [2] (Qlu (AQ ht)),.c [2] cg] rfl
theorem Qrf:U6 prog 126 [.agg [x,y,x',y'],.one (.row [])] [] [.one (.ow 0 0),.oi 0] [.blk 227 (Hn ⟨tq (Gh n d),[],0⟩ [] [])]:=by
 have co:=VC h1 h2 bn bd (ht.mono (by decide));have cg:=YQ (T:=227) (r0:=[]) (r1:=[]) (AQ ht) Qly (by decide);obtain⟨b,l1,rfl,rfl,_⟩:=h1;obtain⟨b',l2,rfl,rfl,_⟩:=h2;refine Fv func126 rfl ?_;exact Uj [] [2] [.k sN,.f rfl,.k co,.c [2] (Qlv (a:=tq (Gh n d))),.c [2] cg] rfl
theorem Qrd:U6 prog 127 [.agg [x,y,x',y'],.one (.row [])] [] [.one (.ow 0 0),.oi 0] [.blk 229 (Hn ⟨tq (Gh n d),[],0⟩ [] [])]:=by
 have co:=VC h1 h2 bn bd (ht.mono (by decide));have cg:=YQ (T:=229) (r0:=[]) (r1:=[]) (AQ ht) Qly (by decide);obtain⟨b,l1,rfl,rfl,_⟩:=h1;obtain⟨b',l2,rfl,rfl,_⟩:=h2;refine Fv func127 rfl ?_;exact Uj [] [2] [.k sN,.f rfl,.k co,.c [2] (Qlt (a:=tq (Gh n d))),.c [2] cg] rfl
end
end Orr
namespace Orr
open Go Go.Proofs Tryz Orq
set_option maxRecDepth 10000
theorem Quc{np nd:Int}(h1:1<=np/\np<=6)(h2:0<=nd/\nd<=2):U6 prog 121 [.oi np,.oi nd] [] [.one (.ow 0 0),.oi 0] [.blk 159 [.int .i64 np,.int .i64 nd,.nils]]:=by
 refine Fv func121 rfl ?_;exact Uj [] [0] [.F,.f (by simp;omega),.f (by simp;omega),.f (by simp;omega)] rfl
theorem Qti{np nd:Int}(h1:1<=np/\np<=6)(h2:0<=nd/\nd<=2):U6 prog 54 [.oi np,.oi nd] [] [.one (.ow 0 0),.oi 0] (YH 0 np nd [] 0 (Qmo [] (tq 0)) (Qxq [] (tq 0)) (Qxo [] (tq 0)) (Qxp [] (tq 0)) (Qxn [] (tq 0))):=by
 have ez:Gh (0:Rat).num ((0:Rat).den:Int)=0:=by decide
 have hq:Qs 1640000 (Gh (0:Rat).num ((0:Rat).den:Int)):=by rw[ez];exact⟨by decide,by decide⟩
 have i1:=U4 (0:Rat).num;have i2:=U4 ((0:Rat).den:Int);have c1:=Qrg i1 i2 (by decide) (by decide) hq;have c2:=Qri i1 i2 (by decide) (by decide) hq;have c3:=Qre i1 i2 (by decide) (by decide) hq;have c4:=Qrf i1 i2 (by decide) (by decide) hq;have c5:=Qrd i1 i2 (by decide) (by decide) hq;rw[ez]at c1 c2 c3 c4 c5;have ci:=Qt9 (n:=0) (by decide);rw[show((0:Int):Rat)=0 from rfl,Ll]at ci;refine Fv func54 rfl ?_;refine Uf [.c [0] (Quc h1 h2),.f rfl] rfl ?_;refine nlc 0 2 rfl rfl rfl ?_;exact Uj [] [1,0,2,3,4,5,6] [.k ci,.c [2] c1,.c [3] c2,.c [4] c3,.c [5] c4,.c [6] c5] rfl
def Em.ins(A:Em)(p:Pt):Em×Int:=(if Nu A.np A.nd A.M p=0 then { A with M:=put A.M p }else A,Nu A.np A.nd A.M p)
def Em.rep(A:Em)(p:Pt):Em×Int:=(if Nc A.nd A.M p=0 then { A with M:=A.M.set (Rx A.M p.id) p }else A,Nc A.nd A.M p)
def Em.del(A:Em)(id:Int):Em×Int:=if has A.M id=true then({ A with M:=A.M.take (Rx A.M id)++A.M.drop (Rx A.M id+1) },0)else(A,5)
open Classical in
noncomputable def Em.adv(A:Em)(t:Rat):Em×Int:=if Qs 128 t then(if t<A.q then(A,8)else({ A with q:=t,s:=A.s+(cnt (JA A.M) A.q t:Nat),t:=A.t+(cnt (xF A.M) A.q t:Nat),h:=A.h+(cnt (AM A.M) A.q t:Nat),p:=A.p+(cnt (dE A.M) A.q t:Nat),d:=A.d+(cnt (wQ A.M) A.q t:Nat) },0))else(A,1)
theorem Qsr{np nd:Int}{k:Crv}(hn:ZC k)(hnd:nd<=2)(h1:ZX k=true)(h2:¬nd<PH k):Sc k:=by
 obtain⟨s1,s2,s3⟩:=EM.1 h1;unfold PH at h2;exact⟨hn,s1,s2,s3,by omega,by omega⟩
theorem Qiy{p:Pt}(h:XL p=true):(0<=p.id/\p.id<=1048576)/\ZX p.c=true:=by
 simp only[XL,Zn,decide_eq_true_iff]at h;exact⟨⟨h.1,h.2.1⟩,h.2.2⟩
theorem dX{M:List Pt}(hs:Sj M){p:Pt}(h:has M p.id=true):Sj (M.set (Rx M p.id) p):=by
 have hl:=YD h;have hid:∀(x:Pt),M[Rx M p.id]? = some x->x.id=p.id:=λx hx=>by
  simp only[has,hx]at h;exact of_decide_eq_true h
 unfold Sj;rw[Yf];intro i j hi hj hij;rw[Xe]at hi hj;have hx:=Qf hi;have hy:=Qf hj;have hlt:=Qy7 hs hij hx hy;rw[List.getElem_set,List.getElem_set]
 split
 ·rename_i e;subst e;rw[if_neg (by omega)];have:=hid _ hx;omega
 ·split
  ·rename_i e;subst e;have:=hid _ hy;omega
  ·exact hlt
theorem XE{M:List Pt}{i:Nat}{p x:Pt}(h:x∈M.set i p):x=p\/x∈M:=by
 rcases Jq h with h|h
 ·exact .inr h
 ·exact .inl h
theorem DO{M:List Pt}{i:Nat}{x:Pt}(h:x∈M.take i++M.drop (i+1)):x∈M:=by
 rcases Qp.1 h with h|h
 ·exact Qn h
 ·exact Qz h
theorem tC{M:List Pt}(hs:Sj M)(i:Nat):Sj (M.take i++M.drop (i+1)):=by
 have h:=hs;unfold Sj at h ⊢;rw[<-Zh i M,Z4]at h;refine Z4.2 ⟨h.1,?_,λx hx y hy=>h.2.2 x hx y ?_⟩
 ·have:M.drop (i+1)=(M.drop i).drop 1:=by rw[Jx]
  rw[this];exact h.2.1.sublist (List.drop_sublist _ _)
 ·have:M.drop (i+1)=(M.drop i).drop 1:=by rw[Jx]
  rw[this]at hy;exact Qz hy
abbrev EnD(f:Nat)(args:Uw)(E:Es)(res:Uw)(E':Es):Prop:=U6 prog f args (enB 0 E) res (enB 0 E')
theorem CM{E:Es}{b:Int}(h:EOk b E){lx ly:Uu}{px py:Uo}{x y:LV}{d id:Int}(hx:IsInts lx px)(hy:IsInts ly py)(hd:Gd x y d)(hk:Cs 4294967294 1073741824 (Crv.mk px py d)) :
 ∃E',EOk b E'/\E'.m=(E.m.ins ⟨Crv.norm (Crv.mk px py d),id⟩).1/\EnD 58 [.one (.ow 0 0),.oi id,.agg [.row lx,.row ly,x,y]] E [.one (.int .i64 (E.m.ins ⟨Crv.norm (Crv.mk px py d),id⟩).2)] E':=by
 have hM:=h.m.m;have hl6:=hM.ln;have ct:=Qud (np:=E.np) (nd:=E.nd) (l:=E.M) (id:=id) hx hy hd hk (by omega);obtain⟨p,hp⟩:=nmE (Pt.mk (Crv.norm (Crv.mk px py d)) id);have hpn:ZC p.c:=by rw[hp];exact Crv.nml _
 by_cases e:Nu E.np E.nd E.M p=0
 ·have e0:XL p=true/\has E.M p.id=false/\¬E.nd<PH p.c/\¬E.np<=(E.M.length:Int):=by
   unfold Nu at e;by_cases a1:XL p=false
   ·rw[if_pos a1]at e;cases e
   rw[if_neg a1]at e;by_cases a2:has E.M p.id=true
   ·rw[if_pos a2]at e;cases e
   rw[if_neg a2]at e;by_cases a3:E.nd<PH p.c
   ·rw[if_pos a3]at e;cases e
   rw[if_neg a3]at e;by_cases a4:E.np<=(E.M.length:Int)
   ·rw[if_pos a4]at e;cases e
   exact⟨by simpa using a1,by simpa using a2,a3,a4⟩
  obtain⟨f1,f2,f3,f4⟩:=e0;obtain⟨g1,g2⟩:=Qiy f1;have hsc:=Qsr (np:=E.np) hpn h.nd.2 g2 f3;have hpl:(put E.M p).length<=6:=by rw[oI];have:=h.np.2;omega
  have hM':MOk (put E.M p):=⟨λz hz=>by rcases MO hz with rfl|hz;exact hsc;exact hM.sc z hz,hpl,EK hM.so f2⟩;have hME:MEn E.np E.nd (put E.M p):=⟨hM',by rw[oI];have:=h.np.2;omega,λz hz=>by rcases MO hz with rfl|hz;omega;exact h.m.deg z hz,λz hz=>by rcases MO hz with rfl|hz;exact g1;exact h.m.id z hz⟩;have hpe:WU E.M p=0:=by unfold WU;rw[if_neg (by rw[f2];decide),if_neg (by have:=h.np.2;omega)]
  rw[hp]at e hpe hM' hME hpl;rw[e,if_pos rfl]at ct;obtain⟨w1,l1,a1⟩:=h.s.again okS hM';obtain⟨w2,l2,a2⟩:=h.t.again okT hM';obtain⟨w3,l3,a3⟩:=h.h.again okH hM';obtain⟨w4,l4,a4⟩:=h.p.again okP hM';obtain⟨w5,l5,a5⟩:=h.d.again okD hM';have c1:=Qtw (c:=E.s) (l:=E.M) (r1:=IF E.M (tq E.q)) hx hy hd hk (by omega) hpe h.s.st.inv.ok hM'.sc (by omega) l1;have c2:=Qnj (c:=E.t) (l:=E.M) (r1:=pP E.M (tq E.q)) hx hy hd hk (by omega) hpe h.t.st.inv.ok hM'.sc (by omega) l2;have c3:=Qmy (c:=E.h) (l:=E.M) (r1:=brH E.M (tq E.q)) hx hy hd hk (by omega) hpe h.h.st.inv.ok hM'.sc (by omega) l3;have c4:=Qm6 (c:=E.p) (l:=E.M) (r1:=brP E.M (tq E.q)) hx hy hd hk (by omega) hpe h.p.st.inv.ok hM'.sc (by omega) l4;have c5:=Qmv (c:=E.d) (l:=E.M) (r1:=pS E.M (tq E.q)) hx hy hd hk (by omega) hpe h.d.st.inv.ok hM'.sc (by omega) l5;rw[h.s.now]at c1;rw[h.t.now]at c2;rw[h.h.now]at c3;rw[h.p.now]at c4;rw[h.d.now]at c5;obtain⟨b1,r,rfl,rfl,_⟩:=hd;refine⟨⟨E.np,E.nd,put E.M ⟨Crv.norm (Crv.mk px py d),id⟩,E.q,⟨tq E.q,w1,E.s.ev⟩,⟨tq E.q,w2,E.t.ev⟩,⟨tq E.q,w3,E.h.ev⟩,⟨tq E.q,w4,E.p.ev⟩,⟨tq E.q,w5,E.d.ev⟩⟩,⟨h.np,h.nd,hME,h.q,a1,a2,a3,a4,a5,h.es,h.et,h.eh,h.ep,h.ed⟩,?_,?_⟩
  ·unfold Em.ins;show _=if Nu E.np E.nd E.M _=0 then _ else _
   rw[if_pos e];rfl
  ·have e2:(E.m.ins ⟨Crv.norm (Crv.mk px py d),id⟩).2=0:=e;rw[e2];exact Qex ct c1 c2 c3 c4 c5
 ·rw[hp]at e;rw[if_neg e]at ct;obtain⟨b1,r,rfl,rfl,_⟩:=hd;refine⟨E,h,?_,Qbf e ct⟩;unfold Em.ins;show _=if Nu E.np E.nd E.M _=0 then _ else _
  rw[if_neg e]
theorem uP{E:Es}{b:Int}(h:EOk b E){lx ly:Uu}{px py:Uo}{x y:LV}{d id:Int}(hx:IsInts lx px)(hy:IsInts ly py)(hd:Gd x y d)(hk:Cs 4294967294 1073741824 (Crv.mk px py d)) :
 ∃E',EOk b E'/\E'.m=(E.m.rep ⟨Crv.norm (Crv.mk px py d),id⟩).1/\EnD 49 [.one (.ow 0 0),.oi id,.agg [.row lx,.row ly,x,y]] E [.one (.int .i64 (E.m.rep ⟨Crv.norm (Crv.mk px py d),id⟩).2)] E':=by
 have hM:=h.m.m;have hl6:=hM.ln;have ct:=Qn2 (np:=E.np) (nd:=E.nd) (l:=E.M) (id:=id) hx hy hd hk (by omega);obtain⟨p,hp⟩:=nmE (Pt.mk (Crv.norm (Crv.mk px py d)) id);have hpn:ZC p.c:=by rw[hp];exact Crv.nml _
 have hpi:p.id=id:=by rw[hp]
 by_cases e:Nc E.nd E.M p=0
 ·have e0:XL p=true/\has E.M p.id=true/\¬E.nd<PH p.c:=by
   unfold Nc at e;by_cases a1:XL p=false
   ·rw[if_pos a1]at e;cases e
   rw[if_neg a1]at e;by_cases a2:has E.M p.id=false
   ·rw[if_pos a2]at e;cases e
   rw[if_neg a2]at e;by_cases a3:E.nd<PH p.c
   ·rw[if_pos a3]at e;cases e
   exact⟨by simpa using a1,by simpa using a2,a3⟩
  obtain⟨f1,f2,f3⟩:=e0;obtain⟨g1,g2⟩:=Qiy f1;have hsc:=Qsr (np:=E.np) hpn h.nd.2 g2 f3;have hM':MOk (E.M.set (Rx E.M p.id) p):=⟨λz hz=>by rcases XE hz with rfl|hz;exact hsc;exact hM.sc z hz,by rw[Xe];exact hl6,dX hM.so f2⟩;have hME:MEn E.np E.nd (E.M.set (Rx E.M p.id) p):=⟨hM',by rw[Xe];exact h.m.len,λz hz=>by rcases XE hz with rfl|hz;omega;exact h.m.deg z hz,λz hz=>by rcases XE hz with rfl|hz;exact g1;exact h.m.id z hz⟩;rw[hpi]at f2 hM' hME;rw[hp]at e hM' hME;rw[e,if_pos rfl]at ct;obtain⟨w1,l1,a1⟩:=h.s.again okS hM';obtain⟨w2,l2,a2⟩:=h.t.again okT hM';obtain⟨w3,l3,a3⟩:=h.h.again okH hM';obtain⟨w4,l4,a4⟩:=h.p.again okP hM';obtain⟨w5,l5,a5⟩:=h.d.again okD hM';have c1:=Qnb (c:=E.s) (l:=E.M) (r1:=IF E.M (tq E.q)) hx hy hd hk (by omega) f2 h.s.st.inv.ok rfl hM'.sc l1;have c2:=Qfp (c:=E.t) (l:=E.M) (r1:=pP E.M (tq E.q)) hx hy hd hk (by omega) f2 h.t.st.inv.ok rfl hM'.sc l2;have c3:=Qev (c:=E.h) (l:=E.M) (r1:=brH E.M (tq E.q)) hx hy hd hk (by omega) f2 h.h.st.inv.ok rfl hM'.sc l3;have c4:=Qe9 (c:=E.p) (l:=E.M) (r1:=brP E.M (tq E.q)) hx hy hd hk (by omega) f2 h.p.st.inv.ok rfl hM'.sc l4;have c5:=Qeo (c:=E.d) (l:=E.M) (r1:=pS E.M (tq E.q)) hx hy hd hk (by omega) f2 h.d.st.inv.ok rfl hM'.sc l5;rw[h.s.now]at c1;rw[h.t.now]at c2;rw[h.h.now]at c3;rw[h.p.now]at c4;rw[h.d.now]at c5;obtain⟨b1,r,rfl,rfl,_⟩:=hd;refine⟨⟨E.np,E.nd,E.M.set (Rx E.M id) ⟨Crv.norm (Crv.mk px py d),id⟩,E.q,⟨tq E.q,w1,E.s.ev⟩,⟨tq E.q,w2,E.t.ev⟩,⟨tq E.q,w3,E.h.ev⟩,⟨tq E.q,w4,E.p.ev⟩,⟨tq E.q,w5,E.d.ev⟩⟩,⟨h.np,h.nd,hME,h.q,a1,a2,a3,a4,a5,h.es,h.et,h.eh,h.ep,h.ed⟩,?_,?_⟩
  ·unfold Em.rep;show _=if Nc E.nd E.M _=0 then _ else _
   rw[if_pos e];rfl
  ·have e2:(E.m.rep ⟨Crv.norm (Crv.mk px py d),id⟩).2=0:=e;rw[e2];exact Qff ct c1 c2 c3 c4 c5
 ·rw[hp]at e;rw[if_neg e]at ct;obtain⟨b1,r,rfl,rfl,_⟩:=hd;refine⟨E,h,?_,Qbj e ct⟩;unfold Em.rep;show _=if Nc E.nd E.M _=0 then _ else _
  rw[if_neg e]
theorem Qhe{E:Es}{b id:Int}(h:EOk b E) :
 ∃E',EOk b E'/\E'.m=(E.m.del id).1/\EnD 59 [.one (.ow 0 0),.oi id] E [.one (.int .i64 (E.m.del id).2)] E':=by
 have hM:=h.m.m;have hl6:=hM.ln;by_cases f2:has E.M id=true
 ·have ct:=Qn1 (np:=E.np) (nd:=E.nd) (l:=E.M) (by omega) f2;have hpl:=YD f2;have hgl:=Qh5 hpl;have hM':MOk (E.M.take (Rx E.M id)++E.M.drop (Rx E.M id+1)):=⟨λz hz=>hM.sc z (DO hz),by omega,tC hM.so _⟩;have hME:MEn E.np E.nd (E.M.take (Rx E.M id)++E.M.drop (Rx E.M id+1)):=⟨hM',by have:=h.m.len;omega,λz hz=>h.m.deg z (DO hz),λz hz=>h.m.id z (DO hz)⟩;obtain⟨w1,l1,a1⟩:=h.s.again okS hM';obtain⟨w2,l2,a2⟩:=h.t.again okT hM';obtain⟨w3,l3,a3⟩:=h.h.again okH hM';obtain⟨w4,l4,a4⟩:=h.p.again okP hM';obtain⟨w5,l5,a5⟩:=h.d.again okD hM';have c1:=Qm9 (c:=E.s) (l:=E.M) (r1:=IF E.M (tq E.q)) (by omega) f2 h.s.st.inv.ok rfl hM'.sc l1;have c2:=Qfo (c:=E.t) (l:=E.M) (r1:=pP E.M (tq E.q)) (by omega) f2 h.t.st.inv.ok rfl hM'.sc l2;have c3:=Qeu (c:=E.h) (l:=E.M) (r1:=brH E.M (tq E.q)) (by omega) f2 h.h.st.inv.ok rfl hM'.sc l3;have c4:=Qe8 (c:=E.p) (l:=E.M) (r1:=brP E.M (tq E.q)) (by omega) f2 h.p.st.inv.ok rfl hM'.sc l4;have c5:=Qen (c:=E.d) (l:=E.M) (r1:=pS E.M (tq E.q)) (by omega) f2 h.d.st.inv.ok rfl hM'.sc l5;rw[h.s.now]at c1;rw[h.t.now]at c2;rw[h.h.now]at c3;rw[h.p.now]at c4;rw[h.d.now]at c5;have e2:E.m.del id=({ E.m with M:=E.M.take (Rx E.M id)++E.M.drop (Rx E.M id+1) },0):=if_pos f2;rw[e2];exact⟨⟨E.np,E.nd,E.M.take (Rx E.M id)++E.M.drop (Rx E.M id+1),E.q,⟨tq E.q,w1,E.s.ev⟩,⟨tq E.q,w2,E.t.ev⟩,⟨tq E.q,w3,E.h.ev⟩,⟨tq E.q,w4,E.p.ev⟩,⟨tq E.q,w5,E.d.ev⟩⟩,⟨h.np,h.nd,hME,h.q,a1,a2,a3,a4,a5,h.es,h.et,h.eh,h.ep,h.ed⟩,rfl,Qep ct c1 c2 c3 c4 c5⟩
 ·have e2:E.m.del id=(E.m,5):=if_neg f2;rw[e2];exact⟨E,h,rfl,Qba (show(5:Int)≠0 by decide) (Qgi (by omega) (by simpa using f2))⟩
theorem YG{E:Es}{b:Int}(h:EOk b E)(hb:b<=900000000000000000){x0 x1 x2 x3:LV}{n m:Int}{t:Rat}(ha:Gd x0 x1 n)(hc:Gd x2 x3 m)(sa:Fc n<=4294967295)(sb:Fc m<=4294967295)(ht:Gh n m=t) :
 ∃E',EOk (b+67000000) E'/\E'.m=(E.m.adv t).1/\((E.m.adv t).2≠0->E'=E)/\EnD 17 [.one (.ow 0 0),.agg [x0,x1,x2,x3]] E [.one (.int .i64 (E.m.adv t).2)] E':=by
 have hM:=h.m.m;have hl6:=hM.ln;by_cases hs:Qs 128 t
 ·by_cases hp:t<E.q
  ·have e2:E.m.adv t=(E.m,8):=by unfold Em.adv;rw[if_pos hs];exact if_pos hp
   rw[e2];exact⟨E,h.mono (by omega),rfl,λ_=>rfl,AN ha hc sa sb ht hs h.q hp⟩
  ·have hqt:E.q<=t:=Rat.not_lt.1 hp;have e2:E.m.adv t=(({ E.m with q:=t,s:=E.s.ev+(cnt (JA E.M) E.q t:Nat),t:=E.t.ev+(cnt (xF E.M) E.q t:Nat),h:=E.h.ev+(cnt (AM E.M) E.q t:Nat),p:=E.p.ev+(cnt (dE E.M) E.q t:Nat),d:=E.d.ev+(cnt (wQ E.M) E.q t:Nat) }:Em),0):=by unfold Em.adv;rw[if_pos hs];exact if_neg hp
   rw[e2];have hq:Qs 1640000 t:=hs.mono (by decide);obtain⟨K1,d1,k1,g1,a1,v1,u1,_⟩:=h.s.adv okS hM hq hqt;obtain⟨K2,d2,k2,g2,a2,v2,u2,_⟩:=h.t.adv okT hM hq hqt;obtain⟨K3,d3,k3,g3,a3,v3,u3,_⟩:=h.h.adv okH hM hq hqt;obtain⟨K4,d4,k4,g4,a4,v4,u4,_⟩:=h.p.adv okP hM hq hqt;obtain⟨K5,d5,k5,g5,a5,v5,u5,_⟩:=h.d.adv okD hM hq hqt;have hcm:∀{c:Cr},c.now=tq E.q->Fo c.now t<=0:=λ{c} hn=>by
    rw[hn,sY];exact MF.2 hqt
   have c1:=Qtu hq hM.sc (by omega) h.s.st.inv.ok (by have:=h.es;omega) (hcm h.s.now) g1;have c2:=Qni hq hM.sc (by omega) h.t.st.inv.ok (by have:=h.et;omega) (hcm h.t.now) g2;have c3:=Qtj hq hM.sc (by omega) h.h.st.inv.ok (by have:=h.eh;omega) (hcm h.h.now) g3;have c4:=Qm5 hq hM.sc (by omega) h.p.st.inv.ok (by have:=h.ep;omega) (hcm h.p.now) g4;have c5:=Qth hq hM.sc (by omega) h.d.st.inv.ok (by have:=h.ed;omega) (hcm h.d.now) g5;refine⟨⟨E.np,E.nd,E.M,t,d1,d2,d3,d4,d5⟩,⟨h.np,h.nd,h.m,hs,a1,a2,a3,a4,a5,?_,?_,?_,?_,?_⟩,?_,λh=>absurd rfl h,Qa8 ha hc sa sb ht hs h.q hqt c1 c2 c3 c4 c5⟩
   ·have:=h.es;show 0<=d1.ev/\d1.ev<=_;omega
   ·have:=h.et;show 0<=d2.ev/\d2.ev<=_;omega
   ·have:=h.eh;show 0<=d3.ev/\d3.ev<=_;omega
   ·have:=h.ep;show 0<=d4.ev/\d4.ev<=_;omega
   ·have:=h.ed;show 0<=d5.ev/\d5.ev<=_;omega
   ·unfold Es.m;simp only[v1,v2,v3,v4,v5]
 ·have e2:E.m.adv t=(E.m,1):=by unfold Em.adv;exact if_neg hs
  rw[e2];exact⟨E,h.mono (by omega),rfl,λ_=>rfl,xH ha hc sa sb ht hs⟩
noncomputable def Em.ans(A:Em)(t:Rat):Ut:=if (A.adv t).2=0 then Qa0 A.M t else Qxj
theorem aW{E:Es}{b:Int}(h:EOk b E)(hb:b<=900000000000000000){x0 x1 x2 x3:LV}{n m:Int}{t:Rat}(ha:Gd x0 x1 n)(hc:Gd x2 x3 m)(sa:Fc n<=4294967295)(sb:Fc m<=4294967295)(ht:Gh n m=t) :
 EnD 20 [.one (.ow 0 0),.agg [x0,x1,x2,x3]] E [.agg (E.m.ans t),.one (.int .i64 (E.m.adv t).2)] E:=by
 obtain⟨E',h1,h2,h3,h4⟩:=YG h hb ha hc sa sb ht;obtain⟨b1,r1,rfl,rfl,_⟩:=ha;obtain⟨b2,r2,rfl,rfl,_⟩:=hc;unfold Em.ans;by_cases e:(E.m.adv t).2=0
 ·rw[if_pos e];rw[e]at h4 ⊢;have hs:Qs 128 t/\¬t<E.q:=by
   unfold Em.adv at e;by_cases a:Qs 128 t
   ·rw[if_pos a]at e;by_cases a':t<E.m.q
    ·rw[if_pos a']at e;cases e
    ·exact⟨a,a'⟩
   ·rw[if_neg a]at e;cases e
  have e2:E.m.adv t=(({ E.m with q:=t,s:=E.s.ev+(cnt (JA E.M) E.q t:Nat),t:=E.t.ev+(cnt (xF E.M) E.q t:Nat),h:=E.h.ev+(cnt (AM E.M) E.q t:Nat),p:=E.p.ev+(cnt (dE E.M) E.q t:Nat),d:=E.d.ev+(cnt (wQ E.M) E.q t:Nat) }:Em),0):=by unfold Em.adv;rw[if_pos hs.1];exact if_neg hs.2
  rw[e2]at h2;obtain⟨np,nd,M,q,s,u,v,p,d⟩:=E';unfold Es.m at h2;injection h2 with i1 i2 i3 i4;dsimp only at i1 i2 i3 i4;subst i1 i2 i3 i4;exact Qbi h.q h.m.m.ln h4
 ·rw[if_neg e];rw[h3 e]at h4;exact Qfd e h.q h4
end Orr
namespace Orr
open Go Go.Proofs Tryz Orq
set_option maxRecDepth 10000
theorem Qv0{E:Es}{b:Int}(h:EOk b E):∀x∈E.M,Qd4 4294967294 1073741824 x:=λx hx=>by
 have:=h.m.m.sc x hx;exact⟨this.n,this.c.mono (by decide) (by decide)⟩
theorem Qus{E:Es}{b:Int}(h:EOk b E):EnD 26 [.one (.ow 0 0)] E [.agg (Qa0 E.M E.q)] E:=xN h.m.m.ln
end Orr
namespace Orr
theorem bz1:Bd 9000000 [1]:=λz hz=>by obtain rfl:=Qk.1 hz;decide
theorem bz2:Bd 9000000 [0,1]:=λz hz=>by
 simp only[Ql,Jn,or_false]at hz;rcases hz with rfl|rfl <;> decide
theorem Q0m:∀z∈([0,1]:Uo),Fc z≤1:=by
 intro z hz;simp only[Ql,Jn,or_false]at hz;rcases hz with rfl|rfl <;> decide
theorem rz:RRun [1] 1 [0,1] []:=by
 refine .step (by decide) (by decide) bz2 bz1 ?_;rw[show tU [0,1] [1]=[] by decide];exact .stop (by decide)
theorem dz2:DOk [0,1] [1] [0,1]:=by
 refine⟨by decide,by decide,by decide,bz1,[0,1],[],1,bz2,by decide,?_,by decide⟩;refine .step (by decide) (by decide) bz2 (by decide) (by decide) (by decide) ?_;exact .stop (by decide)
theorem dz1:DOk [1] [1] [1]:=by
 refine⟨by decide,by decide,by decide,bz1,[1],[],1,bz1,by decide,?_,by decide⟩;refine .step (by decide) (by decide) bz1 (by decide) (by decide) (by decide) ?_;exact .stop (by decide)
theorem Qv5:Qd5 0 [[-(0:Rat).num,((0:Rat).den:Int)],[1]]:=by
 show Qd5 0 [[0,1],[1]];refine⟨[0,1],?_⟩;show ChRun [0,1] [0,1] [[0,1],[1]];have e1:To [0,1]=[0,1]:=by decide
 have e2:Gy [0,1]=[1]:=by decide
 have e3:To [1]=[1]:=by decide
 have e4:Bm [1]=[1]:=by decide
 refine⟨⟨1,λ_=>[0,1],⟨⟨1,[[0,1],[1]],?_,rfl,λk hk=>?_⟩,by decide⟩,λi hi=>?_,by decide⟩,⟨1,?_⟩,λz hz=>Qc (Q0m z hz) (by decide),by decide,by decide⟩
 ·rw[e1];refine .step (by decide) (by decide) (by show trim _=_;decide) bz2 (by show Bd _ (Gy [0,1]);rw[e2];exact bz1) (m:=1) (g:=[1]) ?_ (by decide) (.stop (by decide));show GRun 1 (To [0,1]) (To (Gy [0,1])) [1];rw[e1,e2,e3];refine .step (by decide) (by decide) bz1 rz (by decide) (λz hz=>by cases hz) rfl ?_;rw[show To []=[] by decide];exact .stop _
 ·obtain rfl:k=0:=by omega
  exact⟨[0,1],[1],[0,1],dz2,dz1,by rw[e1,e3];exact dz2,e1.symm⟩
 ·obtain rfl:i=0:=by omega
  exact⟨bz1,by decide,bz2,by decide⟩
 ·rw[e2,e4];refine .step (by decide) (by decide) bz1 (m:=1) (r:=[]) rz rfl (λz hz=>by cases hz) (by decide) (by decide) (by decide) ?_;exact .stop (by decide)
end Orr
namespace Orr
open Go Go.Proofs Tryz Orq
set_option maxRecDepth 10000
theorem Qhg{q:Rat}{c:Up}:Ul 324 [.one (.row []),.agg (aq q c)] [.one (.row [])]:=by
 refine Fv func324 rfl ?_;refine Uf [.z 5] rfl ?_;refine Uk (S:=Unit) 1 (λL1 _=>(10,.v (.oi 0))::(5,.v (.one (.row [])))::L1) (λ_=>[.blk 90 (aq q c)]) (λ_=>0) (λ_=>True) () trivial rfl rfl λ_ _=>?_
 exact Uh [.f rfl] rfl
theorem mL:Ul 326 [.one (.row [])] [.one (.row [])]:=by
 refine Fv func326 rfl ?_;refine Uf [.z 3] rfl ?_;refine Uk (S:=Unit) 0 (λL1 _=>(8,.v (.oi 0))::(3,.v (.one (.row [])))::L1) (λ_=>[]) (λ_=>0) (λ_=>True) () trivial rfl rfl λ_ _=>?_
 exact Uh [.f rfl] rfl
theorem Qhd:Ul 328 [.one (.row [])] [.one (.row [])]:=by
 refine Fv func328 rfl ?_;refine Uf [.z 3] rfl ?_;refine Uk (S:=Unit) 0 (λL1 _=>(8,.v (.oi 0))::(3,.v (.one (.row [])))::L1) (λ_=>[]) (λ_=>0) (λ_=>True) () trivial rfl rfl λ_ _=>?_
 exact Uh [.f rfl] rfl
theorem Qhh:Ul 331 [.one (.row [])] [.one (.row [])]:=by
 refine Fv func331 rfl ?_;refine Uf [.z 3,.k Qhd] rfl ?_;refine Uk (S:=Unit) 0 (λL1 _=>(11,.v (.oi 0))::(3,.v (.one (.row [])))::L1) (λ_=>[]) (λ_=>0) (λ_=>True) () trivial rfl rfl λ_ _=>?_
 exact Uh [.f rfl] rfl
section
variable{q:Rat}{c:Up}
theorem Qhf:Ul 294 [.one (.row []),.agg (aq q c)] [.one (.row [])]:=by
 refine Fv func294 rfl ?_;refine Uf [.k Qhg,.z 6] rfl ?_;refine Uk (S:=Unit) 1 (λL1 _=>(7,.v (.oi 0))::(6,.v (.one (.row [])))::L1) (λ_=>[.blk 90 (aq q c)]) (λ_=>0) (λ_=>True) () trivial rfl rfl λ_ _=>?_
 exact Uh [.f rfl,.k mL] rfl rfl (by simp[U3])
theorem Qut:Ul 295 [.one (.row []),.agg (aq q c)] [.one (.row [])]:=Ui func295 rfl [.t rfl,.z 4] rfl
theorem Qcc:Ul 329 [.one (.row []),.agg (aq q c)] [.one (.row [])]:=Ui func329 rfl [.k Qhh,.t rfl] rfl
theorem Qup:Ul 296 [.one (.row []),.agg (aq q c)] [.one (.row [])]:=by
 refine Fv func296 rfl ?_;refine Uf [.k Qhf,.k Qcc] rfl ?_;refine Uk (S:=Unit) 1 (λL1 _=>(7,.v (.oi 0))::(5,.v (.one (.row [])))::L1) (λ_=>[.blk 90 (aq q c)]) (λ_=>0) (λ_=>True) () trivial rfl rfl λ_ _=>?_
 exact Uh [.f rfl,.f rfl,.k mL] rfl
abbrev zPq:Ut:=[.row [],.row [],.row [],.row [],.bool false,.row [],.int .i64 0]
theorem Qcb:Ul 330 [.one (.row []),.agg (aq q c)] [.agg zPq,.agg zPq,.one (.bool false)]:=Ui func330 rfl [.k Qhd,.t rfl] rfl
theorem Qur:Ul 297 [.one (.row []),.agg (aq q c)] [.one (.row [])]:=Ui func297 rfl [.k Qcb,.t rfl,.z 4] rfl
theorem Quq:Ul 298 [.one (.row []),.agg (aq q c)] [.one (.row [])]:=by
 refine Fv func298 rfl ?_;refine Uf [.k Qhh,.z 6] rfl ?_;refine Uk (S:=Unit) 1 (λL1 _=>(15,.v (.oi 0))::(6,.v (.one (.row [])))::L1) (λ_=>[.blk 90 (aq q c)]) (λ_=>0) (λ_=>True) () trivial rfl rfl λ_ _=>?_
 exact Uh [.f rfl,.k mL] rfl
theorem UN(k:Nat)(hk:k<5):Ul 201 [.oi k,.one (.row []),.agg (aq q c)] [.one (.row [])]:=by
 refine(?_:Ul 263 [.oi k,.one (.row []),.agg (aq q c)] [.one (.row [])]->_) ?_
 ·intro h;exact Ui func201 rfl [.k h] rfl
 ·rcases(show k=0\/k=1\/k=2\/k=3\/k=4 by omega)with rfl|rfl|rfl|rfl|rfl
  ·exact Ui func263 rfl [.t rfl,.k Qhf] rfl
  ·exact Ui func263 rfl [.f rfl,.t rfl,.k Qut] rfl
  ·exact Ui func263 rfl [.f rfl,.f rfl,.t rfl,.k Qup] rfl
  ·exact Ui func263 rfl [.f rfl,.f rfl,.f rfl,.t rfl,.k Qur] rfl
  ·exact Ui func263 rfl [.f rfl,.f rfl,.f rfl,.f rfl,.k Quq] rfl
end
theorem CN:Ul 200 [.one (.row []),.one (.row [])] [.one (.row [])]:=by
 refine Fv func200 rfl ?_;refine Uf [] rfl ?_;refine Uk (S:=Unit) 0 (λL1 _=>(9,.v (.oi 0))::L1) (λ_=>[]) (λ_=>0) (λ_=>True) () trivial rfl rfl λ_ _=>?_
 exact Uh [.f rfl] rfl
end Orr
namespace Orr
open Go Go.Proofs Tryz Orq
set_option maxRecDepth 10000
theorem kE{b:Int}(h:0<=b):0<=(0:Int)/\(0:Int)<=b:=⟨J7 _,h⟩
def AO(np nd:Int):Es:=⟨np,nd,[],0,Qmo [] (tq 0),Qxq [] (tq 0),Qxo [] (tq 0),Qxp [] (tq 0),Qxn [] (tq 0)⟩
theorem YN:MOk []:=⟨λp h=>(by cases h),by decide,List.Pairwise.nil⟩
theorem Qi8{np nd:Int}(h1:1<=np/\np<=6)(h2:0<=nd/\nd<=2):EOk 0 (AO np nd):=by
 have hq:Qs 1640000 (0:Rat):=⟨by decide,by decide⟩;exact⟨h1,h2,⟨YN,by show((0:Nat):Int)<=np;omega,λp h=>(by cases h),λp h=>(by cases h)⟩,(show Qs 128 (0:Rat) from⟨by decide,by decide⟩),At.begin okS YN hq,At.begin okT YN hq,At.begin okH YN hq,At.begin okP YN hq,At.begin okD YN hq,kE (J7 _),kE (J7 _),kE (J7 _),kE (J7 _),kE (J7 _)⟩
theorem Qe4{np nd:Int}(h1:1<=np/\np<=6)(h2:0<=nd/\nd<=2):U6 prog 54 [.oi np,.oi nd] [] [.one (.ow 0 0),.oi 0] (enB 0 (AO np nd)):=Qti h1 h2
theorem Qw1:(WE (JA PU) (IF PU) 3 600 (Qmo PU (tq 0)) (IF PU (tq 0)) 0).map (λx=>x.2.2)=some 1:=by decide +kernel
theorem Qq7:(Rr (tq 3) PU).map (·.id)=[2,1]:=by decide +kernel
theorem Qi1:MOk PU:=⟨Qzo,by decide,by unfold Sj PU;decide⟩
theorem Qw0:cnt (JA PU) 0 3=1:=by
 have hq:Qs 1640000 (0:Rat):=⟨by decide,by decide⟩;have ht:Qs 1640000 (3:Rat):=⟨by decide,by decide⟩;have S:=okS.st PU Qi1;have hv:=AQ hq;have hP:=okS.cp PU Qi1;have hm:=vM hP;have hmu:=Qsi ((kS.al PU).flatMap IV) (tq 0);have hl:(Ef PU).length=8:=by rw[kL];rfl
 have hc:¬Nv (tq 3) (tq 0):=λh'=>by
  have:=(HT hv.cut).2 h';rw[sY]at this;exact absurd this (by decide +kernel)
 have hl2:(kS.al PU).length=8:=hl;obtain⟨c',r',E,g1,g2,g3,g4,g5,g6⟩:=Qsa S ht hP (λa _=>okS.al PU a) 599 ⟨tq 0,(Fw (JA PU (tq 0))).map fresh,0⟩ (IF PU (tq 0)) 0 (Qc hmu (by omega)) (Qeh S hv) hc;have h1:=Qw1;have g1:WE (JA PU) (IF PU) 3 600 (Qmo PU (tq 0)) (IF PU (tq 0)) 0=some (c',r',0+((E.length:Nat):Int)):=g1;rw[g1]at h1;have h1:some (0+((E.length:Nat):Int))=some 1:=h1;injection h1 with h1;rw[Qgv S hv g6];omega
theorem Qja:Crv.norm (Crv.mk [0,1] [] 0)=run1:=by
 have e:Crv.norm (Crv.mk [0,1] [] 1)=Crv.norm (Crv.mk [0,1] [] 0):=by simp only[Crv.norm,Crv.g,Crv.d'];rfl
 rw[<-e];exact Crv.norm_of LU
theorem Qx7:Ul 80 [.one (.row [[.bool false,.row []],[.bool false,.row [[.int .u32 1]]]]),.one (.row [])] [.agg (cl run1)]:=by
 have i01:IsInts [[.bool false,.row []],[.bool false,.row [[.int .u32 1]]]] [0,1]:=by
  refine⟨⟨_,_,rfl,false,[],rfl,rfl,(λx hx=>by cases hx),rfl⟩,⟨_,_,rfl,false,[1],rfl,rfl,(λx hx=>by rw[Qk.1 hx];decide),rfl⟩,trivial⟩
 have h:=Qrv (lx:=[[.bool false,.row []],[.bool false,.row [[.int .u32 1]]]]) (ly:=[]) (px:=[0,1]) (py:=[]) i01 trivial ⟨U5 cs_run1.x (by decide),ZL,by show Fc 0<=_;decide,by show 2<=1073741824;decide,by show 0<=1073741824;decide⟩;rw[Qja]at h;exact h
theorem Qpz:Nu 2 1 [] ⟨run1,1⟩=0:=by decide +kernel
theorem Qp0:Nu 2 1 [⟨run1,1⟩] ⟨O7 1 0,2⟩=0:=by decide +kernel
theorem Qw3:∃E1 E2:Es,EOk 0 E2/\E2.m=⟨2,1,PU,0,0,0,0,0,0⟩/\EnD 58 [.one (.ow 0 0),.oi 1,.agg (cl run1)] (AO 2 1) [.oi 0] E1/\EnD 58 [.one (.ow 0 0),.oi 2,.agg (cl (O7 1 0))] E1 [.oi 0] E2:=by
 have h0:=Qi8 (np:=2) (nd:=1) (by decide) (by decide);have hst:=tH (x:=1) (y:=0) (by decide) (by decide);have e1:Crv.norm (Crv.mk run1.x run1.y run1.d)=run1:=Crv.norm_of LU;have e2:Crv.norm (Crv.mk (O7 1 0).x (O7 1 0).y (O7 1 0).d)=O7 1 0:=Crv.norm_of hst.n;obtain⟨E1,a1,a2,a3⟩:=CM h0 (id:=1) (Gp run1.x) (Gp run1.y) (U4 run1.d) (cs_run1.up (by decide) (by decide));rw[e1]at a2 a3;have i1:(AO 2 1).m.ins ⟨run1,1⟩=((⟨2,1,[⟨run1,1⟩],0,0,0,0,0,0⟩:Em),0):=by
  unfold Em.ins;rw[show Nu (AO 2 1).m.np (AO 2 1).m.nd (AO 2 1).m.M ⟨run1,1⟩=0 from Qpz,if_pos rfl];rfl
 rw[i1]at a2 a3;obtain⟨E2,b1,b2,b3⟩:=CM a1 (id:=2) (Gp (O7 1 0).x) (Gp (O7 1 0).y) (U4 (O7 1 0).d) (hst.c.mono (by decide) (by decide));rw[e2,a2]at b2 b3;have i2:((⟨2,1,[⟨run1,1⟩],0,0,0,0,0,0⟩:Em),(0:Int)).1.ins ⟨O7 1 0,2⟩=((⟨2,1,PU,0,0,0,0,0,0⟩:Em),0):=by
  unfold Em.ins;dsimp only;rw[Qp0,if_pos rfl];rfl
 rw[i2]at b2 b3;exact⟨E1,E2,b1,b2,a3,b3⟩
theorem Qsg{E:Es}{A:Em}(h:E.m=A):E.np=A.np/\E.nd=A.nd/\E.M=A.M/\E.q=A.q/\E.s.ev=A.s/\E.t.ev=A.t/\E.h.ev=A.h/\E.p.ev=A.p/\E.d.ev=A.d:=by subst h;exact⟨rfl,rfl,rfl,rfl,rfl,rfl,rfl,rfl,rfl⟩
theorem Qd8{A:Em}{t:Rat}(h1:Qs 128 t)(h2:¬t<A.q):A.adv t=(({ A with q:=t,s:=A.s+(cnt (JA A.M) A.q t:Nat),t:=A.t+(cnt (xF A.M) A.q t:Nat),h:=A.h+(cnt (AM A.M) A.q t:Nat),p:=A.p+(cnt (dE A.M) A.q t:Nat),d:=A.d+(cnt (wQ A.M) A.q t:Nat) }:Em),0):=by
 unfold Em.adv;rw[if_pos h1];exact if_neg h2
theorem HC:Ul 30 [] [.one (.bool true)]:=by
 obtain⟨E1,E2,h2,m2,i1,i2⟩:=Qw3;have ht:Qs 128 (3:Rat):=⟨by decide,by decide⟩;obtain⟨E3,h3,m3,_,a3⟩:=YG h2 (by decide) (U4 (3:Rat).num) (U4 ((3:Rat).den:Int)) (by decide) (by decide) (Sw 3);rw[m2,Qd8 ht (by show ¬(3:Rat)<0;decide)]at m3 a3;obtain⟨_,_,e1,e2,e3,_⟩:=Qsg m2;obtain⟨_,_,f1,f2,f3,_⟩:=Qsg m3;dsimp only at e1 e2 e3 f1 f2 f3;rw[Qw0]at f3;have t2:=xN (np:=E2.np) (nd:=E2.nd) (M:=E2.M) (q:=E2.q) (s:=E2.s) (t:=E2.t) (h:=E2.h) (p:=E2.p) (d:=E2.d) h2.m.m.ln;have t3:=xN (np:=E3.np) (nd:=E3.nd) (M:=E3.M) (q:=E3.q) (s:=E3.s) (t:=E3.t) (h:=E3.h) (p:=E3.p) (d:=E3.d) h3.m.m.ln;obtain⟨A2,hA2⟩:=nmE (Qa0 E2.M E2.q);obtain⟨A3,hA3⟩:=nmE (Qa0 E3.M E3.q);rw[<-hA2]at t2;rw[<-hA3]at t3;have g2:∃a b c d,A2=[ids [1,2],.row a,.row b,.row c,.row d]:=by
  rw[hA2,e1,e2];show ∃a b c d,[ids ((Rr (tq 0) PU).map (·.id)),_,_,_,_]=_;rw[Qw2];exact⟨_,_,_,_,rfl⟩
 have g3:∃a b c d,A3=[ids [2,1],.row a,.row b,.row c,.row d]:=by
  rw[hA3,f1,f2];show ∃a b c d,[ids ((Rr (tq 3) PU).map (·.id)),_,_,_,_]=_;rw[Qq7];exact⟨_,_,_,_,rfl⟩
 obtain⟨a,b,c,d,rfl⟩:=g2;obtain⟨a',b',c',d',rfl⟩:=g3;have cs:=Qfk (a:=[1,2]) (b:=[1,2]) (by decide) (by decide);have cs2:=Qfk (a:=[2,1]) (b:=[2,1]) (by decide) (by decide);have co:=KW (n:=3) (by decide);have ct:=wG (q:=3) ⟨by decide,by decide⟩;have cst:=Qnc (x:=1) (y:=0) (by decide) (by decide);have ce:=Qel (np:=E3.np) (nd:=E3.nd) (M:=E3.M) (q:=E3.q) (s:=E3.s) (t:=E3.t) (h:=E3.h) (p:=E3.p) (d:=E3.d);rw[f3]at ce;refine Fv func30 rfl ?_;exact Uh [.c Ux (Qe4 (by decide) (by decide)),.f rfl,.f rfl,.z 16,.k Qx7,.c Ux i1,.f rfl,.k cst,.c Ux i2,.f rfl,.c Ux t2,.k co,.k ct,.c Ux a3,.t rfl,.k cs,.t rfl,.c Ux t3,.k cs2,.t rfl,.c Ux ce,.i 0] rfl rfl (by simp[U3])
def vI(z:RawInt):Int:=Fa z.b (val z.l)
def RawInt.cutN(z:RawInt)(n:Nat):RawInt:=⟨z.b,z.l.take n⟩
theorem RawInt.Ok.cutN_ok{z:RawInt}(h:z.Ok)(n:Nat):(z.cutN n).Ok:=⟨λu hu=>h.u u (Qn hu)⟩
theorem YS{z:RawInt}(h:z.Ok):Gd (.bool z.b) (.row (lm z.l)) (vI z):=⟨z.b,z.l,rfl,rfl,h.u,rfl⟩
theorem MN{z:RawInt}(h:z.Ok){n:Nat}(hl:z.l.length<=n):Fc (vI z)<=32*n:=by
 have h1:=Bu z.l h.u;have e:(vI z).natAbs=val z.l:=by unfold vI Fa;split <;> simp
 refine S0.2 ?_;rw[e,Ks];exact Z8 h1 (Zs (by decide) hl)
theorem ZO(z:RawInt)(n:Nat):(z.cutN n).l.length<=n:=by show(z.l.take n).length<=n;rw[Qr];omega
theorem MJ{z:RawInt}{n:Nat}(hn:n<=1000):Ul 203 [.agg (L8 z),.oi n] [.agg (L8 (z.cutN n))] :=
 Ui func203 rfl [.k (Qt3 (l:=z.l) hn)] rfl
theorem Qnp{t u:RawInt}:Ul 131 [.agg (L8 t++L8 u),.oi 6] [.agg (L8 (t.cutN 6)++L8 (u.cutN 6))] :=
 Ui func131 rfl [.k (MJ (z:=t) (n:=6) (by decide)),.k (MJ (z:=u) (n:=6) (by decide))] rfl
theorem wT{l:List RawInt}:Ul 202 [.one (.row (Io l)),.oi 4,.oi 1] [.one (.row (Io ((l.take 4).map (·.cutN 1))))]:=by
 have hll:=O5 l;refine Fv func202 rfl (ln 0 rfl rfl λhzl=>?_);rw[hll]at hzl;refine Uf [.o 7 36 2] rfl ?_;refine Uk (S:=Nat) 1 (λL1 i=>(8,.v (.oi i))::(7,.v (.one (.orow 0 2 none)))::L1) (λi=>[.row false 36 2 (Io ((l.take i).map (·.cutN 1)))]) (λi=>4-i) (λi=>i<=4/\i<=l.length) 0 ⟨by decide,Qh _⟩ rfl rfl λi ⟨hi,hi2⟩=>?_
 have hil:(Io ((l.take i).map (·.cutN 1))).length=i:=by rw[O5,Zb,Qr];omega
 by_cases h1:i<l.length
 ·by_cases h2:i<4
  ·obtain⟨z,hz⟩:=gxE (l:=l) (i:=i) h1;have hm:∀y∈[L8 (z.cutN 1)],y.length=2:=λy hy=>by rw[Qk.1 hy];rfl
   refine go tt [.g 13 true Un,.T,.x (Gx (f:=L8) hz),.k (MJ (n:=1) (by decide)),.s (sz:=2) hm] rfl (by simp[U3,hil,-List.map_take];omega) ?_;exact rd (i+1) (by omega) ⟨h2,h1⟩ (by rw[Z1,hz];simp[Io];rfl)
  ·have e:i=4:=by omega
   have e2:l.take 4=l.take i:=by rw[e]
   rw[e2];exact Uh [.g 13 true Un,.F] rfl
 ·have e:l.take i=l.take 4:=by rw[Qo (by omega),Qo (by omega)]
  rw[e];exact Uh [.g 13 false Um,.f rfl] rfl
theorem Qtg{z:RawPt}:Ul 129 [.agg (rcw z),.oi 4,.oi 1] [.agg [.row (Io ((z.x.take 4).map (·.cutN 1))),.row (Io ((z.y.take 4).map (·.cutN 1))),.bool z.d.b,.row (lm (z.d.l.take 1))]] :=
 Ui func129 rfl [.k (wT (l:=z.x)),.k (wT (l:=z.y)),.k (MJ (z:=z.d) (n:=1) (by decide))] rfl
theorem KA:∀{l:List RawInt},(∀z∈l,z.Ok)->IsInts (Io l) (l.map vI)
 | [],_=>trivial
 |z::l,h=>⟨⟨_,_,rfl,YS (h z (Qy ..))⟩,KA λy hy=>h y (Qg _ hy)⟩
theorem IR{x y:LV}{z:Int}(h:Gd x y z)(hl:∀l,y=.row (lm l)->l.length<=1000):Ul 74 [.agg [x,y]] [.agg (ri z)]:=by
 obtain⟨b,l,rfl,rfl,hs,rfl⟩:=h;have hl:=hl l rfl;have hv:=Bu l hs;have hsz:sz (val l)<=100000000:=by
  refine Qc ((Ns (k:=32*l.length)).2 ?_) (by omega);rw[Ks];exact hv
 exact Ui func74 rfl [.k (Qmw hs (by omega) hsz),.k (Nw b (val l))] rfl
theorem xR{x y x' y':LV}{a b:Int}(h:Gd x y a)(h':Gd x' y' b)(hl:∀l,y=.row (lm l)->l.length<=1000)(hl':∀l,y'=.row (lm l)->l.length<=1000)(sa:Fc a<=90000000)(sb:Fc b<=90000000):Ul 19 [.agg [x,y,x',y']] [.agg (fr (Gh a b))]:=by
 have c1:=IR h hl;have c2:=IR h' hl';have c3:=YJ sa sb;obtain⟨b1,l1,rfl,rfl,_⟩:=h;obtain⟨b2,l2,rfl,rfl,_⟩:=h';exact Ui func19 rfl [.k c1,.k c2,.k c3] rfl
theorem Qiq{a b:Uq}(h:LV.row (lm a)=.row (lm b)):a.length=b.length:=by
 injection h with h;have:=congrArg List.length h;simpa[lm]using this
theorem Qer{q:Rat}(hq:Qs 30000 q):Ul 19 [.agg (rl q)] [.agg (fr q)]:=by
 have e:Gh q.num (q.den:Int)=q:=by
  unfold Gh;rw[if_neg (by have:=q.den_pos;omega)];exact Z7 q
 have ln:∀{z:Int},Fc z<=30000->∀l,mg z=.row (lm l)->l.length<=1000:=λ{z} hz l h=>by
  have h1:=Td (x:=z.natAbs) (k:=30000) hz;have:=Qiq h;omega
 have h:=xR (U4 q.num) (U4 (q.den:Int)) (ln hq.1) (ln hq.2) (Qc hq.1 (by decide)) (Qc hq.2 (by decide));rw[e]at h;exact h
theorem Qi7{m b:Nat}(hb:0<b)(h:0<m % b):(-(m:Int)) % (b:Int)=-((m % b:Nat):Int)+(b:Int):=by
 have h1:=Z6 m hb;have h2:=We m b;have e:-(m:Int)=(-((m % b:Nat):Int)+(b:Int))+(b:Int)*(-((m / b:Nat):Int)-1):=by
  have:(m:Int)=((m % b:Nat):Int)+(b:Int)*((m / b:Nat):Int):=by
   have:=congrArg (λ(n:Nat)=>(n:Int)) h2
   push_cast at this ⊢
   omega
  rw[Int.mul_sub,V7];omega
 rw[e,Int.add_mul_emod_self_left];exact Int.emod_eq_of_lt (by omega) (by omega)
theorem Qbq{a:Int}{b:Nat}(ha:Fc a<=90000000)(hb:Fc (b:Int)<=90000000)(h0:0<b):∃x,Ul 135 [.agg (ri a),.agg (ri (b:Int))] [.agg (ri x),.agg (ri (a % (b:Int)))]:=by
 have cd:=pE (x:=a.natAbs) (y:=(b:Int).natAbs) ha hb (by omega);have eb:(b:Int).natAbs=b:=rfl;have sb:sg (b:Int)=.bool false:=by unfold sg;rw[decide_eq_false (by omega)]
 rw[eb]at cd;have hml:=Z6 a.natAbs h0;rcases Kd a 0 with hn|hn
 ·have sa:sg a=.bool true:=by unfold sg;rw[decide_eq_true hn]
  have m1:=Nw true (a.natAbs / b);have m2:=Nw true (a.natAbs % b);have ea:a=-(a.natAbs:Int):=by omega
  by_cases hr:a.natAbs % b=0
  ·have e:a % (b:Int)=0:=by
    rw[ea];exact Jy ((Int.dvd_neg).2 (Int.ofNat_dvd.2 (Nat.dvd_of_mod_eq_zero hr)))
   rw[e];refine⟨Fa true (a.natAbs / b),?_⟩;rw[hr]at m2 cd;rw[show Fa true 0=0 from rfl]at m2;show Ul 135 [.agg [nd a.natAbs,sg a],.agg [nd (b:Int).natAbs,sg (b:Int)]] _;rw[sa,sb,eb];exact Ui func135 rfl [.k cd,.k m1,.k m2,.t rfl] rfl
  ·have e:=Qi7 h0 (by omega:0<a.natAbs % b);rw[<-ea]at e;have os:Fa true (a.natAbs % b)=-((a.natAbs % b:Nat):Int):=rfl;have ng:decide (Fa true (a.natAbs % b)<0)=true:=by rw[os];exact decide_eq_true (by omega)
   have hsm:Fc (Fa true (a.natAbs % b))<=200000000:=by
    rw[os,Ho];exact Qc (Ri (Nat.mod_le _ _)) (Qc ha (by decide))
   have hsd:Fc (Fa true (a.natAbs / b))<=200000000:=by
    show Fc (-((a.natAbs / b:Nat):Int))<=_;rw[Ho];exact Qc (Ri (Jr _ _)) (Qc ha (by decide))
   have c1:=ZE (n:=1) (by decide);have c2:=Qfy (a:=Fa true (a.natAbs / b)) (b:=1) hsd (by decide);have c3:=mX (a:=Fa true (a.natAbs % b)) (b:=(b:Int)) hsm (Qc hb (by decide));rw[os,<-e]at c3;rw[os]at m2 ng;refine⟨Fa true (a.natAbs / b)-1,?_⟩;show Ul 135 [.agg [nd a.natAbs,sg a],.agg [nd (b:Int).natAbs,sg (b:Int)]] _;have c3':Ul 115 [.agg (ri (-((a.natAbs % b:Nat):Int))),.agg [nd b,.bool false]] [.agg (ri (a % (b:Int)))]:=by rw[<-sb];exact c3
   rw[sa,sb,eb];exact Ui func135 rfl [.k cd,.k m1,.k m2,.f (show(!decide (-((a.natAbs % b:Nat):Int)<0))=false by rw[ng];rfl),.f rfl,.k c1,.k c2,.k c3'] rfl
 ·have sa:sg a=.bool false:=by unfold sg;rw[decide_eq_false (by omega)]
  have m1:=Nw false (a.natAbs / b);have m2:=Nw false (a.natAbs % b);have ea:a=(a.natAbs:Int):=by omega
  have e:a % (b:Int)=((a.natAbs % b:Nat):Int):=by rw[ea];rfl
  have os:Fa false (a.natAbs % b)=((a.natAbs % b:Nat):Int):=rfl;have ng:decide (((a.natAbs % b:Nat):Int)<0)=false:=decide_eq_false (by omega);rw[e];rw[os]at m2;refine⟨Fa false (a.natAbs / b),?_⟩;show Ul 135 [.agg [nd a.natAbs,sg a],.agg [nd (b:Int).natAbs,sg (b:Int)]] _;rw[sa,sb,eb];exact Ui func135 rfl [.k cd,.k m1,.k m2,.t (show(!decide (((a.natAbs % b:Nat):Int)<0))=true by rw[ng];rfl)] rfl
def SN(x:Rat):Rat:=Gh (x.num % (x.den:Int)) (x.den:Int)
theorem Qab{x:Rat}(h:Qs 128 x):Qs 128 (SN x):=by
 have h0:=x.den_pos;have h1:=Yg x.num (b:=(x.den:Int)) (by omega);have h2:=Jt x.num (b:=(x.den:Int)) (by omega);unfold SN Gh;rw[if_neg (by omega)];refine⟨Pd (Qc (Ri (by omega)) h.2),Pa h.2 (by decide)⟩
theorem Qnu{x y x' y':LV}{a b:Int}(h:Gd x y a)(h':Gd x' y' b)(hl:∀l,y=.row (lm l)->l.length<=1000)(hl':∀l,y'=.row (lm l)->l.length<=1000)(sa:Fc a<=90000000)(sb:Fc b<=90000000)(hq:Qs 128 (Gh a b)):Ul 61 [.agg [x,y,x',y']] [.agg (rl (SN (Gh a b)))]:=by
 have c1:=xR h h' hl hl' sa sb;obtain⟨q,hqe⟩:=nmE (Gh a b);rw[<-hqe]at c1 hq ⊢;have c2:=wG (q:=q) (hq.mono (by decide));obtain⟨z,c3⟩:=Qbq (a:=q.num) (b:=q.den) (Qc hq.1 (by decide)) (Qc hq.2 (by decide)) q.den_pos;have h2:=Jt q.num (b:=(q.den:Int)) (by have:=q.den_pos;omega);have h1:=Yg q.num (b:=(q.den:Int)) (by have:=q.den_pos;omega);have c4:=YJ (a:=q.num % (q.den:Int)) (b:=(q.den:Int)) (Qc (Ri (by omega)) (Qc hq.2 (by decide))) (Qc hq.2 (by decide));have c5:=wG (q:=SN q) ((Qab hq).mono (by decide));have l1:=ZP.2 hq.1;have l2:(Gb q.den).length<=4:=by simpa using ZP.2 hq.2
 obtain⟨b1,r1,rfl,rfl,_⟩:=h;obtain⟨b2,r2,rfl,rfl,_⟩:=h';exact Ui func61 rfl [.k c1,.k c2,.f (by simp[kF];omega),.f (by simp[kF];omega),.k c3,.k c4,.k c5] rfl
theorem Qnt{x y x' y':LV}{a b:Int}(h:Gd x y a)(h':Gd x' y' b)(hl:∀l,y=.row (lm l)->l.length<=1000)(hl':∀l,y'=.row (lm l)->l.length<=1000)(sa:Fc a<=32000)(sb:Fc b<=32000)(hq:¬Qs 128 (Gh a b)):Ul 61 [.agg [x,y,x',y']] [.agg [x,y,x',y']]:=by
 have c1:=xR h h' hl hl' (Qc sa (by decide)) (Qc sb (by decide));have hs:Qs 32000 (Gh a b):=by
  unfold Gh
  split
  ·exact⟨Pd sa,Pa (by decide) (by decide)⟩
  ·exact⟨Pd sa,Pa sb (by decide)⟩
 obtain⟨q,hqe⟩:=nmE (Gh a b);rw[<-hqe]at c1 hq hs;have c2:=wG (q:=q) (hs.mono (by decide));obtain⟨b1,r1,rfl,rfl,_⟩:=h;obtain⟨b2,r2,rfl,rfl,_⟩:=h';by_cases h1:Fc q.num<=128
 ·have h2:¬Fc (q.den:Int)<=128:=λh=>hq ⟨h1,h⟩
  have l1:=ZP.2 h1;have l2:¬(Gb q.den).length<=4:=by simpa using mt ZP.1 h2
  exact Ui func61 rfl [.k c1,.k c2,.f (by simp[kF];omega),.t (by simp[kF];omega)] rfl
 ·have l1:=mt ZP.1 h1;exact Ui func61 rfl [.k c1,.k c2,.t (by simp[kF];omega),.t rfl] rfl
theorem XP(a:Int):∀i,Fc (a^i)<=Fc a*i+1
 | 0=>by rw[Wz];show Fc 1<=_;exact Qc (by decide) (Wd 1 _)
 |
  i+1=>by
  rw[Wy];have h1:=Ga (a^i) a;have h2:=XP a i;rw[W5];omega
theorem Qfa{a:Int}{n:Nat}(ha:Fc a<=1000)(hn:n<=256):Ul 209 [.agg (Hg a),.oi n] [.agg (Hg (a^n))]:=by
 refine Fv func209 rfl ?_;refine Uf [.k (BK (z:=1) (by decide)),.r 8 (v:=.oi n) (by simp;omega),.r 9 (v:=.oi n) (by simp)] rfl ?_;refine lp (S:=Nat) 3 (λL1 i=>(10,.v (.oi i))::L1) (λi=>[.blk 36 (Hg a),.blk 36 [.bool false,.nils],.blk 36 (Hg (a^i))]) (λi=>n-i) (λi=>i<=n) 0 (Qh _) rfl (λ_ _=>rfl) (by rw[Wz];rfl) λi hi=>?_
 by_cases h:i<n
 ·have h1:=XP a i;have h2:Fc a*i<=1000*256:=Zd ha (by omega);have cm:=P0 (U4 (a^i)) (U4 a) (by omega) (by omega);rw[<-Wy]at cm;refine Ug [.t (by simp;omega),.k cm] rfl ?_;exact rd (i+1) (by omega) h rfl
 ·obtain rfl:i=n:=by omega
  exact Uh [.f (by simp)] rfl
def Ru(n d:Int):Uo->Uo×Int
 | []=>([],1)
 |x::l=>(A5 (Gl (Ru n d l).1 [n,d]) [x*(Ru n d l).2],(Ru n d l).2*d)
theorem bX(n d:Int):∀l,Fe (Ru n d l).1
 | []=>rfl
 |_::_=>Fy _ _
theorem pF{n d:Int}(hn:Fc n<=130)(hd:Fc d<=130):Bd 130 [n,d]:=λz hz=>by
 rcases Ql.1 hz with rfl|hz
 ·exact hn
 ·rw[Qk.1 hz];exact hd
theorem FU{n d:Int}(hn:Fc n<=130)(hd:Fc d<=130){s:Nat}:∀{l:Uo},Bd s l->l.length<=8->Bd (s+140*l.length) (Ru n d l).1/\(Ru n d l).1.length<=l.length/\Fc (Ru n d l).2<=130*l.length+1
 | [],_,_=>⟨ZL,Qm _,by show Fc 1<=_;exact Qc (by decide) (Wd 1 _)⟩
 |
  x::l,h,hl=>by
  rw[Q5]at hl ⊢;obtain⟨h1,h2,h3⟩:=FU hn hd (λz hz=>h z (Qg _ hz)) (by omega:l.length<=8);have hx:=h x (Qy ..);have b1:=Pi (u:=4) h1 (pF hn hd) (by omega);have b2:Bd (s+(130*l.length+1)) [x*(Ru n d l).2]:=λz hz=>by
   rw[Qk.1 hz];have:=Ga x (Ru n d l).2;omega
  refine⟨U5 (JO b1 b2) (by omega),?_,?_⟩
  ·have h4:=Oe (Gl (Ru n d l).1 [n,d]) [x*(Ru n d l).2];have h5:=Tx (Ru n d l).1 [n,d];simp only[Q5,Jg]at h4 h5;show(A5 _ _).length<=_;omega
  ·have:=Ga (Ru n d l).2 d;show Fc ((Ru n d l).2*d)<=_;omega
theorem Qb8{a:Uo}{j:Nat}{x:Int}(h:a[j]? = some x):a.drop j=x::a.drop (j+1):=by
 obtain⟨h1,h2⟩:=Qe.1 h;rw[Zp h1,h2]
theorem Qe0{a:Uo}{n d:Int}{s:Nat}(ta:Fe a)(ha:Bd s a)(hs:s<=1000)(hl:a.length<=8)(hn:Fc n<=130)(hd:Fc d<=130)(h0:d≠0):Ul 207 [pr a,.agg (Hg n),.agg (Hg d)] [pr (Ru n d a).1,.oi 0]:=by
 have nn:=Mp (U4 n) (by omega);have nd:=Mp (U4 d) (by omega);have cn:=Hr (p:=a) ta (by omega) (U5 ha (by omega));have td:Fe [n,d]:=by simp[Fe,trim,h0]
 refine Fv func207 rfl ?_;refine Ug [.k nd,.k (Di (z:=d)),.f (by simpa using h0),.k cn,.z 8,.k nn,.k nd,.k (BK (z:=1) (by decide)),.r 25 (eI (b:=(a.length:Int)-1) (by simp))] rfl ?_;refine lp (S:=Nat) 3 (λL1 j=>(11,.v (.oi ((j:Int)-1)))::(8,.v (pr (Ru n d (a.drop j)).1))::L1) (λj=>[.blk 36 (Hg n),.blk 36 (Hg d),.blk 36 (Hg (Ru n d (a.drop j)).2)]) (λj=>j) (λj=>j<=a.length) a.length (Qm _) rfl (λ_ _=>rfl) (by rw[Yu];rfl) λj hj=>?_
 cases j with
 |zero=>exact Uh [.f (by simp)] rfl
 |
  succ j =>
  obtain⟨x,hx⟩:=gxE (l:=a) (i:=j) (by omega);obtain⟨b1,b2,b3⟩:=FU hn hd (l:=a.drop (j+1)) (λz hz=>ha z (Qz hz)) (by rw[Q8];omega);have hdl:(a.drop (j+1)).length<=8:=by rw[Q8];omega
  have e:Ru n d (a.drop j)=(A5 (Gl (Ru n d (a.drop (j+1))).1 [n,d]) [x*(Ru n d (a.drop (j+1))).2],(Ru n d (a.drop (j+1))).2*d):=by rw[Qb8 hx];rfl
  have e1:(Ru n d (a.drop j)).1=A5 (Gl (Ru n d (a.drop (j+1))).1 [n,d]) [x*(Ru n d (a.drop (j+1))).2]:=by rw[e]
  have e2:(Ru n d (a.drop j)).2=(Ru n d (a.drop (j+1))).2*d:=by rw[e]
  have tm:=bX n d (a.drop (j+1));obtain⟨P,hP⟩:=nmE ((Ru n d (a.drop (j+1))).1);obtain⟨W,hW⟩:=nmE ((Ru n d (a.drop (j+1))).2);rw[<-hP,<-hW]at e1;rw[<-hW]at e2;rw[<-hP]at b1 b2 tm;rw[<-hW]at b3;have hxs:=ha x (Qa hx);have c1:=KU tm td (by omega) (by show 2<137438953472;decide) b1 (pF hn hd) (by omega);have c2:=P0 (U4 x) (U4 W) (by omega) (by omega);have bm:=Pi (u:=4) b1 (pF hn hd) (by omega);have hm:=Ga x W;have hlm:=Tx P [n,d];simp only[Q5,Jg]at hlm;have c3:=BW (p:=Gl P [n,d]) (q:=[x*W]) (by omega) (by show 1<274877906944;decide) (U5 bm (by omega)) (λz hz=>by rw[Qk.1 hz];omega);rw[<-e1]at c3;have c4:=P0 (U4 W) (U4 d) (by omega) (by omega);rw[<-e2]at c4;rw[show((j+1:Nat):Int)-1=(j:Int) by omega,<-hP,<-hW];refine Ug [.t (by simp),.k c1,.x (Pn hx),.k c2,.k c3,.k c4] rfl ?_;exact rd j (by omega) (by omega) rfl
def tZ(px py:Uo)(q:Rat):Crv:=⟨Fu (Ru (-q).num ((-q).den:Int) (trim px)).1 (((-q).den:Int)^(max ((trim px).length-1) ((trim py).length-1)-((trim px).length-1))),Fu (Ru (-q).num ((-q).den:Int) (trim py)).1 (((-q).den:Int)^(max ((trim px).length-1) ((trim py).length-1)-((trim py).length-1))),((-q).den:Int)^(max ((trim px).length-1) ((trim py).length-1))⟩
theorem Qfe{lx ly:Uu}{px py:Uo}{q:Rat}{s:Nat}(hx:IsInts lx px)(hy:IsInts ly py)(hq:Qs 128 q)(bx:Bd s px)(by_:Bd s py)(hs:s<=1000)(llx:px.length<=8)(lly:py.length<=8) :
 Cs 4294967294 1073741824 (tZ px py q)/\Ul 134 [.one (.row lx),.one (.row ly),.agg (rl q)] [.agg (cl (Crv.norm (tZ px py q)))]:=by
 have cx:=Ce hx (by omega) (U5 bx (by omega));have cy:=Ce hy (by omega) (U5 by_ (by omega));have cg:=Qgd (q:=q) (hq.mono (by decide));have hnq:Qs 128 (-q):=by
  refine⟨?_,?_⟩
  ·rw[Rat.neg_num,Ho];exact hq.1
  ·rw[Rat.neg_den];exact hq.2
 have hX:Bd s (trim px):=Ty bx;have hY:Bd s (trim py):=Ty by_;have lX:(trim px).length<=8:=Qc (H8 px) llx;have lY:(trim py).length<=8:=Qc (H8 py) lly;have h0:((-q).den:Int)≠0:=by have:=(-q).den_pos;omega
 have hn1:Fc (-q).num<=130:=Qc hnq.1 (by decide);have hd1:Fc ((-q).den:Int)<=130:=Qc hnq.2 (by decide);have m1:=Qe0 (Rt px) hX hs (by omega) hn1 hd1 h0;have m2:=Qe0 (Rt py) hY hs (by omega) hn1 hd1 h0;obtain⟨p1,p2,_⟩:=FU hn1 hd1 hX (by omega);obtain⟨q1,q2,_⟩:=FU hn1 hd1 hY (by omega);unfold tZ;obtain⟨D,hD⟩:=nmE (((-q).den:Int));obtain⟨N,hN⟩:=nmE ((-q).num);have hgl:rl (-q)=[sg N,mg N,sg D,mg D]:=by rw[hN,hD]
 rw[hgl]at cg;rw[<-hD,<-hN]at m1 m2 p1 p2 q1 q2 ⊢;rw[<-hD]at hd1;obtain⟨X,hXe⟩:=nmE (trim px);obtain⟨Y,hYe⟩:=nmE (trim py);rw[<-hXe]at cx hX lX m1 p1 p2 ⊢;rw[<-hYe]at cy hY lY m2 q1 q2 ⊢;obtain⟨a,ha⟩:=nmE (X.length-1);obtain⟨b,hb⟩:=nmE (Y.length-1);rw[<-ha,<-hb];obtain⟨k,hk⟩:=nmE (max a b);rw[<-hk];have w1:=Qfa (a:=D) (n:=k-a) (by omega) (by omega);have w2:=Qfa (a:=D) (n:=k-b) (by omega) (by omega);have w3:=Qfa (a:=D) (n:=k) (by omega) (by omega);have z1:=XP D (k-a);have z2:=XP D (k-b);have z3:=XP D k;have y1:Fc D*(k-a)<=130*8:=Zd hd1 (by omega);have y2:Fc D*(k-b)<=130*8:=Zd hd1 (by omega);have y3:Fc D*k<=130*8:=Zd hd1 (by omega);have s1:=Pp (p:=(Ru N D X).1) (c:=D^(k-a)) (by omega) (U5 p1 (by omega)) (by omega);have s2:=Pp (p:=(Ru N D Y).1) (c:=D^(k-b)) (by omega) (U5 q1 (by omega)) (by omega);have e1:=Ge p1 (c:=D^(k-a)) (Qm _);have e2:=Ge q1 (c:=D^(k-b)) (Qm _);have f1:=Fx (Ru N D X).1 (D^(k-a));have f2:=Fx (Ru N D Y).1 (D^(k-b));have hcs:Cs 4294967294 1073741824 ⟨Fu (Ru N D X).1 (D^(k-a)),Fu (Ru N D Y).1 (D^(k-b)),D^k⟩:=⟨U5 e1 (by omega),U5 e2 (by omega),by show Fc (D^k)<=_;omega,by show(Fu _ _).length<=_;omega,by show(Fu _ _).length<=_;omega⟩;refine⟨hcs,?_⟩;have cn:=MX (Gp _) (Gp _) (U4 _) hcs;have ek:((max a b:Nat):Int)=(k:Int):=by rw[hk]
 exact Ui func134 rfl [.k cx,.k cy,.k cg,.k m1,.k m2,.k (P9 X),.r 40 (eI (b:=(a:Int)) (by omega)),.k (P9 Y),.r 43 (eI (b:=(b:Int)) (by omega)),.r 46 (eI (b:=(k:Int)) (by omega)),.r 52 (eI (b:=((k-a:Nat):Int)) (by omega)),.k w1,.k s1,.r 60 (eI (b:=((k-b:Nat):Int)) (by omega)),.k w2,.k s2,.k w3,.k cn] rfl rfl (by simp[U3];omega)
theorem Quo{E:Es}{b:Int}(h:EOk b E){lx ly:Uu}{px py:Uo}{s:Nat}{id:Int}(hx:IsInts lx px)(hy:IsInts ly py)(bx:Bd s px)(by_:Bd s py)(hs:s<=1000)(llx:px.length<=8)(lly:py.length<=8) :
 ∃E',EOk b E'/\E'.m=(E.m.rep ⟨Crv.norm (tZ px py E.q),id⟩).1/\EnD 60 [.one (.ow 0 0),.oi id,.one (.row lx),.one (.row ly)] E [.one (.int .i64 (E.m.rep ⟨Crv.norm (tZ px py E.q),id⟩).2)] E':=by
 obtain⟨hc,cr⟩:=Qfe hx hy h.q bx by_ hs llx lly;have hcn:=hc.norm (by omega);have hnm:=Crv.nml (tZ px py E.q);obtain⟨C,hC⟩:=nmE (Crv.norm (tZ px py E.q));rw[<-hC]at cr hcn hnm ⊢;obtain⟨E',h1,h2,h3⟩:=uP h (id:=id) (Gp C.x) (Gp C.y) (U4 C.d) hcn;have eC:Crv.norm (Crv.mk C.x C.y C.d)=C:=Crv.norm_of hnm;rw[eC]at h2 h3;refine⟨E',h1,h2,?_⟩;refine Fv func60 rfl ?_;exact Uj [] [0,1,2,3,4,5,6] [.k cr,.c Ux h3] rfl
end Orr
namespace Orr
open Go
structure RawOp where
 k:Int
 n:Int
 d:Int
 p:RawPt
 t:RawInt
 u:RawInt
structure RawOp.Ok(o:RawOp):Prop where
 k:-9223372036854775808<=o.k/\o.k<=9223372036854775807
 n:-9223372036854775808<=o.n/\o.n<=9223372036854775807
 d:-9223372036854775808<=o.d/\o.d<=9223372036854775807
 p:o.p.Ok
 t:o.t.Ok
 u:o.u.Ok
abbrev rwo(o:RawOp):Ut:=[.int .i64 o.k,.int .i64 o.n,.int .i64 o.d]++rwq o.p++L8 o.t++L8 o.u
def qS(l:List RawOp):Uu:=l.map rwo
theorem Qc3(l:List RawOp):(qS l).length=l.length:=by simp[qS]
theorem Qc2{l:List RawOp}{i:Nat}{o:RawOp}(h:l[i]? = some o):(qS l)[i]? = some (rwo o):=by rw[qS,Za,h];rfl
end Orr
namespace Orr
open Go Go.Proofs Tryz Orq
set_option maxRecDepth 10000
def Oi(N:Int):Int:=if N=2 then 999 else if N=3 then 99 else 20
theorem gJ(N:Int):0<=Oi N/\Oi N<=999:=by unfold Oi;split;decide;split;decide;decide
def UT(N:Int)(z:RawPt):Crv:=if 1<N then ⟨Gq (Oi N) z.x++(if 3<z.x.length then [1]else []),Gq (Oi N) z.y,H6 3 z.d⟩else ⟨((z.x.take 4).map (·.cutN 1)).map vI,((z.y.take 4).map (·.cutN 1)).map vI,vI (z.d.cutN 1)⟩
theorem Qj7{l:List RawInt}(h:∀a∈l,a.Ok):∀z∈(l.take 4).map (·.cutN 1),z.Ok:=λz hz=>by
 obtain⟨y,hy,rfl⟩:=Q9.1 hz;exact(h y (Qn hy)).cutN_ok 1
theorem Qj6{l:List RawInt}(h:∀a∈l,a.Ok):Bd 40 (((l.take 4).map (·.cutN 1)).map vI):=λz hz=>by
 obtain⟨y,hy,rfl⟩:=Q9.1 hz;obtain⟨x,hx,rfl⟩:=Q9.1 hy;exact Qc (MN ((h x (Qn hx)).cutN_ok 1) (ZO x 1)) (by decide)
theorem Qn8{N:Int}{z:RawPt}(hz:z.Ok):Cs 40 4 (UT N z):=by
 unfold UT
 split
 ·have h:=Qb2 (gJ N) z.x z.y z.d;refine⟨λy hy=>?_,U5 h.y (by decide),Qc h.d (by decide),?_,Qc h.ly (by decide)⟩
  ·rcases Qp.1 hy with hy|hy
   ·exact Qc (h.x y hy) (by decide)
   ·split at hy
    ·rw[Qk.1 hy];decide
    ·cases hy
  ·have:=h.lx;have h2:(Gq (Oi N) z.x).length<=3:=this;show(_++_:Uo).length<=4;rw[Qx]
   split <;> simp <;> omega
 ·exact⟨Qj6 hz.x,Qj6 hz.y,Qc (MN (hz.d.cutN_ok 1) (ZO z.d 1)) (by decide),by show(List.map _ _).length<=4;rw[Zb,Zb,Qr];omega,by show(List.map _ _).length<=4;rw[Zb,Zb,Qr];omega⟩
def sL(o:RawOp):Int:=if Nf o.k 12<10 then Nf o.p.id 6 else o.p.id
abbrev Quh(o:RawOp)(lx ly:Uu)(bb:Bool)(l3:Uu):Ut:=[.int .i64 o.k,.int .i64 o.n,.int .i64 o.d,.row lx,.row ly,.bool bb,.row l3,.int .i64 (sL o)]++L8 (o.t.cutN 6)++L8 (o.u.cutN 6)
abbrev oJ(ms:Ut)(N:Int):Ut:=[.ow 0 0,.sh ms,.int .i64 N]
theorem yX{most:Int}{l:List RawInt}(h:3<l.length):(Gq most l).length=3:=by unfold Gq;rw[List.length_map,List.length_take];omega
abbrev Qsl:Ut:=[.bool false,.row [[.int .u32 1]]]
theorem nT{p:Uo}:IsInts (p.map Hg++[Qsl]) (p++[1]):=(Gp p).append ⟨⟨_,_,rfl,false,[1],rfl,rfl,(λx hx=>by rw[Qk.1 hx];decide),rfl⟩,trivial⟩
theorem Qbg{z:RawPt}(hz:z.Ok){most:Int}(hm:0<=most/\most<=999):U6 prog 130 [.agg (rcw z),.oi most] [] [.agg [.orow 0 2 none,.row (Am (Gq most z.y)),sg (H6 3 z.d),mg (H6 3 z.d)]] [.row false 36 2 (Am (Gq most z.x))]:=by
 have hxl:=O5 z.x;have hyl:=O5 z.y;obtain⟨D,hD⟩:=nmE (H6 3 z.d);have cd:=UW hz.d (most:=3) (by decide);have hx0:∀{i:Nat},z.x.length<=i\/3<=i->Gq most (z.x.take i)=Gq most z.x:=SG most;have hy0:∀{i:Nat},z.y.length<=i\/3<=i->Gq most (z.y.take i)=Gq most z.y:=SG most;rw[<-hD]at cd ⊢;refine Fv func130 rfl ?_;refine Uf [.k cd] rfl ?_;refine oz2 5 0 36 2 rfl rfl ?_;refine Uk (S:=Nat) 4 (λL1 i=>(6,.v (.oi i))::L1) (λi=>[.blk 38 (rcw z),.blk 38 [.nils,.nils,.bool false,.nils],.blk 38 [.orow 3 2 none,.nils,sg D,mg D],.row false 36 2 (Am (Gq most (z.x.take i)))]) (λi=>3-i) (λi=>i<=3/\i<=z.x.length) 0 ⟨by decide,Qh _⟩ rfl rfl λi ⟨hi,hi2⟩=>?_
 have hll:=yZ (most:=most) hi hi2;by_cases hr:i<z.x.length/\i<3
 ·obtain⟨a,ha⟩:=gxE (l:=z.x) (i:=i) hr.1;have hs:∀y∈[Hg (H6 most a)],y.length=2:=λy hy=>by rw[Qk.1 hy];rfl
  refine go tt [.g 17 true Un,.T,.x (Gx (f:=L8) ha),.k (UW (hz.x a (Qa ha)) hm),.s (sz:=2) hs] rfl (by simp[U3,hll];omega) ?_;exact rd (i+1) (by omega) ⟨hr.2,hr.1⟩ (by rw[RB hr.2 ha];rfl)
 have hg1:decide ((i:Int)<((Io z.x).length:Int))=true->i<z.x.length:=λh=>by have:=of_decide_eq_true h;omega
 rw[hx0 (by omega)];clear hll;have hfin:∀{j:Nat},j<=3/\j<=z.y.length->¬(j<z.y.length/\j<3)->Am (Gq most (z.y.take j))=Am (Gq most z.y):=λh1 h2=>by rw[hy0 (by omega)]
 by_cases hxx:i<z.x.length
 ·refine Uf [.g 17 true Un,.F] rfl ?_;refine oz2 5 1 36 2 rfl rfl ?_;refine Uk (S:=Nat) 5 (λL1 j=>(7,.v (.oi j))::L1) (λj=>[.blk 38 (rcw z),.blk 38 [.nils,.nils,.bool false,.nils],.blk 38 [.orow 3 2 none,.orow 4 2 none,sg D,mg D],.row false 36 2 (Am (Gq most z.x)),.row false 36 2 (Am (Gq most (z.y.take j)))]) (λj=>3-j) (λj=>j<=3/\j<=z.y.length) 0 ⟨by decide,Qh _⟩ rfl rfl λj ⟨hj,hj2⟩=>?_
  have hll:=yZ (most:=most) hj hj2;by_cases hr:j<z.y.length/\j<3
  ·obtain⟨a,ha⟩:=gxE (l:=z.y) (i:=j) hr.1;have hs:∀y∈[Hg (H6 most a)],y.length=2:=λy hy=>by rw[Qk.1 hy];rfl
   refine go tt [.g 40 true Un,.T,.x (Gx (f:=L8) ha),.k (UW (hz.y a (Qa ha)) hm),.s (sz:=2) hs] rfl (by simp[U3,hll];omega) ?_;exact rd (j+1) (by omega) ⟨hr.2,hr.1⟩ (by rw[RB hr.2 ha];rfl)
  rw[hfin ⟨hj,hj2⟩ hr];by_cases hyy:j<z.y.length
  ·exact Uj [4] [3] [.g 40 true Un,.F] rfl
  ·exact Uj [4] [3] [.g 40 false Um,.f rfl] rfl
 ·refine Uf [.g 17 false Um,.f rfl] rfl ?_;refine oz2 5 1 36 2 rfl rfl ?_;refine Uk (S:=Nat) 5 (λL1 j=>(7,.v (.oi j))::L1) (λj=>[.blk 38 (rcw z),.blk 38 [.nils,.nils,.bool false,.nils],.blk 38 [.orow 3 2 none,.orow 4 2 none,sg D,mg D],.row false 36 2 (Am (Gq most z.x)),.row false 36 2 (Am (Gq most (z.y.take j)))]) (λj=>3-j) (λj=>j<=3/\j<=z.y.length) 0 ⟨by decide,Qh _⟩ rfl rfl λj ⟨hj,hj2⟩=>?_
  have hll:=yZ (most:=most) hj hj2;by_cases hr:j<z.y.length/\j<3
  ·obtain⟨a,ha⟩:=gxE (l:=z.y) (i:=j) hr.1;have hs:∀y∈[Hg (H6 most a)],y.length=2:=λy hy=>by rw[Qk.1 hy];rfl
   refine go tt [.g 40 true Un,.T,.x (Gx (f:=L8) ha),.k (UW (hz.y a (Qa ha)) hm),.s (sz:=2) hs] rfl (by simp[U3,hll];omega) ?_;exact rd (j+1) (by omega) ⟨hr.2,hr.1⟩ (by rw[RB hr.2 ha];rfl)
  rw[hfin ⟨hj,hj2⟩ hr];by_cases hyy:j<z.y.length
  ·exact Uj [4] [3] [.g 40 true Un,.F] rfl
  ·exact Uj [4] [3] [.g 40 false Um,.f rfl] rfl
set_option maxHeartbeats 4000000 in
theorem Qtt{E:Es}{N:Int}{o:RawOp}{ms:Ut}(hN:1<=N/\N<=4)(ho:o.Ok):∃lx ly bb l3,IsInts lx (UT N o.p).x/\IsInts ly (UT N o.p).y/\Gd (.bool bb) (.row l3) (UT N o.p).d /\
 U6 prog 56 [.agg (oJ ms N),.agg (rwo o)] (enB 0 E) [.agg (Quh o lx ly bb l3)] (enB 0 E):=by
 have c4:=Qtg (z:=o.p);have wk:=Aa (v:=o.k) (n:=12) ho.k (by decide);have wi:=Aa (v:=o.p.id) (n:=6) ho.p.id (by decide);have cr:=Qnp (t:=o.t) (u:=o.u);have cl:=Qbg ho.p (most:=Oi N) (gJ N);obtain⟨i,hi⟩:=nmE (sL o);have hln:(Io o.p.x).length=o.p.x.length:=O5 _;unfold Quh;rw[<-hi];by_cases h1:1<N
 ·have e1:UT N o.p=⟨Gq (Oi N) o.p.x++(if 3<o.p.x.length then [1]else []),Gq (Oi N) o.p.y,H6 3 o.p.d⟩:=if_pos h1;rw[e1];dsimp only;obtain⟨X,hX⟩:=nmE (Gq (Oi N) o.p.x);obtain⟨Y,hY⟩:=nmE (Gq (Oi N) o.p.y);obtain⟨D,hD⟩:=nmE (H6 3 o.p.d);have hX3:=yX (most:=Oi N) (l:=o.p.x);rw[<-hX]at hX3;rw[<-hX,<-hY,<-hD]at cl ⊢;have e3:∃k:Nat,(k:Int)=min N 4/\[[LV.int .i64 0],[.int .i64 0],[.int .i64 999],[.int .i64 99],[.int .i64 20]][k]? = some [.int .i64 (Oi N)]:=by
   rcases(show N=2\/N=3\/N=4 by omega)with rfl|rfl|rfl
   ·exact⟨2,rfl,rfl⟩
   ·exact⟨3,rfl,rfl⟩
   ·exact⟨4,rfl,rfl⟩
  obtain⟨k,k1,k2⟩:=e3;by_cases h3:3<o.p.x.length
  ·rw[if_pos h3];have hX3:=hX3 h3;have hml:(X.map Hg).length=3:=by rw[Zb];exact hX3
   refine⟨_,_,_,_,nT,Gp Y,U4 D,?_⟩;refine Fv func56 rfl ?_;refine go tt [.k c4,.t (by simpa using h1),.r 19 (eI k1.symm),.x k2,.c [11] cl,.t (by simp;omega)] rfl (by simp only[U3,qW];omega) ?_;refine Uk (S:=Unit) 12 (λL1 _=>L1) (λ_=>enB 0 E++[.blk 27 (oJ ms N),.blk 44 (rwo o),.blk 44 [.int .i64 0,.int .i64 0,.int .i64 0,.nils,.nils,.bool false,.nils,.int .i64 0,.bool false,.nils,.bool false,.nils],.blk 38 [.orow 11 2 none,pl Y,sg D,mg D],.row false 36 2 (X.map Hg++[Qsl])]) (λ_=>0) (λ_=>True) () trivial rfl rfl λ_ _=>?_
   by_cases hk:Nf o.k 12<10
   ·rw[hi,show sL o=Nf o.p.id 6 from if_pos hk];exact Uj [11] [0,1,2,3,4,5,6] [.f (by simp;omega),.k wk,.t (by simpa using hk),.k wi,.k cr] rfl
   ·rw[hi,show sL o=o.p.id from if_neg hk];exact Uj [11] [0,1,2,3,4,5,6] [.f (by simp;omega),.k wk,.f (by simpa using hk),.k cr] rfl
  ·rw[if_neg h3,Zv];refine⟨_,_,_,_,Gp X,Gp Y,U4 D,?_⟩;refine Fv func56 rfl ?_;by_cases hk:Nf o.k 12<10
   ·rw[hi,show sL o=Nf o.p.id 6 from if_pos hk];exact Uj [11] [0,1,2,3,4,5,6] [.k c4,.t (by simpa using h1),.r 19 (eI k1.symm),.x k2,.c [11] cl,.f (by simp;omega),.k wk,.t (by simpa using hk),.k wi,.k cr] rfl
   ·rw[hi,show sL o=o.p.id from if_neg hk];exact Uj [11] [0,1,2,3,4,5,6] [.k c4,.t (by simpa using h1),.r 19 (eI k1.symm),.x k2,.c [11] cl,.f (by simp;omega),.k wk,.f (by simpa using hk),.k cr] rfl
 ·have e1:UT N o.p=⟨((o.p.x.take 4).map (·.cutN 1)).map vI,((o.p.y.take 4).map (·.cutN 1)).map vI,vI (o.p.d.cutN 1)⟩:=if_neg h1;rw[e1];refine⟨_,_,_,_,KA (Qj7 ho.p.x),KA (Qj7 ho.p.y),YS (ho.p.d.cutN_ok 1),?_⟩;refine Fv func56 rfl ?_;by_cases hk:Nf o.k 12<10
  ·rw[hi,show sL o=Nf o.p.id 6 from if_pos hk];exact Uj [] [0,1,2,3,4,5,6] [.k c4,.f (by simpa using h1),.k wk,.t (by simpa using hk),.k wi,.k cr] rfl
  ·rw[hi,show sL o=o.p.id from if_neg hk];exact Uj [] [0,1,2,3,4,5,6] [.k c4,.f (by simpa using h1),.k wk,.f (by simpa using hk),.k cr] rfl
def Iv(o:RawOp)(q:Rat):Rat:=q+Gh (Nf o.n 5-1) (1+Nf o.d 4)
theorem ZW{v n:Int}(h:0<n):0<=Nf v n/\Nf v n<n:=by
 unfold Nf;rw[if_neg (by omega)];exact⟨Yg _ (by omega),Jt _ h⟩
theorem rE{a b:Int}(ha:-10<=a/\a<=10)(hb:-10<=b/\b<=10):Qs 4 (Gh a b):=by
 have sz4:∀z:Int,-10<=z/\z<=10->Fc z<=4:=λz hz=>by
  have h16:(2:Nat)^4=16:=by decide
  exact S0.2 (by omega)
 unfold Gh
 split
 ·exact⟨Pd (sz4 a ha),Pa (by decide) (by decide)⟩
 ·exact⟨Pd (sz4 a ha),Pa (sz4 b hb) (by decide)⟩
theorem rL{o:RawOp}{q:Rat}(h:Qs 128 q):Qs 257 (Iv o q):=by
 have h1:=ZW (v:=o.n) (n:=5) (by decide);have h2:=ZW (v:=o.d) (n:=4) (by decide);have:=Qv3 h ((rE (a:=Nf o.n 5-1) (b:=1+Nf o.d 4) (by omega) (by omega)).mono (by decide));exact this
abbrev enP(E:Es)(ms:Ut)(N:Int)(o:RawOp)(lx ly:Uu)(bb:Bool)(l3:Uu):Uv:=[.blk 80 (mI 0 E.q),tB E.np E.nd E.M,bS E.s E.M E.q,bT E.t E.M E.q,bH E.h E.M E.q,bP E.p E.M E.q,bD E.d E.M E.q,.blk 27 (oJ ms N),.blk 44 (Quh o lx ly bb l3)]
set_option maxHeartbeats 4000000 in
theorem Qnq{E:Es}{N:Int}{o:RawOp}{ms:Ut}{lx ly:Uu}{bb:Bool}{l3:Uu}(ho:o.Ok)(hq:Qs 128 E.q):U6 prog 57 [.one (.ow 7 0),.one (.ow 8 0)] (enP E ms N o lx ly bb l3) [.agg (rl (Iv o E.q))] (enP E ms N o lx ly bb l3):=by
 have wn:=Aa (v:=o.n) (n:=5) ho.n (by decide);have wd:=Aa (v:=o.d) (n:=4) ho.d (by decide);have b1:=ZW (v:=o.n) (n:=5) (by decide);have b2:=ZW (v:=o.d) (n:=4) (by decide);have co:=Qxy (n:=Nf o.n 5-1) (d:=1+Nf o.d 4) (by omega) (by omega);have cf:=Qer (q:=E.q) (hq.mono (by decide));have ca:=pN (a:=E.q) (b:=Gh (Nf o.n 5-1) (1+Nf o.d 4)) (hq.mono (by decide)) ((rE (by omega) (by omega)).mono (by decide));have ct:=wG (q:=Iv o E.q) ((rL hq).mono (by decide));have cc:=lZ (np:=E.np) (nd:=E.nd) (M:=E.M) (s:=E.s) (t:=E.t) (h:=E.h) (p:=E.p) (d:=E.d) hq;refine Fv func57 rfl ?_;exact Uj [] [0,1,2,3,4,5,6,7,8] [.lo,.c Ux cc,.k cf,.k wn,.k wd,.k co,.k ca,.k ct] rfl (by simp[U3];omega)
def PK(o:RawOp):Rat:=Gh (vI (o.t.cutN 6)) (vI (o.u.cutN 6))
open Classical in
noncomputable def nearT(o:RawOp):Rat:=if Qs 128 (PK o)then SN (PK o)else PK o
noncomputable def aloneF(N:Int)(o:RawOp)(A:Em):Em×Int :=
 if Nf o.k 12<3 then A.ins ⟨Crv.norm (UT N o.p),sL o⟩
 else if Nf o.k 12=3 then A.del (sL o)
 else if Nf o.k 12=4 then A.rep ⟨Crv.norm (UT N o.p),sL o⟩
 else if Nf o.k 12=5 then A.rep ⟨Crv.norm (tZ (UT N o.p).x (UT N o.p).y A.q),sL o⟩
 else if Nf o.k 12<9 then A.adv (Iv o A.q)
 else if Nf o.k 12=9 then(A,(A.adv (Iv o A.q)).2)
 else if Nf o.k 12=10 then A.adv (nearT o)
 else(A,(A.adv (nearT o)).2)
theorem Qns{o:RawOp}(ho:o.Ok):∃x0 x1 x2 x3 n m,Gd x0 x1 n/\Gd x2 x3 m/\Fc n<=4294967295/\Fc m<=4294967295/\Gh n m=nearT o/\Ul 61 [.agg (L8 (o.t.cutN 6)++L8 (o.u.cutN 6))] [.agg [x0,x1,x2,x3]]:=by
 have i1:=YS (ho.t.cutN_ok 6);have i2:=YS (ho.u.cutN_ok 6);have s1:=MN (ho.t.cutN_ok 6) (ZO o.t 6);have s2:=MN (ho.u.cutN_ok 6) (ZO o.u 6);have ln:∀(z:RawInt) l,LV.row (lm (z.cutN 6).l)=.row (lm l)->l.length<=1000:=λz l h=>by
  have:=Qiq h;have:=ZO z 6;omega
 by_cases hq:Qs 128 (PK o)
 ·have e:nearT o=SN (PK o):=if_pos hq;have hn:=Qab hq;rw[e];exact⟨_,_,_,_,_,_,U4 (SN (PK o)).num,U4 ((SN (PK o)).den:Int),Qc hn.1 (by decide),Qc hn.2 (by decide),Sw _,Qnu i1 i2 (ln o.t) (ln o.u) (by omega) (by omega) hq⟩
 ·have e:nearT o=PK o:=if_neg hq;rw[e];exact⟨_,_,_,_,_,_,i1,i2,by omega,by omega,rfl,Qnt i1 i2 (ln o.t) (ln o.u) (by omega) (by omega) hq⟩
set_option maxHeartbeats 8000000 in
theorem Qoj{E:Es}{b N:Int}{o:RawOp}{ms:Ut}(h:EOk b E)(hb:b<=900000000000000000)(hN:1<=N/\N<=4)(ho:o.Ok) :
 ∃E',EOk (b+67000000) E'/\E'.m=(aloneF N o E.m).1/\EnD 12 [.agg (oJ ms N),.agg (rwo o)] E [.one (.int .i64 (aloneF N o E.m).2)] E':=by
 obtain⟨lx,ly,bb,l3,i1,i2,i3,cp⟩:=Qtt (E:=E) (ms:=ms) hN ho;have wk:=Aa (v:=o.k) (n:=12) ho.k (by decide);have hW:=ZW (v:=o.k) (n:=12) (by decide);have hcs:=Qn8 (N:=N) ho.p;have hk:Cs 4294967294 1073741824 (Crv.mk (UT N o.p).x (UT N o.p).y (UT N o.p).d):=hcs.mono (by decide) (by decide);have cla:=Qnq (E:=E) (N:=N) (ms:=ms) (lx:=lx) (ly:=ly) (bb:=bb) (l3:=l3) ho h.q;have hla:=rL (o:=o) h.q;obtain⟨x0,x1,x2,x3,n,m,n1,n2,n3,n4,n5,cnr⟩:=Qns ho;have eq_:E.m.q=E.q:=rfl;unfold aloneF;rw[eq_];obtain⟨W,hWe⟩:=nmE (Nf o.k 12);rw[<-hWe]at wk hW ⊢;by_cases w0:W<3
 ·rw[if_pos w0];obtain⟨E',g1,g2,g3⟩:=CM h (id:=sL o) i1 i2 i3 hk;refine⟨E',g1.mono (by omega),g2,?_⟩;refine Fv func12 rfl ?_;exact Uj [] [0,1,2,3,4,5,6] [.c Ux cp,.k wk,.T,.c Ux g3] rfl
 rw[if_neg w0];by_cases w1:W=3
 ·rw[if_pos w1];obtain⟨E',g1,g2,g3⟩:=Qhe h (id:=sL o);refine⟨E',g1.mono (by omega),g2,?_⟩;refine Fv func12 rfl ?_;exact Uj [] [0,1,2,3,4,5,6] [.c Ux cp,.k wk,.F,.T,.c Ux g3] rfl
 rw[if_neg w1];by_cases w2:W=4
 ·rw[if_pos w2];obtain⟨E',g1,g2,g3⟩:=uP h (id:=sL o) i1 i2 i3 hk;refine⟨E',g1.mono (by omega),g2,?_⟩;refine Fv func12 rfl ?_;exact Uj [] [0,1,2,3,4,5,6] [.c Ux cp,.k wk,.F,.F,.T,.c Ux g3] rfl
 rw[if_neg w2];by_cases w3:W=5
 ·rw[if_pos w3];obtain⟨E',g1,g2,g3⟩:=Quo h (id:=sL o) i1 i2 hcs.x hcs.y (by decide) (Qc hcs.lx (by decide)) (Qc hcs.ly (by decide));refine⟨E',g1.mono (by omega),g2,?_⟩;refine Fv func12 rfl ?_;exact Uj [] [0,1,2,3,4,5,6] [.c Ux cp,.k wk,.F,.F,.F,.T,.c Ux g3] rfl
 rw[if_neg w3];by_cases w4:W<9
 ·rw[if_pos w4];obtain⟨E',g1,g2,_,g3⟩:=YG h hb (U4 (Iv o E.q).num) (U4 ((Iv o E.q).den:Int)) (Qc hla.1 (by decide)) (Qc hla.2 (by decide)) (Sw _);refine⟨E',g1,g2,?_⟩;refine Fv func12 rfl ?_;exact Uj [] [0,1,2,3,4,5,6] [.c Ux cp,.k wk,.F,.F,.F,.F,.T,.lo,.c [0,1,2,3,4,5,6,7,8] cla,.c Ux g3] rfl
 rw[if_neg w4];by_cases w5:W=9
 ·rw[if_pos w5];have g3:=aW h hb (U4 (Iv o E.q).num) (U4 ((Iv o E.q).den:Int)) (Qc hla.1 (by decide)) (Qc hla.2 (by decide)) (Sw _);refine⟨E,h.mono (by omega),rfl,?_⟩;obtain⟨a,ha,hal⟩:∃a,a=E.m.ans (Iv o E.q)/\∃a0 a1 a2 a3 a4,a=[LV.row a0,.row a1,.row a2,.row a3,.row a4]:=⟨_,rfl,by unfold Em.ans;split <;> exact⟨_,_,_,_,_,rfl⟩⟩;rw[<-ha]at g3;obtain⟨a0,a1,a2,a3,a4,rfl⟩:=hal;refine Fv func12 rfl ?_;exact Uj [] [0,1,2,3,4,5,6] [.c Ux cp,.k wk,.F,.F,.F,.F,.F,.T,.lo,.c [0,1,2,3,4,5,6,7,8] cla,.c Ux g3] rfl
 rw[if_neg w5];by_cases w6:W=10
 ·rw[if_pos w6];obtain⟨E',g1,g2,_,g3⟩:=YG h hb n1 n2 n3 n4 n5;refine⟨E',g1,g2,?_⟩;obtain⟨b1,r1,rfl,rfl,_⟩:=n1;obtain⟨b2,r2,rfl,rfl,_⟩:=n2;refine Fv func12 rfl ?_;exact Uj [] [0,1,2,3,4,5,6] [.c Ux cp,.k wk,.F,.F,.F,.F,.F,.F,.T,.k cnr,.c Ux g3] rfl
 ·rw[if_neg w6];have g3:=aW h hb n1 n2 n3 n4 n5;refine⟨E,h.mono (by omega),rfl,?_⟩;obtain⟨b1,r1,rfl,rfl,_⟩:=n1;obtain⟨b2,r2,rfl,rfl,_⟩:=n2;obtain⟨a,ha,hal⟩:∃a,a=E.m.ans (nearT o)/\∃a0 a1 a2 a3 a4,a=[LV.row a0,.row a1,.row a2,.row a3,.row a4]:=⟨_,rfl,by unfold Em.ans;split <;> exact⟨_,_,_,_,_,rfl⟩⟩;rw[<-ha]at g3;obtain⟨a0,a1,a2,a3,a4,rfl⟩:=hal;refine Fv func12 rfl ?_;exact Uj [] [0,1,2,3,4,5,6] [.c Ux cp,.k wk,.F,.F,.F,.F,.F,.F,.F,.k cnr,.c Ux g3] rfl
end Orr
namespace Orr
open Go Go.Proofs Tryz Orq
set_option maxRecDepth 10000
abbrev cC:Up:=[[-(0:Rat).num,((0:Rat).den:Int)],[1]]
abbrev Qx9:Ut:=[.nils,.nils,.nils,.bool false,.nils,.bool false,.nils,.bool false,.nils,.bool false,.nils,.int .i64 0,.nils]
abbrev Qya:Ut:=aq 0 cC++[.row [],.int .i64 0,.nils]
abbrev Qkm(k i:Nat):Ut:=match Nat.blt k i with
 |true=>Qya
 |false=>Qx9
abbrev mdl(np nd:Int)(i:Nat):Ut:=[.int .i64 np,.int .i64 nd,.nils]++fr 0++Qkm 0 i++Qkm 1 i++Qkm 2 i++Qkm 3 i++Qkm 4 i
set_option maxHeartbeats 4000000 in
theorem Qez{np nd:Int}:U6 prog 128 [.one (.ow 0 0)] [.blk 207 (mdl np nd 0)] [] [.blk 207 (mdl np nd 5)]:=by
 have hq:Qs 2000000 (0:Rat):=⟨by decide,by decide⟩;have cr:=wM hq Qv5;refine Fv func128 rfl ?_;refine Uf [.k cr] rfl ?_;refine Uk (S:=Nat) 2 (λL1 i=>(9,.v (.oi i))::L1) (λi=>[.blk 207 (mdl np nd i),.blk 90 (aq 0 cC)]) (λi=>5-i) (λi=>i<=5) 0 (by decide) rfl rfl λi hi=>?_
 rcases(show i=0\/i=1\/i=2\/i=3\/i=4\/i=5 by omega)with rfl|rfl|rfl|rfl|rfl|rfl
 ·exact go tt [.t rfl,.i 0,.i 0,.i 0,.k (UN 0 (by decide)),.k CN,.i 0] rfl (by simp[U3]) (rd 1 (by omega) (by omega) rfl)
 ·exact go tt [.t rfl,.i 1,.i 1,.i 1,.k (UN 1 (by decide)),.k CN,.i 1] rfl (by simp[U3]) (rd 2 (by omega) (by omega) rfl)
 ·exact go tt [.t rfl,.i 2,.i 2,.i 2,.k (UN 2 (by decide)),.k CN,.i 2] rfl (by simp[U3]) (rd 3 (by omega) (by omega) rfl)
 ·exact go tt [.t rfl,.i 3,.i 3,.i 3,.k (UN 3 (by decide)),.k CN,.i 3] rfl (by simp[U3]) (rd 4 (by omega) (by omega) rfl)
 ·exact go tt [.t rfl,.i 4,.i 4,.i 4,.k (UN 4 (by decide)),.k CN,.i 4] rfl (by simp[U3]) (rd 5 (by omega) (by omega) rfl)
 ·exact Uj [] [0] [.f rfl] rfl
theorem Qto{np nd:Int}(h1:1<=np/\np<=6)(h2:0<=nd/\nd<=2):U6 prog 55 [.oi np,.oi nd] [] [.one (.ow 0 0),.oi 0] [.blk 207 (mdl np nd 5)]:=by
 have co:=KW (n:=0) (by decide);rw[show((0:Int):Rat)=0 from rfl]at co;refine Fv func55 rfl ?_;exact Uj [] [0] [.F,.f (by simp;omega),.f (by simp;omega),.f (by simp;omega),.k co,.c [0] Qez] rfl
theorem Qms{a b:Int}(ha:-9223372036854775808<=a/\a<=9223372036854775807)(hb:-9223372036854775808<=b/\b<=9223372036854775807):∃(N nd:Int) (ms:Ut),(1<=N/\N<=4)/\(0<=nd/\nd<=2)/\EOk 0 (AO N nd)/\N=1+Nf a 4/\nd=Nf b 3 /\
 U6 prog 11 [.oi a,.oi b] [] [.agg [.ow 0 0,.sh ms,.int .i64 N],.one (.bool true)] (enB 0 (AO N nd)):=by
 have w1:=ZW (v:=a) (n:=4) (by decide);have w2:=ZW (v:=b) (n:=3) (by decide);have c1:=Aa (v:=a) (n:=4) ha (by decide);have c2:=Aa (v:=b) (n:=3) hb (by decide);obtain⟨N,hN⟩:=nmE (1+Nf a 4);obtain⟨nd,hnd⟩:=nmE (Nf b 3);have hN4:1<=N/\N<=4:=by omega
 have hd2:0<=nd/\nd<=2:=by omega
 have cn:=Qe4 (np:=N) (nd:=nd) (by omega) hd2;have cm:=Qto (np:=N) (nd:=nd) (by omega) hd2;refine⟨N,nd,mdl N nd 5,hN4,hd2,Qi8 (by omega) hd2,hN,hnd,?_⟩;refine Fv func11 rfl ?_;exact Uj [8] [1,2,3,4,5,6,7] [.k c1,.r 12 (eI hN.symm),.k c2,.r 14 (eI hnd.symm),.c [1,2,3,4,5,6,7] cn,.c [8] cm,.t rfl,.t rfl] rfl (by simp[U3];omega)
abbrev enL(E:Es)(ms:Ut)(N:Int):Uv:=[.blk 80 (mI 0 E.q),tB E.np E.nd E.M,bS E.s E.M E.q,bT E.t E.M E.q,bH E.h E.M E.q,bP E.p E.M E.q,bD E.d E.M E.q,.blk 27 [.ow 0 0,.sh ms,.int .i64 N]]
abbrev anB(S W H P:Uo)(T:List P3):OB:=.blk 59 [ids S,ids W,ids H,ids P,.row (I0 T)]
theorem Qt2{id:Int}{S W H P:Uo}{T:List P3}(hl:S.length<=1000000)(hm:id∈S):U6 prog 28 [.oi id,.one (.ow 0 0)] [anB S W H P T] [.one (.bool true)] [anB S W H P T]:=by
 have hcl:(List.map (λ(x:Int)=>[LV.int IntKind.i64 x]) S).length=S.length:=by simp
 refine Fv func28 rfl ?_;refine Uf [] rfl ?_;refine Uk (S:=Nat) 1 (λL1 i=>(8,.v (.oi i))::L1) (λ_=>[anB S W H P T]) (λi=>S.length-i) (λi=>i<=S.length/\∀j x,j<i->S[j]? = some x->x≠id) 0 ⟨Qh _,λj x h=>absurd h (Uc j)⟩ rfl rfl λi ⟨hi,hn⟩=>?_
 by_cases h:i<S.length
 ·obtain⟨x,hx⟩:=gxE (l:=S) (i:=i) h;have hg:(jC S)[i]? = some [.int .i64 x]:=Gx hx;by_cases he:x=id
  ·exact Uj [] [0] [.T,.x hg,.t (decide_eq_true he)] rfl (by simp[U3] <;> omega)
  ·refine go tt [.T,.x hg,.f (decide_eq_false he)] rfl (by simp[U3] <;> omega) ?_;refine rd (i+1) (by omega) ⟨h,λj y hj hy=>?_⟩ rfl;by_cases hji:j=i
   ·subst hji;rw[hx]at hy;injection hy with hy;rw[<-hy];exact he
   ·exact hn j y (by omega) hy
 ·obtain⟨j,hj⟩:=Xm hm;exact absurd rfl (hn j id (by have:=(Qe.1 hj).1;omega) hj)
set_option maxHeartbeats 8000000 in
theorem AB{a b:Int}{l:List RawOp}(ha:-9223372036854775808≤a/\a≤9223372036854775807)(hb:-9223372036854775808≤b/\b≤9223372036854775807)(hl:∀x∈l,x.Ok):Ul 4 [.oi a,.oi b,.one (.row (qS l))] [.one (.bool true)]:=by
 obtain⟨N,nd,ms,hN,hnd,h0,_,_,cb⟩:=Qms ha hb;have hll:=Qc3 l;refine Fv func4 rfl (ln 2 rfl rfl λhcl=>?_);rw[hll]at hcl;refine Uf [.c Ux cb,.f rfl] rfl ?_;refine Uk (S:=Nat×Es) 8 (λL1 s=>(9,.v (.oi (s.1:Int)))::L1) (λs=>enL s.2 ms N) (λs=>7-s.1) (λs=>s.1<=7/\s.1<=l.length/\EOk (67000000*s.1) s.2) (0,AO N nd) ⟨by show 0<=7;decide,Qh _,h0.mono (show(0:Int)<=67000000*((0:Nat):Int) by decide)⟩ rfl rfl λ⟨i,E⟩ ⟨hi,hi2,hE⟩=>?_
 dsimp only at hi hi2 hE ⊢;by_cases hr:i<l.length/\i<7
 ·obtain⟨x,hx⟩:=gxE (l:=l) (i:=i) hr.1;obtain⟨E',e1,e2,e3⟩:=Qoj (ms:=ms) hE (by omega) hN (hl x (Qa hx));refine Ug [.T,.T,.x (Qc2 hx),.c Ux e3] rfl ?_;have e:67000000*(i:Int)+67000000=67000000*((i+1:Nat):Int):=by omega
  rw[e]at e1;exact rd (i+1,E') (by dsimp only;omega) ⟨hr.2,hr.1,e1⟩ rfl
 have hM:=hE.m.m;have hv:Va (tq E.q):=AQ (hE.q.mono (by decide));have hln:=hM.ln;have cal:=Qua (np:=E.np) (nd:=E.nd) (Qv0 hE) (by omega);have cle:=Qub (np:=E.np) (nd:=E.nd) (l:=E.M);obtain⟨n,hn⟩:=nmE (E.M.length);rw[<-hn]at cle hln;obtain⟨S,hS⟩:=nmE ((Rr (tq E.q) E.M).map (·.id));obtain⟨W,hW⟩:=nmE ((M9 (Fq (tq E.q)) E.M).1.map (·.id));obtain⟨H,hH⟩:=nmE ((Rk E.M (tq E.q)).map (·.id));obtain⟨P,hP⟩:=nmE ((Ij (Fq (tq E.q)) E.M).map (·.id));obtain⟨T,hT⟩:=nmE (SS (Fq (tq E.q)) E.M);have tl:EnD 26 [.one (.ow 0 0)] E [.agg [ids S,ids W,ids H,ids P,.row (I0 T)]] E:=by
  rw[hS,hW,hH,hP,hT];exact Qus hE
 have lS:S.length=n:=by rw[hS,Zb,Pu,hn]
 have mS:∀p∈E.M,p.id∈S:=λp hp=>by rw[hS];exact Q9.2 ⟨p,Gv.2 hp,rfl⟩
 have lH:H.length<=n:=by rw[hH,Zb,hn];exact Qia hM hv
 have mT:∀m∈T,(m.1.id<m.2.1.id/\m.2.1.id<m.2.2.id)/\m.1.id∈S/\m.2.2.id∈S:=λm hm=>by
  rw[hT]at hm;obtain⟨h1,h2,h3⟩:=Qo5 hM.so m hm;exact⟨h1,mS _ h2,mS _ h3⟩
 have lT:T.length<=20:=by rw[hT];exact qU _ hM.ln
 have lS':(jC S).length=n:=by simp[jC,lS]
 have lH':(jC H).length<=n:=by simp[jC];exact lH
 have lT':(I0 T).length=T.length:=EO T;have lM':(List.map Fb E.M).length=n:=by rw[Zb,hn]
 have hh:=λ{id:Int} (hm:id∈S)=>Qt2 (W:=W) (H:=H) (P:=P) (T:=T) (by omega) hm
 have cases3:(n=0/\W=[]/\P=[])\/(0<n/\∃w x U V,W=[w]/\w∈S/\H=x::U/\S=x::V/\((n<2/\P=[])\/(2<=n/\∃c d,P=[c,d]/\c∈S/\d∈S/\c<d))):=by
  rcases Qwz (Fq (tq E.q)) E.M with⟨e1,e2⟩|⟨e1,w,e2,e3⟩
  ·left;refine⟨by rw[hn,e1];rfl,by rw[hW,e2];rfl,?_⟩;rw[hP,e1];rfl
  ·right;obtain⟨y,Z,hr⟩:∃y Z,Rr (tq E.q) E.M=y::Z:=by
    cases h:Rr (tq E.q) E.M with
    |nil=>have:=Pu (tq E.q) E.M;rw[h]at this;simp at this;omega
    |cons y Z=>exact⟨y,Z,rfl⟩
   obtain⟨U,hu⟩:=nH hM hv hr;refine⟨by omega,w.id,y.id,U.map (·.id),Z.map (·.id),by rw[hW,e2];rfl,mS w e3,by rw[hH,hu];rfl,by rw[hS,hr];rfl,?_⟩;rcases Qpq (Fq (tq E.q)) hM.so with⟨p1,p2⟩|⟨p1,u,v,p2,p3,p4,p5⟩
   ·exact .inl ⟨by omega,by rw[hP,p2];rfl⟩
   ·exact .inr ⟨by omega,u.id,v.id,by rw[hP,p2];rfl,mS u p3,mS v p4,p5⟩
 clear hS hW hH hP hT;rcases cases3 with⟨n0,rfl,rfl⟩|⟨n1,w,x,U,V,rfl,w2,rfl,rfl,⟨p1,rfl⟩|⟨p1,c,d,rfl,p3,p4,p5⟩⟩
 ·by_cases hj:i<l.length
  all_goals
   first
   |refine go tt [.T,.F,.c Ux tl,.c [1] cle,.g 55 false (by first|exact decide_eq_false (by omega)|(simp <;> omega)),.g 63 false (by first|exact decide_eq_false (by omega)|(simp <;> omega)),.g 74 false (by first|exact decide_eq_false (by omega)|(simp <;> omega)),.g 81 false (by first|exact decide_eq_false (by omega)|(simp <;> omega)),.g 84 false (by first|exact decide_eq_false (by omega)|(simp <;> omega)),.f rfl,.c [1] cal] rfl (by simp[U3] <;> omega) ?_
   |refine go tt [.F,.f rfl,.c Ux tl,.c [1] cle,.g 55 false (by first|exact decide_eq_false (by omega)|(simp <;> omega)),.g 63 false (by first|exact decide_eq_false (by omega)|(simp <;> omega)),.g 74 false (by first|exact decide_eq_false (by omega)|(simp <;> omega)),.g 81 false (by first|exact decide_eq_false (by omega)|(simp <;> omega)),.g 84 false (by first|exact decide_eq_false (by omega)|(simp <;> omega)),.f rfl,.c [1] cal] rfl (by simp[U3] <;> omega) ?_
   refine Uk (S:=Nat) 9 (λL1 k=>(116,.v (.oi k))::L1) (λ_=>enL E ms N++[anB S [] H [] T]) (λk=>n-k) (λk=>k<=n) 0 (Qh _) rfl rfl λk hk=>?_
   by_cases hkn:k<n
   ·obtain⟨p,hp⟩:=gxE (l:=E.M) (i:=k) (by omega);refine go tt [.T,.x (Ts hp),.c [8] (hh (mS p (Qa hp))),.f rfl] rfl (by simp[U3] <;> omega) ?_;exact rd (k+1) (by omega) (by omega) rfl
   refine Uf [.F] rfl ?_;refine Uk (S:=Nat) 9 (λL1 k=>(131,.v (.oi k))::L1) (λ_=>enL E ms N++[anB S [] H [] T]) (λk=>T.length-k) (λk=>k<=T.length) 0 (Qh _) rfl rfl λk hk=>?_
   by_cases hkn:k<T.length
   ·obtain⟨m,hm⟩:=gxE (l:=T) (i:=k) hkn;obtain⟨⟨m1,m2⟩,m3,m4⟩:=mT m (Qa hm);have hg:(I0 T)[k]? = some (trL m):=Gx hm;refine go tt [.T,.x hg,.i 0,.x hg,.i 1,.g 147 true (decide_eq_true m1),.x hg,.i 1,.x hg,.i 2,.g 163 false (by simp <;> omega),.x hg,.i 0,.lo,.c [8] (hh m3),.g 174 false rfl,.x hg,.i 2,.lo,.c [8] (hh m4),.f rfl] rfl (by simp[U3] <;> omega) ?_;exact rd (k+1) (by omega) (by omega) rfl
   exact Uh [.F,.g 190 true rfl,.g 198 true rfl,.g 203 true rfl,.g 231 true rfl,.k HC] rfl rfl (by simp[U3] <;> omega)
 ·have lV:V.length+1=n:=lS;have lU:U.length+1<=n:=lH;have gH:(jC (x::U))[0]? = some [.int .i64 x]:=rfl;have gS:(jC (x::V))[0]? = some [.int .i64 x]:=rfl;have gW:(jC [w])[0]? = some [.int .i64 w]:=rfl;by_cases hj:i<l.length
  all_goals
   first
   |refine go tt [.T,.F,.c Ux tl,.c [1] cle,.g 55 false (by first|exact decide_eq_false (by omega)|(simp <;> omega)),.g 63 false (by first|exact decide_eq_false (by omega)|(simp <;> omega)),.g 74 false (by first|exact decide_eq_false (by omega)|(simp <;> omega)),.g 81 false (by first|exact decide_eq_false (by omega)|(simp <;> omega)),.g 84 true (by first|exact decide_eq_true (by omega)|(simp <;> omega)),.g 89 false (by first|exact decide_eq_false (by omega)|(simp <;> omega)),.x gH,.x gS,.g 99 false (by simp),.f rfl,.c [1] cal] rfl (by simp[U3] <;> omega) ?_
   |refine go tt [.F,.f rfl,.c Ux tl,.c [1] cle,.g 55 false (by first|exact decide_eq_false (by omega)|(simp <;> omega)),.g 63 false (by first|exact decide_eq_false (by omega)|(simp <;> omega)),.g 74 false (by first|exact decide_eq_false (by omega)|(simp <;> omega)),.g 81 false (by first|exact decide_eq_false (by omega)|(simp <;> omega)),.g 84 true (by first|exact decide_eq_true (by omega)|(simp <;> omega)),.g 89 false (by first|exact decide_eq_false (by omega)|(simp <;> omega)),.x gH,.x gS,.g 99 false (by simp),.f rfl,.c [1] cal] rfl (by simp[U3] <;> omega) ?_
   refine Uk (S:=Nat) 9 (λL1 k=>(116,.v (.oi k))::L1) (λ_=>enL E ms N++[anB (x::V) [w] (x::U) [] T]) (λk=>n-k) (λk=>k<=n) 0 (Qh _) rfl rfl λk hk=>?_
   by_cases hkn:k<n
   ·obtain⟨p,hp⟩:=gxE (l:=E.M) (i:=k) (by omega);refine go tt [.T,.x (Ts hp),.c [8] (hh (mS p (Qa hp))),.f rfl] rfl (by simp[U3] <;> omega) ?_;exact rd (k+1) (by omega) (by omega) rfl
   refine Uf [.F] rfl ?_;refine Uk (S:=Nat) 9 (λL1 k=>(131,.v (.oi k))::L1) (λ_=>enL E ms N++[anB (x::V) [w] (x::U) [] T]) (λk=>T.length-k) (λk=>k<=T.length) 0 (Qh _) rfl rfl λk hk=>?_
   by_cases hkn:k<T.length
   ·obtain⟨m,hm⟩:=gxE (l:=T) (i:=k) hkn;obtain⟨⟨m1,m2⟩,m3,m4⟩:=mT m (Qa hm);have hg:(I0 T)[k]? = some (trL m):=Gx hm;refine go tt [.T,.x hg,.i 0,.x hg,.i 1,.g 147 true (decide_eq_true m1),.x hg,.i 1,.x hg,.i 2,.g 163 false (by simp <;> omega),.x hg,.i 0,.lo,.c [8] (hh m3),.g 174 false rfl,.x hg,.i 2,.lo,.c [8] (hh m4),.f rfl] rfl (by simp[U3] <;> omega) ?_;exact rd (k+1) (by omega) (by omega) rfl
   exact Uh [.F,.g 190 false (by simp),.x gW,.lo,.c [8] (hh w2),.g 198 true rfl,.g 203 true rfl,.g 231 true rfl,.k HC] rfl rfl (by simp[U3] <;> omega)
 ·have lV:V.length+1=n:=lS;have lU:U.length+1<=n:=lH;have gH:(jC (x::U))[0]? = some [.int .i64 x]:=rfl;have gS:(jC (x::V))[0]? = some [.int .i64 x]:=rfl;have gW:(jC [w])[0]? = some [.int .i64 w]:=rfl;have gC:(jC [c,d])[0]? = some [.int .i64 c]:=rfl;have gD:(jC [c,d])[1]? = some [.int .i64 d]:=rfl;by_cases hj:i<l.length
  all_goals
   first
   |refine go tt [.T,.F,.c Ux tl,.c [1] cle,.g 55 false (by first|exact decide_eq_false (by omega)|(simp <;> omega)),.g 63 false (by first|exact decide_eq_false (by omega)|(simp <;> omega)),.g 74 false (by first|exact decide_eq_false (by omega)|(simp <;> omega)),.g 81 false (by first|exact decide_eq_false (by omega)|(simp <;> omega)),.g 84 true (by first|exact decide_eq_true (by omega)|(simp <;> omega)),.g 89 false (by first|exact decide_eq_false (by omega)|(simp <;> omega)),.x gH,.x gS,.g 99 false (by simp),.f rfl,.c [1] cal] rfl (by simp[U3] <;> omega) ?_
   |refine go tt [.F,.f rfl,.c Ux tl,.c [1] cle,.g 55 false (by first|exact decide_eq_false (by omega)|(simp <;> omega)),.g 63 false (by first|exact decide_eq_false (by omega)|(simp <;> omega)),.g 74 false (by first|exact decide_eq_false (by omega)|(simp <;> omega)),.g 81 false (by first|exact decide_eq_false (by omega)|(simp <;> omega)),.g 84 true (by first|exact decide_eq_true (by omega)|(simp <;> omega)),.g 89 false (by first|exact decide_eq_false (by omega)|(simp <;> omega)),.x gH,.x gS,.g 99 false (by simp),.f rfl,.c [1] cal] rfl (by simp[U3] <;> omega) ?_
   refine Uk (S:=Nat) 9 (λL1 k=>(116,.v (.oi k))::L1) (λ_=>enL E ms N++[anB (x::V) [w] (x::U) [c,d] T]) (λk=>n-k) (λk=>k<=n) 0 (Qh _) rfl rfl λk hk=>?_
   by_cases hkn:k<n
   ·obtain⟨p,hp⟩:=gxE (l:=E.M) (i:=k) (by omega);refine go tt [.T,.x (Ts hp),.c [8] (hh (mS p (Qa hp))),.f rfl] rfl (by simp[U3] <;> omega) ?_;exact rd (k+1) (by omega) (by omega) rfl
   refine Uf [.F] rfl ?_;refine Uk (S:=Nat) 9 (λL1 k=>(131,.v (.oi k))::L1) (λ_=>enL E ms N++[anB (x::V) [w] (x::U) [c,d] T]) (λk=>T.length-k) (λk=>k<=T.length) 0 (Qh _) rfl rfl λk hk=>?_
   by_cases hkn:k<T.length
   ·obtain⟨m,hm⟩:=gxE (l:=T) (i:=k) hkn;obtain⟨⟨m1,m2⟩,m3,m4⟩:=mT m (Qa hm);have hg:(I0 T)[k]? = some (trL m):=Gx hm;refine go tt [.T,.x hg,.i 0,.x hg,.i 1,.g 147 true (decide_eq_true m1),.x hg,.i 1,.x hg,.i 2,.g 163 false (by simp <;> omega),.x hg,.i 0,.lo,.c [8] (hh m3),.g 174 false rfl,.x hg,.i 2,.lo,.c [8] (hh m4),.f rfl] rfl (by simp[U3] <;> omega) ?_;exact rd (k+1) (by omega) (by omega) rfl
   exact Uh [.F,.g 190 false (by simp),.x gW,.lo,.c [8] (hh w2),.g 198 true rfl,.g 203 false (by simp),.x gC,.lo,.c [8] (hh p3),.g 210 true rfl,.x gD,.lo,.c [8] (hh p4),.g 218 true rfl,.x gC,.x gD,.g 231 true (decide_eq_true p5),.k HC] rfl rfl (by simp[U3] <;> omega)
end Orr
namespace Orr
open Go Go.Proofs Tryz
variable{H:Type}{enc:TypeId×Value->H}{w:World}{base:Nat}{spare:Nat->Bool}{held:Bool}
theorem Sr{α:Type}{l:List α}{n i:Nat}(h:l.length=n)(hi:i<n):∃x,l[i]? = some x:=⟨l[i]'(by omega),Qf (by omega)⟩
end Orr
namespace Orr
open Go Go.Proofs Tryz Go.ChangeShapes Go.WideShapes Go.ChangeAt Go.RowKit Go.WideElems
theorem Qn4{w:World}{a:Addr}{v:Value}(h:w.cell? a=some v):a.spot=none/\a.block<w.heap.size:=by
 simp only[World.cell?]at h
 split at h
 ·rename_i c t fr hc
  split at h
  ·cases h
  ·rename_i hs;refine⟨by cases e:a.spot with|none=>rfl|some _=>simp[e]at hs,?_⟩;exact(Array.getElem?_eq_some_iff.1 hc).1
 ·cases h
theorem Qme{a:Addr}(h:a.spot=none)(n m:Nat):(a.add n).add m=⟨a.block,a.off+n+m,none⟩:=by
 obtain⟨b,o,s⟩:=a;simp only at h;subst h;simp only[Addr.add]
 split
 ·rename_i h;subst h
  split
  ·rename_i h;subst h;simp
  ·simp
 ·split
  ·rename_i h;subst h;simp
  ·simp
def fr0(w:World):Fr:=⟨λb=>b<w.heap.size,λ_=>False,w,λ_=>False,λ_=>none⟩
theorem AH(w:World):HS (fr0 w) (ob []) (nw []) (λ_=>none) (λ_=>False) w where
 size:=Qm _
 kept:=λb hb=>⟨hb,rfl,Iff.rfl⟩
 ids:=λi h=>h.elim
 nj:=λi h=>by rw[yT]at h;cases h
 io:=⟨rfl,rfl⟩
 blk:=λi=>by rw[yT];trivial
 nk:=λi g c m h _=>by rw[yT]at h;cases h
 inj:=λi j g c m c' m' h _ _ _=>by rw[yT]at h;cases h
 mlt:=λb h=>h.elim
 m0:=λb _ h=>h.elim
 un:=λi _=>⟨rfl,rfl⟩
 uj:=λi _ h=>h.elim
theorem Qqi{w w':World}{bl:Nat->OB}{U:Nat->Prop}{E:B8}{M:Nat->Prop}(h:HS (fr0 w) bl U E M w'){p:MemPlace}(hp:p.block<w.heap.size):w.sameAt w' p:=by
 cases p with
 |cell b off=>simp only[World.sameAt,World.cell?];rw[(h.kept b hp).2.1];rfl
 |map b=>exact(h.kept b hp).2.1
theorem Qoy{w w':World}{bl:Nat->OB}{U:Nat->Prop}{E:B8}{M:Nat->Prop}(h:HS (fr0 w) bl U E M w')(may:MemPlace->Prop):w.keptBut w' may:=by
 refine⟨h.io.1,h.io.2,λi hi=>?_⟩;have e:w'.heap[i]? = w.heap[i]? := (h.kept i hi).2.1;rw[e];cases w.heap[i]? with
 |none=>rfl
 |some o=>cases o <;> simp
end Orr
