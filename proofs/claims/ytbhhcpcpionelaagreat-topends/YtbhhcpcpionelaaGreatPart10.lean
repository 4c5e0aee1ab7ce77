/- MD2 MD3 MD4 MD5 MD6 X22 SD2 H4 En2 X20 X21 En3 EnZ En4 EnO EnQ W24 EnBd EnP EnR RawO EnA EnE EnU EnV BndE EnT RatZ EnB EnG WT24 WTN24 ReadN LastN -/
import Derived.Test.YtbhhcpcpionelaaGreatPart09
import Derived.Test.YtbhhcpcpionelaaGreatPart00
import Derived.Test.YtbhhcpcpionelaaGreatPart08
import Derived.Test.YtbhhcpcpionelaaGreatPart07
import Derived.Deep.Slices
import Derived.ProofKit
import Derived.OpenShut
import Derived.WideKeyArgs
import Derived.SizedLaws
set_option linter.all false
namespace Orr
open Go Go.Proofs Tryz Orq
set_option maxRecDepth 10000
def fO(T:Ba)(s:Int)(n:Uq)(F:Ba)(k:Nat):Ba:=(List.range k).foldl (Oe T s n) F
theorem bZ(T:Ba)(s:Int)(n:Uq)(F:Ba)(k:Nat):fO T s n F (k+1)=Oe T s n (fO T s n F k) k:=by unfold fO;rw[List.range_succ,List.foldl_append];rfl
theorem bQ(T:Ba)(s:Int)(n:Uq)(F:Ba):fO T s n F 4=qJ T s n F:=rfl
set_option maxHeartbeats 4000000 in
theorem Qu1{F T:Ba}{s n0 n1 n2 n3:Int}(hT:wS T)(hs:-1<=s/\s<=1):U8 prog 175 [.one (.omap 0),.one (.omap 1),.oi s,.agg [.int .i64 n0,.int .i64 n1,.int .i64 n2,.int .i64 n3]] [.mpb F,.mpb T] [] [.mpb (qJ T s [n0,n1,n2,n3] F),.mpb T]:=by
 have hm:Qm7 T:=λk=>(hT k).1
 have hb:=λ(k:Uq) (x:Int) (hx:-1<=x/\x<=1)=>Qdq (hT k).2 hx
 rw[<-bQ];obtain⟨f,hf⟩:=nmE (fO T s [n0,n1,n2,n3] F);have f0:F=f 0:=by rw[hf];rfl
 have fs:∀k,f (k+1)=Oe T s [n0,n1,n2,n3] (f k) k:=λk=>by rw[hf];exact bZ ..
 rw[<-hf];rw[f0];clear hf f0;refine Fz func175 rfl ?_;refine Uh [] rfl ?_;refine Um (S:=Nat) 3 (λL1 k=>(14,.v (.oi k))::L1) (λk=>[.mpb (f k),.mpb T,.blk 122 [.int .i64 n0,.int .i64 n1,.int .i64 n2,.int .i64 n3]]) (λk=>4-k) (λk=>k<=4) 0 (by decide) rfl rfl λk hk=>?_
 rcases(show k=0\/k=1\/k=2\/k=3\/k=4 by omega)with rfl|rfl|rfl|rfl|rfl
 ·have e1:=fs 0;have e2:Oe T s [n0,n1,n2,n3] (f 0) 0=if ZC T [n1,n2,n3]*(-s)>0 then Ec (f 0) [n1,n2,n3] (.bool true)else f 0:=rfl
  rw[e2]at e1;refine Uh [.t rfl] rfl ?_;refine Um (S:=Nat) 4 (λL1 i=>(18,.v (.oi i))::(10,.v (.oi (if i<=0 then(i:Int)else(i:Int)-1)))::L1) (λi=>[.mpb (f 0),.mpb T,.blk 122 [.int .i64 n0,.int .i64 n1,.int .i64 n2,.int .i64 n3],.blk 101 [.int .i64 (if 2<=i then n1 else 0),.int .i64 (if 3<=i then n2 else 0),.int .i64 (if 4<=i then n3 else 0)]]) (λi=>4-i) (λi=>i<=4) 0 (by decide) rfl rfl λi hi=>?_
  rcases(show i=0\/i=1\/i=2\/i=3\/i=4 by omega)with rfl|rfl|rfl|rfl|rfl
  ·refine Uh [.t rfl,.i 0,.f rfl] rfl ?_ (by simp[U5]);exact rd 1 (by omega) (by omega) rfl
  ·refine Uh [.t rfl,.i 1,.t rfl,.i 0] rfl ?_ (by simp[U5]);exact rd 2 (by omega) (by omega) rfl
  ·refine Uh [.t rfl,.i 2,.t rfl,.i 1] rfl ?_ (by simp[U5]);exact rd 3 (by omega) (by omega) rfl
  ·refine Uh [.t rfl,.i 3,.t rfl,.i 2] rfl ?_ (by simp[U5]);exact rd 4 (by omega) (by omega) rfl
  ·have hbb:=hb [n1,n2,n3] (-s) (by omega);by_cases hc:ZC T [n1,n2,n3]*(-s)>0
   ·rw[if_pos hc]at e1;refine go tt [.f rfl,.t rfl,.t (decide_eq_true hc)] rfl (by simp only[U5];first|exact⟨⟨by omega,by omega⟩,hbb,hm,⟨by omega,by omega⟩,by decide,by omega,by omega⟩|exact⟨⟨by omega,by omega⟩,hbb,hm,by decide,by omega,by omega⟩) ?_;exact rd 1 (by omega) (by omega) (by rw[e1];rfl)
   ·rw[if_neg hc]at e1;refine go tt [.f rfl,.t rfl,.f (decide_eq_false hc)] rfl (by simp only[U5];first|exact⟨⟨by omega,by omega⟩,hbb,hm,⟨by omega,by omega⟩,by decide,by omega,by omega⟩|exact⟨⟨by omega,by omega⟩,hbb,hm,by decide,by omega,by omega⟩) ?_;exact rd 1 (by omega) (by omega) (by rw[e1];rfl)
 ·have e1:=fs 1;have e2:Oe T s [n0,n1,n2,n3] (f 1) 1=if ZC T [n0,n2,n3]*s>0 then Ec (f 1) [n0,n2,n3] (.bool true)else f 1:=rfl
  rw[e2]at e1;refine Uh [.t rfl] rfl ?_;refine Um (S:=Nat) 4 (λL1 i=>(18,.v (.oi i))::(10,.v (.oi (if i<=1 then(i:Int)else(i:Int)-1)))::L1) (λi=>[.mpb (f 1),.mpb T,.blk 122 [.int .i64 n0,.int .i64 n1,.int .i64 n2,.int .i64 n3],.blk 101 [.int .i64 (if 1<=i then n0 else 0),.int .i64 (if 3<=i then n2 else 0),.int .i64 (if 4<=i then n3 else 0)]]) (λi=>4-i) (λi=>i<=4) 0 (by decide) rfl rfl λi hi=>?_
  rcases(show i=0\/i=1\/i=2\/i=3\/i=4 by omega)with rfl|rfl|rfl|rfl|rfl
  ·refine Uh [.t rfl,.i 0,.t rfl,.i 0] rfl ?_ (by simp[U5]);exact rd 1 (by omega) (by omega) rfl
  ·refine Uh [.t rfl,.i 1,.f rfl] rfl ?_ (by simp[U5]);exact rd 2 (by omega) (by omega) rfl
  ·refine Uh [.t rfl,.i 2,.t rfl,.i 1] rfl ?_ (by simp[U5]);exact rd 3 (by omega) (by omega) rfl
  ·refine Uh [.t rfl,.i 3,.t rfl,.i 2] rfl ?_ (by simp[U5]);exact rd 4 (by omega) (by omega) rfl
  ·have hbb:=hb [n0,n2,n3] s (by omega);by_cases hc:ZC T [n0,n2,n3]*s>0
   ·rw[if_pos hc]at e1;refine go tt [.f rfl,.f rfl,.t (decide_eq_true hc)] rfl (by simp only[U5];first|exact⟨⟨by omega,by omega⟩,hbb,hm,⟨by omega,by omega⟩,by decide,by omega,by omega⟩|exact⟨⟨by omega,by omega⟩,hbb,hm,by decide,by omega,by omega⟩) ?_;exact rd 2 (by omega) (by omega) (by rw[e1];rfl)
   ·rw[if_neg hc]at e1;refine go tt [.f rfl,.f rfl,.f (decide_eq_false hc)] rfl (by simp only[U5];first|exact⟨⟨by omega,by omega⟩,hbb,hm,⟨by omega,by omega⟩,by decide,by omega,by omega⟩|exact⟨⟨by omega,by omega⟩,hbb,hm,by decide,by omega,by omega⟩) ?_;exact rd 2 (by omega) (by omega) (by rw[e1];rfl)
 ·have e1:=fs 2;have e2:Oe T s [n0,n1,n2,n3] (f 2) 2=if ZC T [n0,n1,n3]*(-s)>0 then Ec (f 2) [n0,n1,n3] (.bool true)else f 2:=rfl
  rw[e2]at e1;refine Uh [.t rfl] rfl ?_;refine Um (S:=Nat) 4 (λL1 i=>(18,.v (.oi i))::(10,.v (.oi (if i<=2 then(i:Int)else(i:Int)-1)))::L1) (λi=>[.mpb (f 2),.mpb T,.blk 122 [.int .i64 n0,.int .i64 n1,.int .i64 n2,.int .i64 n3],.blk 101 [.int .i64 (if 1<=i then n0 else 0),.int .i64 (if 2<=i then n1 else 0),.int .i64 (if 4<=i then n3 else 0)]]) (λi=>4-i) (λi=>i<=4) 0 (by decide) rfl rfl λi hi=>?_
  rcases(show i=0\/i=1\/i=2\/i=3\/i=4 by omega)with rfl|rfl|rfl|rfl|rfl
  ·refine Uh [.t rfl,.i 0,.t rfl,.i 0] rfl ?_ (by simp[U5]);exact rd 1 (by omega) (by omega) rfl
  ·refine Uh [.t rfl,.i 1,.t rfl,.i 1] rfl ?_ (by simp[U5]);exact rd 2 (by omega) (by omega) rfl
  ·refine Uh [.t rfl,.i 2,.f rfl] rfl ?_ (by simp[U5]);exact rd 3 (by omega) (by omega) rfl
  ·refine Uh [.t rfl,.i 3,.t rfl,.i 2] rfl ?_ (by simp[U5]);exact rd 4 (by omega) (by omega) rfl
  ·have hbb:=hb [n0,n1,n3] (-s) (by omega);by_cases hc:ZC T [n0,n1,n3]*(-s)>0
   ·rw[if_pos hc]at e1;refine go tt [.f rfl,.t rfl,.t (decide_eq_true hc)] rfl (by simp only[U5];first|exact⟨⟨by omega,by omega⟩,hbb,hm,⟨by omega,by omega⟩,by decide,by omega,by omega⟩|exact⟨⟨by omega,by omega⟩,hbb,hm,by decide,by omega,by omega⟩) ?_;exact rd 3 (by omega) (by omega) (by rw[e1];rfl)
   ·rw[if_neg hc]at e1;refine go tt [.f rfl,.t rfl,.f (decide_eq_false hc)] rfl (by simp only[U5];first|exact⟨⟨by omega,by omega⟩,hbb,hm,⟨by omega,by omega⟩,by decide,by omega,by omega⟩|exact⟨⟨by omega,by omega⟩,hbb,hm,by decide,by omega,by omega⟩) ?_;exact rd 3 (by omega) (by omega) (by rw[e1];rfl)
 ·have e1:=fs 3;have e2:Oe T s [n0,n1,n2,n3] (f 3) 3=if ZC T [n0,n1,n2]*s>0 then Ec (f 3) [n0,n1,n2] (.bool true)else f 3:=rfl
  rw[e2]at e1;refine Uh [.t rfl] rfl ?_;refine Um (S:=Nat) 4 (λL1 i=>(18,.v (.oi i))::(10,.v (.oi (if i<=3 then(i:Int)else(i:Int)-1)))::L1) (λi=>[.mpb (f 3),.mpb T,.blk 122 [.int .i64 n0,.int .i64 n1,.int .i64 n2,.int .i64 n3],.blk 101 [.int .i64 (if 1<=i then n0 else 0),.int .i64 (if 2<=i then n1 else 0),.int .i64 (if 3<=i then n2 else 0)]]) (λi=>4-i) (λi=>i<=4) 0 (by decide) rfl rfl λi hi=>?_
  rcases(show i=0\/i=1\/i=2\/i=3\/i=4 by omega)with rfl|rfl|rfl|rfl|rfl
  ·refine Uh [.t rfl,.i 0,.t rfl,.i 0] rfl ?_ (by simp[U5]);exact rd 1 (by omega) (by omega) rfl
  ·refine Uh [.t rfl,.i 1,.t rfl,.i 1] rfl ?_ (by simp[U5]);exact rd 2 (by omega) (by omega) rfl
  ·refine Uh [.t rfl,.i 2,.t rfl,.i 2] rfl ?_ (by simp[U5]);exact rd 3 (by omega) (by omega) rfl
  ·refine Uh [.t rfl,.i 3,.f rfl] rfl ?_ (by simp[U5]);exact rd 4 (by omega) (by omega) rfl
  ·have hbb:=hb [n0,n1,n2] s (by omega);by_cases hc:ZC T [n0,n1,n2]*s>0
   ·rw[if_pos hc]at e1;refine go tt [.f rfl,.f rfl,.t (decide_eq_true hc)] rfl (by simp only[U5];first|exact⟨⟨by omega,by omega⟩,hbb,hm,⟨by omega,by omega⟩,by decide,by omega,by omega⟩|exact⟨⟨by omega,by omega⟩,hbb,hm,by decide,by omega,by omega⟩) ?_;exact rd 4 (by omega) (by omega) (by rw[e1];rfl)
   ·rw[if_neg hc]at e1;refine go tt [.f rfl,.f rfl,.f (decide_eq_false hc)] rfl (by simp only[U5];first|exact⟨⟨by omega,by omega⟩,hbb,hm,⟨by omega,by omega⟩,by decide,by omega,by omega⟩|exact⟨⟨by omega,by omega⟩,hbb,hm,by decide,by omega,by omega⟩) ?_;exact rd 4 (by omega) (by omega) (by rw[e1];rfl)
 ·exact Ul [] [0,1] [.f rfl] rfl
set_option maxHeartbeats 8000000 in
theorem OJ{l:List Pt}{a:Tm}{c:Cr}{r1:Uw}(hl:∀p∈l,Sc p.c)(hn:l.length≤6)(ha:Va a):U8 prog 126 [.one (.ow 0 0),.agg (ta a)] [.blk 205 (Ho c (U4 l) r1)] [.one (.row (Ft (MN l a)))] [.blk 205 (Ho c (U4 l) (mH l a))]:=by
 have hwl:=A4 l;have cw:=nX (l:=l) (Qbo hl) (by omega);have hgb:=Qi3 a;unfold mH MN rR rT;obtain⟨sg',hsg⟩:∃s,s=Fx a:=⟨_,rfl⟩;obtain⟨W,hW⟩:=nmE (Rw l);have hWs:∀p∈W,Sc p.c:=λp hp=>hl p (My (by rw[<-hW];exact hp))
 have mR:=λ{x y z:Pt} (hx:x∈W) (hy:y∈W) (hz:z∈W)=>eA (t:=a) (hWs x hx) (hWs y hy) (hWs z hz) ha
 have mC:=λ{x y z u:Pt} (hx:x∈W) (hy:y∈W) (hz:z∈W) (hu:u∈W)=>Qny (t:=a) (hWs x hx) (hWs y hy) (hWs z hz) (hWs u hu) ha
 rw[<-hW]at cw hwl ⊢;rw[<-hsg]at hgb mR mC ⊢;have hW6:W.length<=6:=by omega
 have hTi:=λps=>Qdi hgb ps
 have hcp:(W.map Ff).length=W.length:=by simp
 have hcp2:=G8 W;have hdr:∀i,(U4 W).drop i=U4 (W.drop i):=λi=>by unfold U4;rw[List.map_drop]
 have hel:∀z∈U4 W,z.length=5:=λz hz=>by obtain⟨p,_,rfl⟩:=Q6.1 hz;rfl
 have s7:∀x:Ct,∀y∈[L9 x],y.length=7:=λx y hy=>by rw[Ql.1 hy];rfl
 have s3:∀x:P3,∀y∈[trL x],y.length=3:=λx y hy=>by rw[Ql.1 hy];rfl
 obtain⟨T,hT⟩:=nmE (A2 (ZL sg' (Hx W)));obtain⟨G,hG⟩:=nmE (Oh T (VE sg' (Ax W)));have hTI:wS T:=by rw[hT];exact hTi _
 have hTm:Qm7 T:=λk=>(hTI k).1
 have hGB:Qex G:=λk=>by rw[hG];exact mG _ _ _ k
 rw[<-hT,<-hG];have e0:(Ft (((C0 0 W).map (MF sg'))))=[]:=rfl;refine Fz func126 rfl ?_;refine Uh [.k cw,.o 6 126 7] rfl ?_;refine Um (S:=Nat) 4 (λL1 i=>(42,.v (.oi i))::(6,.v (.one (.orow 2 7 none)))::L1) (λi=>[.blk 205 (Ho c (U4 l) r1),.blk 189 (ta a),.row false 126 7 (Ft ((C0 i W).map (MF sg'))),.mpb (A2 (ZL sg' (C0 i W)))]) (λi=>W.length-i) (λi=>i<=W.length) 0 (Qh _) rfl rfl λi hi=>?_
 by_cases hlt:i<W.length
 ·obtain⟨x,hx⟩:=gxE (l:=W) (i:=i) hlt;have xm:=Qc hx;obtain⟨V,hV⟩:=nmE (W.drop (i+1));have hVl:V.length=W.length-(i+1):=by rw[hV,Q9]
  have hVm:∀p∈V,p∈W:=λp hp=>by rw[hV]at hp;exact Qz hp
  have eV:(U4 W).drop (i+1)=U4 V:=by rw[hdr,<-hV]
  rw[<-EG W x i];refine go tt [.T,.x (Si hx),.r 49 (eI (b:=((i+1:Nat):Int)) (by omega)),.i (i+1),.r 50 (FZ eV)] rfl (by simp only[U5];(repeat' apply And.intro) <;> first|omega|exact hel) ?_;have hVr:=G8 V;refine Um (S:=Nat) 5 (λL1 j=>(52,.v (.oi j))::(6,.v (.one (.orow 2 7 none)))::L1) (λj=>[.blk 205 (Ho c (U4 l) r1),.blk 189 (ta a),.row false 126 7 (Ft ((p3j W x i j).map (MF sg'))),.mpb (A2 (ZL sg' (p3j W x i j))),.blk 41 (Ff x)]) (λj=>V.length-j) (λj=>j<=V.length) 0 (Qh _) rfl rfl λj hj=>?_
  by_cases hltj:j<V.length
  ·obtain⟨y,hy⟩:=gxE (l:=V) (i:=j) hltj;have ym:=hVm y (Qc hy);have hy':(W.drop (i+1))[j]? = some y:=by rw[<-hV];exact hy
   obtain⟨U,hU⟩:=nmE (V.drop (j+1));have hUl:U.length=V.length-(j+1):=by rw[hU,Q9]
   have hUm:∀p∈U,p∈W:=λp hp=>by rw[hU]at hp;exact hVm p (Qz hp)
   have hUW:U=(W.drop (i+1)).drop (j+1):=by rw[hU,hV]
   have eU:(U4 W).drop (i+j+2)=U4 U:=by rw[hdr,hU,hV,Jx];congr 2;omega
   have hUr:=G8 U;rw[<-ER W x y i j];refine go tt [.T,.x (Si hy),.r 61 (eI (b:=((i+j+2:Nat):Int)) (by omega)),.i (i+j+2),.r 62 (FZ eU)] rfl (by simp only[U5];(repeat' apply And.intro) <;> first|omega|exact hel) ?_;refine Um (S:=Nat) 6 (λL1 k=>(64,.v (.oi k))::(6,.v (.one (.orow 2 7 none)))::L1) (λk=>[.blk 205 (Ho c (U4 l) r1),.blk 189 (ta a),.row false 126 7 (Ft ((zU W x y i j k).map (MF sg'))),.mpb (A2 (ZL sg' (zU W x y i j k))),.blk 41 (Ff x),.blk 41 (Ff y)]) (λk=>U.length-k) (λk=>k<=U.length) 0 (Qh _) rfl rfl λk hk=>?_
   by_cases hltk:k<U.length
   ·obtain⟨z,hz⟩:=gxE (l:=U) (i:=k) hltk;have zm:=hUm z (Qc hz);have hlen:=Qai hW6 (k:=k) hx hy';have en:=EH (x:=x) (y:=y) (by rw[<-hUW];exact hz);have et:=lM sg' (zU W x y i j k) (x,y,z);rw[<-en]at et;refine go tt [.T,.x (Si hz),.k (mR xm ym zm),.s (sz:=7) (s7 _)] rfl (by simp[U5,Bb] <;> omega) ?_;exact rd (k+1) (by omega) hltk (by rw[et,en,Yi];simp[Ft];rfl)
   ·have e:=vS (x:=x) (k:=k) hy' (by rw[<-hUW];omega);rw[e];refine go tt [.F] rfl (by simp[U5] <;> omega) ?_;exact rd (j+1) (by omega) hltj rfl
  ·have e:=vT (x:=x) (j:=j) hx (by rw[<-hV];omega);rw[e];refine go tt [.F] rfl (by simp[U5] <;> omega) ?_;exact rd (i+1) (by omega) hlt rfl
 rw[Qbh (show i=W.length by omega),<-hT];have hiW:¬i<W.length:=hlt;clear hlt;obtain⟨C3,hC3⟩:=nmE ((Hx W).map (MF sg'));have hC3l:C3.length<=20:=by rw[hC3,Za];exact(VK hW6).1
 rw[<-hC3];refine Uh [.F] rfl ?_;have eC:Ft C3=Ft (C3++(Du 0 W).map (RG sg')):=by rw[show Du 0 W=[] from rfl,Jb,Zv]
 rw[eC];refine Um (S:=Nat) 5 (λL1 i=>(97,.v (.oi i))::(6,.v (.one (.orow 2 7 none)))::L1) (λi=>[.blk 205 (Ho c (U4 l) r1),.blk 189 (ta a),.row false 126 7 (Ft (C3++(Du i W).map (RG sg'))),.mpb T,.mpb (Oh T (VE sg' (Du i W)))]) (λi=>W.length-i) (λi=>i<=W.length) 0 (Qh _) rfl rfl λi hi=>?_
 by_cases hlt:i<W.length
 ·obtain⟨x,hx⟩:=gxE (l:=W) (i:=i) hlt;have xm:=Qc hx;obtain⟨V,hV⟩:=nmE (W.drop (i+1));have hVl:V.length=W.length-(i+1):=by rw[hV,Q9]
  have hVm:∀p∈V,p∈W:=λp hp=>by rw[hV]at hp;exact Qz hp
  have eV:(U4 W).drop (i+1)=U4 V:=by rw[hdr,<-hV]
  have hVr:=G8 V;rw[<-Qkh W x i];refine go tt [.T,.x (Si hx),.r 104 (eI (b:=((i+1:Nat):Int)) (by omega)),.i (i+1),.r 105 (FZ eV)] rfl (by simp only[U5];(repeat' apply And.intro) <;> first|omega|exact hel) ?_;refine Um (S:=Nat) 6 (λL1 j=>(107,.v (.oi j))::(6,.v (.one (.orow 2 7 none)))::L1) (λj=>[.blk 205 (Ho c (U4 l) r1),.blk 189 (ta a),.row false 126 7 (Ft (C3++(p4j W x i j).map (RG sg'))),.mpb T,.mpb (Oh T (VE sg' (p4j W x i j))),.blk 41 (Ff x)]) (λj=>V.length-j) (λj=>j<=V.length) 0 (Qh _) rfl rfl λj hj=>?_
  by_cases hltj:j<V.length
  ·obtain⟨y,hy⟩:=gxE (l:=V) (i:=j) hltj;have ym:=hVm y (Qc hy);have hy':(W.drop (i+1))[j]? = some y:=by rw[<-hV];exact hy
   obtain⟨U,hU⟩:=nmE (V.drop (j+1));have hUl:U.length=V.length-(j+1):=by rw[hU,Q9]
   have hUm:∀p∈U,p∈W:=λp hp=>by rw[hU]at hp;exact hVm p (Qz hp)
   have hUW:U=(W.drop (i+1)).drop (j+1):=by rw[hU,hV]
   have eU:(U4 W).drop (i+j+2)=U4 U:=by rw[hdr,hU,hV,Jx];congr 2;omega
   have hUr:=G8 U;rw[<-Qki W x y i j];refine go tt [.T,.x (Si hy),.r 116 (eI (b:=((i+j+2:Nat):Int)) (by omega)),.i (i+j+2),.r 117 (FZ eU)] rfl (by simp only[U5];(repeat' apply And.intro) <;> first|omega|exact hel) ?_;refine Um (S:=Nat) 7 (λL1 k=>(119,.v (.oi k))::(6,.v (.one (.orow 2 7 none)))::L1) (λk=>[.blk 205 (Ho c (U4 l) r1),.blk 189 (ta a),.row false 126 7 (Ft (C3++(p4k W x y i j k).map (RG sg'))),.mpb T,.mpb (Oh T (VE sg' (p4k W x y i j k))),.blk 41 (Ff x),.blk 41 (Ff y)]) (λk=>U.length-k) (λk=>k<=U.length) 0 (Qh _) rfl rfl λk hk=>?_
   by_cases hltk:k<U.length
   ·obtain⟨z,hz⟩:=gxE (l:=U) (i:=k) hltk;have zm:=hUm z (Qc hz);have hz':((W.drop (i+1)).drop (j+1))[k]? = some z:=by rw[<-hUW];exact hz
    obtain⟨R,hR⟩:=nmE (U.drop (k+1));have hRl:R.length=U.length-(k+1):=by rw[hR,Q9]
    have hRm:∀p∈R,p∈W:=λp hp=>by rw[hR]at hp;exact hUm p (Qz hp)
    have hRW:R=((W.drop (i+1)).drop (j+1)).drop (k+1):=by rw[hR,hUW]
    have eR:(U4 W).drop (i+j+k+3)=U4 R:=by rw[hdr,hRW,Jx,Jx];congr 2;omega
    have hRr:=G8 R;rw[<-Qkk W x y z i j k];refine go tt [.T,.x (Si hz),.r 130 (eI (b:=((i+j+k+3:Nat):Int)) (by omega)),.i (i+j+k+3),.r 131 (FZ eR)] rfl (by simp only[U5];(repeat' apply And.intro) <;> first|omega|exact hel) ?_;refine Um (S:=Nat) 8 (λL1 m=>(133,.v (.oi m))::(6,.v (.one (.orow 2 7 none)))::L1) (λm=>[.blk 205 (Ho c (U4 l) r1),.blk 189 (ta a),.row false 126 7 (Ft (C3++(p4m W x y z i j k m).map (RG sg'))),.mpb T,.mpb (Oh T (VE sg' (p4m W x y z i j k m))),.blk 41 (Ff x),.blk 41 (Ff y),.blk 41 (Ff z)]) (λm=>R.length-m) (λm=>m<=R.length) 0 (Qh _) rfl rfl λm hm=>?_
    by_cases hltm:m<R.length
    ·obtain⟨u,hu⟩:=gxE (l:=R) (i:=m) hltm;have um:=hRm u (Qc hu);have hlen:=Qqn hW6 (m:=m) hx hy' hz';have en:=Qkj (x:=x) (y:=y) (z:=z) (by rw[<-hRW];exact hu);have et:=bV sg' T (p4m W x y z i j k m) (x,y,z,u);rw[<-en]at et;have cf:=Qu1 (F:=Oh T (VE sg' (p4m W x y z i j k m))) (s:=(zZ sg' x y z u).want) (n0:=x.id) (n1:=y.id) (n2:=z.id) (n3:=u.id) hTI (hgb _);refine go tt [.T,.x (Si hu),.k (mC xm ym zm um),.s (sz:=7) (s7 _),.c [4,3] cf] rfl (by simp[U5,Bb] <;> omega) ?_;exact rd (m+1) (by omega) hltm (by rw[et,en,Yi,<-Ze];simp[Ft];rfl)
    ·have e:=Qqm (x:=x) (y:=y) (m:=m) hz' (by rw[<-hRW];omega);rw[e];refine go tt [.F] rfl (by simp[U5] <;> omega) ?_;exact rd (k+1) (by omega) hltk rfl
   ·have e:=Qql (x:=x) (k:=k) hy' (by rw[<-hUW];omega);rw[e];refine go tt [.F] rfl (by simp[U5] <;> omega) ?_;exact rd (j+1) (by omega) hltj rfl
  ·have e:=Qqk (x:=x) (j:=j) hx (by rw[<-hV];omega);rw[e];refine go tt [.F] rfl (by simp[U5] <;> omega) ?_;exact rd (i+1) (by omega) hlt rfl
 rw[Qq0 (show i=W.length by omega),<-hG];obtain⟨C4,hC4⟩:=nmE (C3++(Ax W).map (RG sg'));rw[<-hC4];refine Uh [.F] rfl ?_;refine ozM 0 13 101 3 rfl rfl ?_;have eT:([]:Uw)=UY ((C0 0 W).filter (yP T G)):=rfl;rw[eT];refine Um (S:=Nat) 6 (λL1 i=>(174,.v (.oi i))::L1) (λi=>[.blk 205 [.bool true,pl c.now.p,sg c.now.lo.num,mg c.now.lo.num,sg (c.now.lo.den:Int),mg (c.now.lo.den:Int),sg c.now.hi.num,mg c.now.hi.num,sg (c.now.hi.den:Int),mg (c.now.hi.den:Int),.row (Da c.l),.int .i64 c.ev,.row (U4 l),.orow 5 3 none],.blk 189 (ta a),.row false 126 7 (Ft C4),.mpb T,.mpb G,.row false 101 3 (UY ((C0 i W).filter (yP T G)))]) (λi=>W.length-i) (λi=>i<=W.length) 0 (Qh _) rfl rfl λi hi=>?_
 by_cases hlt:i<W.length
 ·obtain⟨x,hx⟩:=gxE (l:=W) (i:=i) hlt;obtain⟨V,hV⟩:=nmE (W.drop (i+1));have hVl:V.length=W.length-(i+1):=by rw[hV,Q9]
  have eV:(U4 W).drop (i+1)=U4 V:=by rw[hdr,<-hV]
  have hVr:=G8 V;rw[<-EG W x i];refine go tt [.T,.x (Si hx),.r 181 (eI (b:=((i+1:Nat):Int)) (by omega)),.i (i+1),.r 182 (FZ eV)] rfl (by simp only[U5];(repeat' apply And.intro) <;> first|omega|exact hel) ?_;refine Um (S:=Nat) 7 (λL1 j=>(184,.v (.oi j))::L1) (λj=>[.blk 205 [.bool true,pl c.now.p,sg c.now.lo.num,mg c.now.lo.num,sg (c.now.lo.den:Int),mg (c.now.lo.den:Int),sg c.now.hi.num,mg c.now.hi.num,sg (c.now.hi.den:Int),mg (c.now.hi.den:Int),.row (Da c.l),.int .i64 c.ev,.row (U4 l),.orow 5 3 none],.blk 189 (ta a),.row false 126 7 (Ft C4),.mpb T,.mpb G,.row false 101 3 (UY ((p3j W x i j).filter (yP T G))),.blk 41 (Ff x)]) (λj=>V.length-j) (λj=>j<=V.length) 0 (Qh _) rfl rfl λj hj=>?_
  by_cases hltj:j<V.length
  ·obtain⟨y,hy⟩:=gxE (l:=V) (i:=j) hltj;have hy':(W.drop (i+1))[j]? = some y:=by rw[<-hV];exact hy
   obtain⟨U,hU⟩:=nmE (V.drop (j+1));have hUl:U.length=V.length-(j+1):=by rw[hU,Q9]
   have hUW:U=(W.drop (i+1)).drop (j+1):=by rw[hU,hV]
   have eU:(U4 W).drop (i+j+2)=U4 U:=by rw[hdr,hU,hV,Jx];congr 2;omega
   have hUr:=G8 U;rw[<-ER W x y i j];refine go tt [.T,.x (Si hy),.r 193 (eI (b:=((i+j+2:Nat):Int)) (by omega)),.i (i+j+2),.r 194 (FZ eU)] rfl (by simp only[U5];(repeat' apply And.intro) <;> first|omega|exact hel) ?_;refine Um (S:=Nat) 8 (λL1 k=>(196,.v (.oi k))::L1) (λk=>[.blk 205 [.bool true,pl c.now.p,sg c.now.lo.num,mg c.now.lo.num,sg (c.now.lo.den:Int),mg (c.now.lo.den:Int),sg c.now.hi.num,mg c.now.hi.num,sg (c.now.hi.den:Int),mg (c.now.hi.den:Int),.row (Da c.l),.int .i64 c.ev,.row (U4 l),.orow 5 3 none],.blk 189 (ta a),.row false 126 7 (Ft C4),.mpb T,.mpb G,.row false 101 3 (UY ((zU W x y i j k).filter (yP T G))),.blk 41 (Ff x),.blk 41 (Ff y)]) (λk=>U.length-k) (λk=>k<=U.length) 0 (Qh _) rfl rfl λk hk=>?_
   by_cases hltk:k<U.length
   ·obtain⟨z,hz⟩:=gxE (l:=U) (i:=k) hltk;have hlen:=Qai hW6 (k:=k) hx hy';have en:=EH (x:=x) (y:=y) (by rw[<-hUW];exact hz);have hfl:=Y0 (yP T G) (zU W x y i j k);have htl:=pV ((zU W x y i j k).filter (yP T G));by_cases h1:ZC T [x.id,y.id,z.id]≠0
    ·by_cases h2:BB G [x.id,y.id,z.id]=true
     ·have ef:yP T G (x,y,z)=false:=by unfold yP bC;simp[h2]
      have eF:=Qio (ps:=zU W x y i j k) ef;rw[<-en]at eF;refine go tt [.T,.x (Si hz),.g 211 true (decide_eq_true h1),.f (by rw[h2];rfl)] rfl (by simp only[U5];(repeat' apply And.intro) <;> first|exact hTm|exact hGB|omega|(simp only[Q3,Ji];omega)) ?_;exact rd (k+1) (by omega) hltk (by rw[eF];rfl)
     ·have h2:BB G [x.id,y.id,z.id]=false:=by simpa using h2
      have ef:yP T G (x,y,z)=true:=by unfold yP bC;simp[h2,h1]
      have eF:=Qv0 (ps:=zU W x y i j k) ef;rw[<-en]at eF;refine go tt [.T,.x (Si hz),.g 211 true (decide_eq_true h1),.t (by rw[h2];rfl),.s (sz:=3) (s3 (x,y,z))] rfl (by simp only[U5];(repeat' apply And.intro) <;> first|exact hTm|exact hGB|omega|(simp only[Q3,Ji];omega)) ?_;exact rd (k+1) (by omega) hltk (by rw[eF];simp[UY];rfl)
    ·have ef:yP T G (x,y,z)=false:=by unfold yP bC;simp[h1]
     have eF:=Qio (ps:=zU W x y i j k) ef;rw[<-en]at eF;refine go tt [.T,.x (Si hz),.g 211 false (decide_eq_false h1),.f rfl] rfl (by simp only[U5];(repeat' apply And.intro) <;> first|exact hTm|exact hGB|omega|(simp only[Q3,Ji];omega)) ?_;exact rd (k+1) (by omega) hltk (by rw[eF];rfl)
   ·have e:=vS (x:=x) (k:=k) hy' (by rw[<-hUW];omega);rw[e];refine go tt [.F] rfl (by simp[U5] <;> omega) ?_;exact rd (j+1) (by omega) hltj rfl
  ·have e:=vT (x:=x) (j:=j) hx (by rw[<-hV];omega);rw[e];refine go tt [.F] rfl (by simp[U5] <;> omega) ?_;exact rd (i+1) (by omega) hlt rfl
 rw[Qbh (show i=W.length by omega)];rw[hC4,hC3];exact Ul [2,5] [0] [.F] rfl
theorem Qyv{T:Nat}{t:Rat}{Bc:Tm->List Ct}{Br:Tm->Uw}{r0:Uw}(ht:Qs 1640000 t)(hB:BuildOk Bc)
 (hb:∀a c r1,Va a->CrOk c->U8 prog 126 [.one (.ow 0 0),.agg (ta a)] [.blk T (Ho c r0 r1)] [.one (.row (Ft (Bc a)))] [.blk T (Ho c r0 (Br a))])
 {K:Nat} {c c':Cr} {r1 r1':Uw} {n:Int} (hc:CrOk c) (hev:0<=c.ev/\c.ev+K<=1000000000000000000) (h:Fq c.now t<=0) (hg:HC Bc Br t K c r1 0=some (c',r1',n)) :
 U8 prog 372 [.one (.ow 0 0),.agg (rl t),.one (.ofn 126 [.ow 0 0] [])] [.blk T (Ho c r0 r1)] [.oi n,.oi 0] [.blk T (Ho c' r0 r1')]:=by
 have qt:Qb t:=ht.mono (by decide);have c1:=Dk hc.n.tb qt;refine Fz func372 rfl ?_;refine Uh [.c [0] (QU hc.n),.k c1,.f (by simpa using h)] rfl ?_;refine Um (S:=Nat×Cr×Uw×Int) 2 (λL1 s=>(8,.v (.oi s.2.2.2))::L1) (λs=>[.blk T (Ho s.2.1 r0 s.2.2.1),.blk 43 (rl t)]) (λs=>s.1) (λs=>CrOk s.2.1/\(0<=s.2.1.ev/\s.2.1.ev+s.1<=1000000000000000000)/\(0<=s.2.2.2/\s.2.2.2+s.1<=1000000000000000000)/\HC Bc Br t s.1 s.2.1 s.2.2.1 s.2.2.2=some (c',r1',n)) (K,c,r1,0) ⟨hc,hev,⟨Int.le_refl 0,by dsimp only;omega⟩,hg⟩ rfl rfl λ⟨k,x,r,m⟩ ⟨j1,j2,j3,j4⟩=>?_
 dsimp only at j1 j2 j3 j4 ⊢;cases k with
 |zero=>cases j4
 |
  succ k =>
  simp only[HC]at j4;obtain⟨ws,w1,j4⟩:=Qd.1 j4;obtain⟨o,o1,j4⟩:=Qd.1 j4;have cn:=MC (T:=T) (r0:=r0) (r1:=r) j1 w1 o1;have ca:=KZ (U6 t.num) (U6 (t.den:Int)) (Qa ht.1 (by decide)) (Qa ht.2 (by decide)) (by rw[Sx];exact ht.mono (by decide));rw[Sx]at ca;cases o with
  |
   none =>
   injection j4 with j4;injection j4 with e1 j4;injection j4 with e2 e3;subst e1;subst e2;subst e3;exact Ul [] [0] [.c [0] cn,.g 25 true rfl,.t rfl,.k ca] rfl
  |
   some a =>
   have ha:=EW j1 w1 o1;dsimp only at j4;have cc:=Dk ha.tb qt;by_cases h0:0<Fq a t
   ·rw[if_pos h0]at j4;injection j4 with j4;injection j4 with e1 j4;injection j4 with e2 e3;subst e1;subst e2;subst e3;exact Ul [] [0] [.c [0] cn,.g 25 false rfl,.k cc,.t (by simpa using h0),.k ca] rfl
   ·rw[if_neg h0]at j4;obtain⟨w2,l1,j4⟩:=Qd.1 j4;have j1':=Et j1 w1;have cl:=Pf (b:=a) (l:=[]) ha.tb (λt ht=>by cases ht) (by decide) rfl;have cb:=hb a { x with l:=ws } r ha j1';have cy:=UT (T:=T) (r0:=r0) (r1:=Br a) j1' ha (hB.p a ha) (hB.n a ha) l1;have hf:decide (0<Fq a t)=false:=by simpa using h0
    refine Ui [.c [0] cn,.g 25 false rfl,.k cc,.f hf,.k cl,.c [0] cb,.c [0] cy] rfl ?_;exact rd (k,⟨a,w2,x.ev+1⟩,Br a,m+1) (by dsimp only;omega) ⟨lay_ok _ j1' ha (hB.p a ha) (hB.n a ha) l1,by dsimp only;omega,by dsimp only;omega,j4⟩ rfl
theorem Quh{t:Rat}{l:List Pt}{K:Nat}{c c':Cr}{r1 r1':Uw}{n:Int}(ht:Qs 1640000 t)(hl:∀p∈l,Sc p.c)(hn:l.length≤6)(hc:CrOk c)(hev:0≤c.ev/\c.ev+K≤1000000000000000000)(h:Fq c.now t≤0)(hg:HC (MN l) (mH l) t K c r1 0=some (c',r1',n)) :
 U8 prog 408 [.one (.ow 0 0),.agg (rl t)] [.blk 205 (Ho c (U4 l) r1)] [.oi n,.oi 0] [.blk 205 (Ho c' (U4 l) r1')]:=by
 have cg:=Qyv (T:=205) (r0:=U4 l) ht (mQ hl hn) (λa c r1 ha _=>OJ (c:=c) (r1:=r1) hl hn ha) hc hev h hg;refine Fz func408 rfl ?_;exact Ul [] [0] [.k (Nw (ht.mono (by decide))),.c [0] cg] rfl
theorem mD{c:Cr}{r0:Uw}{ts:List P3}(ht:ts.length<=1000):U8 prog 90 [.one (.ow 0 0)] [.blk 205 (Ho c r0 (UY ts))] [.one (.row (UY ts))] [.blk 205 (Ho c r0 (UY ts))]:=by
 have hl:=pV ts;have h3:∀y∈UY ts,y.length=3:=λy hy=>by obtain⟨m,_,rfl⟩:=Q6.1 hy;rfl
 refine Fz func90 rfl ?_;exact Ul [1] [0] [.s (sz:=3) h3] rfl (by simp[U5] <;> omega)

theorem BD{c:Cr}{l l':List Pt}{r1:Uw}{ws:List Wt}(hc:CrOk c)(hl:∀p∈l',Sc p.c)(hn:l'.length≤6)(h:Tp c.l c.now (Ga (MN l' c.now))=some ws) :
 U8 prog 412 [.one (.ow 0 0),.agg [pts l'],.oi 0] [.blk 205 (Ho c (U4 l) r1)] [.oi 0] [.blk 205 (Ho ⟨c.now,ws,c.ev⟩ (U4 l') (mH l' c.now))]:=by
 have hB:=mQ hl hn;have cn:=QU (T:=205) (c:=c) (r0:=U4 l') (r1:=r1) hc.n;have cb:=OJ (c:=c) (r1:=r1) hl hn hc.n;have cg:=YK (T:=205) (r0:=U4 l') (r1:=mH l' c.now) hc hc.n (I9 hc.n) (J5 0) (hB.p _ hc.n) (hB.n _ hc.n) h;refine Fz func412 rfl ?_;exact Ul [] [0] [.f rfl,.c [0] cn,.c [0] cb,.c [0] cg] rfl
theorem Qns{lx ly:Uw}{px py:Uq}{x y:LV}{d id:Int}{c:Cr}{l:List Pt}{r1:Uw}{ws:List Wt}(hx:IsInts lx px)(hy:IsInts ly py)(hd:Gi x y d)(hk:Cs 4294967294 1073741824 (Crv.mk px py d))(hll:l.length<=900)
 (he:WL l ⟨Crv.norm (Crv.mk px py d),id⟩=0) (hc:CrOk c) (hl:∀p∈put l ⟨Crv.norm (Crv.mk px py d),id⟩,Sc p.c) (hn:(put l ⟨Crv.norm (Crv.mk px py d),id⟩).length≤6) (h:Tp c.l c.now (Ga (MN (put l ⟨Crv.norm (Crv.mk px py d),id⟩) c.now))=some ws) :
 U8 prog 410 [.one (.ow 0 0),.agg [.row lx,.row ly,x,y,.int .i64 id]] [.blk 205 (Ho c (U4 l) r1)] [.oi 0] [.blk 205 (Ho ⟨c.now,ws,c.ev⟩ (U4 (put l ⟨Crv.norm (Crv.mk px py d),id⟩)) (mH (put l ⟨Crv.norm (Crv.mk px py d),id⟩) c.now))]:=by
 have cp:=uW (l:=l) (id:=id) hx hy hd hk (by omega);rw[if_pos he,he]at cp;have cw:=BD (l:=l) (r1:=r1) hc hl hn h;refine Fz func410 rfl ?_;obtain⟨b,l',rfl,rfl,_⟩:=hd;exact Ul [] [0] [.k cp,.c [0] cw] rfl
theorem Qfm{lx ly:Uw}{px py:Uq}{x y:LV}{d id:Int}{c:Cr}{l l':List Pt}{r1:Uw}{ws:List Wt}(hx:IsInts lx px)(hy:IsInts ly py)(hd:Gi x y d)(hk:Cs 4294967294 1073741824 (Crv.mk px py d))(hll:l.length<=6)(h:has l id=true)(hc:CrOk c)
 (hl':l'=l.set (Tc l id) (Pt.mk (Crv.norm (Crv.mk px py d)) id)) (hs:∀p∈l',Sc p.c) (hw:Tp c.l c.now (Ga (MN l' c.now))=some ws) :
 U8 prog 411 [.one (.ow 0 0),.agg [.row lx,.row ly,x,y,.int .i64 id]] [.blk 205 (Ho c (U4 l) r1)] [.oi 0] [.blk 205 (Ho ⟨c.now,ws,c.ev⟩ (U4 l') (mH l' c.now))]:=by
 have ct1:=UN (l:=l) hx hy hd hk (by omega) h;rw[<-hl']at ct1;have cw:=BD (c:=c) (l:=l) (l':=l') (r1:=r1) hc hs (by rw[hl',Xf];omega) hw;obtain⟨b,r,rfl,rfl,_⟩:=hd;refine Fz func411 rfl ?_;exact Ul [] [0] [.k ct1,.c [0] cw] rfl
theorem Qfl{id:Int}{c:Cr}{l l':List Pt}{r1:Uw}{ws:List Wt}(hll:l.length<=6)(h:has l id=true)(hc:CrOk c)
 (hl':l'=l.take (Tc l id)++l.drop (Tc l id+1)) (hs:∀p∈l',Sc p.c) (hw:Tp c.l c.now (Ga (MN l' c.now))=some ws) :
 U8 prog 409 [.one (.ow 0 0),.oi id] [.blk 205 (Ho c (U4 l) r1)] [.oi 0] [.blk 205 (Ho ⟨c.now,ws,c.ev⟩ (U4 l') (mH l' c.now))]:=by
 have ct1:=UP (l:=l) (id:=id) (by omega) h;rw[<-hl']at ct1;have cw:=BD (c:=c) (l:=l) (l':=l') (r1:=r1) hc hs (by rw[hl',Qu,Qr,Q9];omega) hw;refine Fz func409 rfl ?_;exact Ul [] [0] [.k ct1,.c [0] cw] rfl
theorem Qb3{c:Cr}{r0:Uw}{r1:Uw}:U8 prog 55 [.one (.ow 0 0)] [.blk 205 (Ho c r0 r1)] [.one (.ow 1 0)] [.blk 205 (Ho c r0 r1),.blk 205 (Ho c r0 r1)]:=by
 refine Fz func55 rfl ?_;exact Ul [] [0,1] [] rfl
theorem Qn8{lx ly:Uw}{px py:Uq}{x y:LV}{d id:Int}{c:Cr}{l l':List Pt}{r1:Uw}{ws:List Wt}(hx:IsInts lx px)(hy:IsInts ly py)(hd:Gi x y d)(hk:Cs 4294967294 1073741824 (Crv.mk px py d))(hll:l.length<=900)(h:has l id=true)(hc:CrOk c)
 (hl':l'=l.set (Tc l id) (Pt.mk (Crv.norm (Crv.mk px py d)) id)) (hs:∀p∈l',Sc p.c) (hw:Tp c.l c.now (Ga (ZM l' c.now))=some ws) :
 U8 prog 370 [.one (.ow 0 0),.agg [.row lx,.row ly,x,y,.int .i64 id]] [.blk 196 (Ho c (U4 l) r1)] [.oi 0] [.blk 196 (Ho ⟨c.now,ws,c.ev⟩ (U4 l') (mT l' c.now))]:=by
 have ct1:=UN (l:=l) hx hy hd hk (by omega) h;rw[<-hl']at ct1;have cw:=jF (c:=c) (l:=l) (l':=l') (r1:=r1) hc hs (by rw[hl',Xf];omega) hw;obtain⟨b,r,rfl,rfl,_⟩:=hd;refine Fz func370 rfl ?_;exact Ul [] [0] [.k ct1,.c [0] cw] rfl
theorem Qn6{id:Int}{c:Cr}{l l':List Pt}{r1:Uw}{ws:List Wt}(hll:l.length<=900)(h:has l id=true)(hc:CrOk c)
 (hl':l'=l.take (Tc l id)++l.drop (Tc l id+1)) (hs:∀p∈l',Sc p.c) (hw:Tp c.l c.now (Ga (ZM l' c.now))=some ws) :
 U8 prog 367 [.one (.ow 0 0),.oi id] [.blk 196 (Ho c (U4 l) r1)] [.oi 0] [.blk 196 (Ho ⟨c.now,ws,c.ev⟩ (U4 l') (mT l' c.now))]:=by
 have ct1:=UP (l:=l) (id:=id) (by omega) h;rw[<-hl']at ct1;have cw:=jF (c:=c) (l:=l) (l':=l') (r1:=r1) hc hs (by rw[hl',Qu,Qr,Q9];omega) hw;refine Fz func367 rfl ?_;exact Ul [] [0] [.k ct1,.c [0] cw] rfl
theorem Qyw{T:Nat}{t:Rat}{Bc:Tm->List Ct}{Br:Tm->Uw}{r0:Uw}(ht:Qs 1640000 t)(hB:BuildOk Bc)
 (hb:∀a c r1,Va a->CrOk c->U8 prog 124 [.one (.ow 0 0),.agg (ta a)] [.blk T (Ho c r0 r1)] [.one (.row (Ft (Bc a)))] [.blk T (Ho c r0 (Br a))])
 {K:Nat} {c c':Cr} {r1 r1':Uw} {n:Int} (hc:CrOk c) (hev:0<=c.ev/\c.ev+K<=1000000000000000000) (h:Fq c.now t<=0) (hg:HC Bc Br t K c r1 0=some (c',r1',n)) :
 U8 prog 372 [.one (.ow 0 0),.agg (rl t),.one (.ofn 124 [.ow 0 0] [])] [.blk T (Ho c r0 r1)] [.oi n,.oi 0] [.blk T (Ho c' r0 r1')]:=by
 have qt:Qb t:=ht.mono (by decide);have c1:=Dk hc.n.tb qt;refine Fz func372 rfl ?_;refine Uh [.c [0] (QU hc.n),.k c1,.f (by simpa using h)] rfl ?_;refine Um (S:=Nat×Cr×Uw×Int) 2 (λL1 s=>(8,.v (.oi s.2.2.2))::L1) (λs=>[.blk T (Ho s.2.1 r0 s.2.2.1),.blk 43 (rl t)]) (λs=>s.1) (λs=>CrOk s.2.1/\(0<=s.2.1.ev/\s.2.1.ev+s.1<=1000000000000000000)/\(0<=s.2.2.2/\s.2.2.2+s.1<=1000000000000000000)/\HC Bc Br t s.1 s.2.1 s.2.2.1 s.2.2.2=some (c',r1',n)) (K,c,r1,0) ⟨hc,hev,⟨Int.le_refl 0,by dsimp only;omega⟩,hg⟩ rfl rfl λ⟨k,x,r,m⟩ ⟨j1,j2,j3,j4⟩=>?_
 dsimp only at j1 j2 j3 j4 ⊢;cases k with
 |zero=>cases j4
 |
  succ k =>
  simp only[HC]at j4;obtain⟨ws,w1,j4⟩:=Qd.1 j4;obtain⟨o,o1,j4⟩:=Qd.1 j4;have cn:=MC (T:=T) (r0:=r0) (r1:=r) j1 w1 o1;have ca:=KZ (U6 t.num) (U6 (t.den:Int)) (Qa ht.1 (by decide)) (Qa ht.2 (by decide)) (by rw[Sx];exact ht.mono (by decide));rw[Sx]at ca;cases o with
  |
   none =>
   injection j4 with j4;injection j4 with e1 j4;injection j4 with e2 e3;subst e1;subst e2;subst e3;exact Ul [] [0] [.c [0] cn,.g 25 true rfl,.t rfl,.k ca] rfl
  |
   some a =>
   have ha:=EW j1 w1 o1;dsimp only at j4;have cc:=Dk ha.tb qt;by_cases h0:0<Fq a t
   ·rw[if_pos h0]at j4;injection j4 with j4;injection j4 with e1 j4;injection j4 with e2 e3;subst e1;subst e2;subst e3;exact Ul [] [0] [.c [0] cn,.g 25 false rfl,.k cc,.t (by simpa using h0),.k ca] rfl
   ·rw[if_neg h0]at j4;obtain⟨w2,l1,j4⟩:=Qd.1 j4;have j1':=Et j1 w1;have cl:=Pf (b:=a) (l:=[]) ha.tb (λt ht=>by cases ht) (by decide) rfl;have cb:=hb a { x with l:=ws } r ha j1';have cy:=UT (T:=T) (r0:=r0) (r1:=Br a) j1' ha (hB.p a ha) (hB.n a ha) l1;have hf:decide (0<Fq a t)=false:=by simpa using h0
    refine Ui [.c [0] cn,.g 25 false rfl,.k cc,.f hf,.k cl,.c [0] cb,.c [0] cy] rfl ?_;exact rd (k,⟨a,w2,x.ev+1⟩,Br a,m+1) (by dsimp only;omega) ⟨lay_ok _ j1' ha (hB.p a ha) (hB.n a ha) l1,by dsimp only;omega,by dsimp only;omega,j4⟩ rfl
def Qyk(l:List Pt)(a:Tm):Cr:=⟨a,(Ga (HB l a)).map fresh,0⟩
theorem Quj{t:Rat}{l:List Pt}{K:Nat}{c c':Cr}{r1 r1':Uw}{n:Int}(ht:Qs 1640000 t)(hl:∀p∈l,Sc p.c)(hn:l.length≤10)(hc:CrOk c)(hev:0≤c.ev/\c.ev+K≤1000000000000000000)(h:Fq c.now t≤0)(hg:HC (HB l) (brH l) t K c r1 0=some (c',r1',n)) :
 U8 prog 398 [.one (.ow 0 0),.agg (rl t)] [.blk 201 (Ho c (U4 l) r1)] [.oi n,.oi 0] [.blk 201 (Ho c' (U4 l) r1')]:=by
 have cg:=Qyw (T:=201) (r0:=U4 l) ht (mZ hl hn) (λa c r1 ha _=>OV (c:=c) (r1:=r1) hl hn ha) hc hev h hg;refine Fz func398 rfl ?_;exact Ul [] [0] [.k (Nw (ht.mono (by decide))),.c [0] cg] rfl
theorem Quk{c:Cr}{l s:List Pt}(hs:s.length<=1000000):U8 prog 89 [.one (.ow 0 0)] [.blk 201 (Ho c (U4 l) (U4 s))] [.one (ids (s.map (·.id)))] [.blk 201 (Ho c (U4 l) (U4 s))]:=by
 have hcl:=G8 s;refine Fz func89 rfl ?_;refine Uh [.o 3 3 1] rfl ?_;refine Um (S:=Nat) 2 (λL1 i=>(11,.v (.oi i))::(3,.v (.one (.orow 1 1 none)))::L1) (λi=>[.blk 201 (Ho c (U4 l) (U4 s)),.row false 3 1 (((s.take i).map (·.id)).map λ(z:Int)=>[LV.int .i64 z])]) (λi=>s.length-i) (λi=>i<=s.length) 0 (Qh _) rfl rfl λi hi=>?_
 by_cases hlt:i<s.length
 ·obtain⟨p,hp⟩:=gxE (l:=s) (i:=i) hlt;have hg:(((s.take (i+1)).map (·.id)).map λ(z:Int)=>[LV.int .i64 z])=(((s.take i).map (·.id)).map λ(z:Int)=>[LV.int .i64 z])++[[.int .i64 p.id]]:=by
   rw[Z3,hp];simp
  refine Ui [.t (by simp[hcl];omega),.x (S8 hp),.s (sz:=1) (l:=[[.int .i64 p.id]]) (λc hc=>by rw[Ql.1 hc];rfl)] rfl ?_;exact rd (i+1) (by omega) hlt (by rw[hg];rfl)
 ·obtain rfl:i=s.length:=by omega
  rw[Q7];exact Ul [1] [0] [.f (by simp[hcl])] rfl
abbrev YM(k:Nat)(np nd:Int)(M:List Pt)(q:Rat)(s t h p d:Cr):Ux:=[.blk 88 (nO k q),tB np nd M,bS s M q,bT t M q,bH h M q,bP p M q,bD d M q]
abbrev Q1f(k:Nat):Uv:=[.oif 82 (k+2) 0,.oif 83 (k+3) 0,.oif 84 (k+4) 0,.oif 85 (k+5) 0,.oif 86 (k+6) 0]
theorem uG{np nd:Int}{Mt M:List Pt}{q:Rat}{s t h p d:Cr}:U8 prog 43 [.one (.ow 0 0)] [.blk 88 (nO 0 q),tB np nd Mt,bS s M q,bT t M q,bH h M q,bP p M q,bD d M q] [.agg (Q1f 0)] [.blk 88 (nO 0 q),tB np nd Mt,bS s M q,bT t M q,bH h M q,bP p M q,bD d M q]:=by
 refine Fz func43 rfl ?_;exact Ul [] [0,1,2,3,4,5,6] [] rfl
abbrev xH(k i:Nat)(a b:OB):OB:=match Nat.blt k i with
 |true=>b
 |false=>a
theorem Qfv{np nd id:Int}{M M':List Pt}{q:Rat}{s t h p d s' t' h' p' d':Cr}{lx ly l3:Uw}{bn:Bool}{e1 e2 e3 e4 e5:Int}
 (ht:U8 prog 76 [.one (.ow 0 0),.agg [.row lx,.row ly,.bool bn,.row l3,.int .i64 id]] [tB np nd M] [.oi 0] [tB np nd M'])
 (h1:U8 prog 369 [.one (.ow 0 0),.agg [.row lx,.row ly,.bool bn,.row l3,.int .i64 id]] [bS s M q] [.oi e1] [bS s' M' q])
 (h2:U8 prog 395 [.one (.ow 0 0),.agg [.row lx,.row ly,.bool bn,.row l3,.int .i64 id]] [bT t M q] [.oi e2] [bT t' M' q])
 (h3:U8 prog 400 [.one (.ow 0 0),.agg [.row lx,.row ly,.bool bn,.row l3,.int .i64 id]] [bH h M q] [.oi e3] [bH h' M' q])
 (h4:U8 prog 405 [.one (.ow 0 0),.agg [.row lx,.row ly,.bool bn,.row l3,.int .i64 id]] [bP p M q] [.oi e4] [bP p' M' q])
 (h5:U8 prog 410 [.one (.ow 0 0),.agg [.row lx,.row ly,.bool bn,.row l3,.int .i64 id]] [bD d M q] [.oi e5] [bD d' M' q]) :
 U8 prog 27 [.one (.ow 0 0),.oi id,.agg [.row lx,.row ly,.bool bn,.row l3]] (YM 0 np nd M q s t h p d) [.oi 0] (YM 0 np nd M' q s' t' h' p' d'):=by
 refine Fz func27 rfl ?_;refine Uh [.c [1] ht,.f rfl,.c Uz uG] rfl ?_;refine Um (S:=Nat) 9 (λL1 i=>(25,.v (.oi i))::L1) (λi=>[.blk 88 (nO 0 q),tB np nd M',xH 0 i (bS s M q) (bS s' M' q),xH 1 i (bT t M q) (bT t' M' q),xH 2 i (bH h M q) (bH h' M' q),xH 3 i (bP p M q) (bP p' M' q),xH 4 i (bD d M q) (bD d' M' q),.blk 39 [.row lx,.row ly,.bool bn,.row l3],.blk 41 [.row lx,.row ly,.bool bn,.row l3,.int .i64 id]]) (λi=>5-i) (λi=>i<=5) 0 (by decide) rfl rfl λi hi=>?_
 rcases(show i=0\/i=1\/i=2\/i=3\/i=4\/i=5 by omega)with rfl|rfl|rfl|rfl|rfl|rfl
 ·exact go tt [.t rfl,.i 0,.c [2] h1] rfl (by simp[U5]) (rd 1 (by omega) (by omega) rfl)
 ·exact go tt [.t rfl,.i 1,.c [3] h2] rfl (by simp[U5]) (rd 2 (by omega) (by omega) rfl)
 ·exact go tt [.t rfl,.i 2,.c [4] h3] rfl (by simp[U5]) (rd 3 (by omega) (by omega) rfl)
 ·exact go tt [.t rfl,.i 3,.c [5] h4] rfl (by simp[U5]) (rd 4 (by omega) (by omega) rfl)
 ·exact go tt [.t rfl,.i 4,.c [6] h5] rfl (by simp[U5]) (rd 5 (by omega) (by omega) rfl)
 ·exact Ul [] [0,1,2,3,4,5,6] [.f rfl] rfl
theorem Qb9{np nd id:Int}{M:List Pt}{q:Rat}{s t h p d:Cr}{lx ly l3:Uw}{bn:Bool}{e:Int}(he:e≠0)
 (ht:U8 prog 76 [.one (.ow 0 0),.agg [.row lx,.row ly,.bool bn,.row l3,.int .i64 id]] [tB np nd M] [.oi e] [tB np nd M]) :
 U8 prog 27 [.one (.ow 0 0),.oi id,.agg [.row lx,.row ly,.bool bn,.row l3]] (YM 0 np nd M q s t h p d) [.oi e] (YM 0 np nd M q s t h p d):=by
 refine Fz func27 rfl ?_;exact Ul [] [0,1,2,3,4,5,6] [.c [1] ht,.t (by simpa using he)] rfl
theorem Qgd{np nd id:Int}{M M':List Pt}{q:Rat}{s t h p d s' t' h' p' d':Cr}{lx ly l3:Uw}{bn:Bool}{e1 e2 e3 e4 e5:Int}
 (ht:U8 prog 86 [.one (.ow 0 0),.agg [.row lx,.row ly,.bool bn,.row l3,.int .i64 id]] [tB np nd M] [.oi 0] [tB np nd M'])
 (h1:U8 prog 370 [.one (.ow 0 0),.agg [.row lx,.row ly,.bool bn,.row l3,.int .i64 id]] [bS s M q] [.oi e1] [bS s' M' q])
 (h2:U8 prog 396 [.one (.ow 0 0),.agg [.row lx,.row ly,.bool bn,.row l3,.int .i64 id]] [bT t M q] [.oi e2] [bT t' M' q])
 (h3:U8 prog 401 [.one (.ow 0 0),.agg [.row lx,.row ly,.bool bn,.row l3,.int .i64 id]] [bH h M q] [.oi e3] [bH h' M' q])
 (h4:U8 prog 406 [.one (.ow 0 0),.agg [.row lx,.row ly,.bool bn,.row l3,.int .i64 id]] [bP p M q] [.oi e4] [bP p' M' q])
 (h5:U8 prog 411 [.one (.ow 0 0),.agg [.row lx,.row ly,.bool bn,.row l3,.int .i64 id]] [bD d M q] [.oi e5] [bD d' M' q]) :
 U8 prog 36 [.one (.ow 0 0),.oi id,.agg [.row lx,.row ly,.bool bn,.row l3]] (YM 0 np nd M q s t h p d) [.oi 0] (YM 0 np nd M' q s' t' h' p' d'):=by
 refine Fz func36 rfl ?_;refine Uh [.c [1] ht,.f rfl,.c Uz uG] rfl ?_;refine Um (S:=Nat) 9 (λL1 i=>(25,.v (.oi i))::L1) (λi=>[.blk 88 (nO 0 q),tB np nd M',xH 0 i (bS s M q) (bS s' M' q),xH 1 i (bT t M q) (bT t' M' q),xH 2 i (bH h M q) (bH h' M' q),xH 3 i (bP p M q) (bP p' M' q),xH 4 i (bD d M q) (bD d' M' q),.blk 39 [.row lx,.row ly,.bool bn,.row l3],.blk 41 [.row lx,.row ly,.bool bn,.row l3,.int .i64 id]]) (λi=>5-i) (λi=>i<=5) 0 (by decide) rfl rfl λi hi=>?_
 rcases(show i=0\/i=1\/i=2\/i=3\/i=4\/i=5 by omega)with rfl|rfl|rfl|rfl|rfl|rfl
 ·exact go tt [.t rfl,.i 0,.c [2] h1] rfl (by simp[U5]) (rd 1 (by omega) (by omega) rfl)
 ·exact go tt [.t rfl,.i 1,.c [3] h2] rfl (by simp[U5]) (rd 2 (by omega) (by omega) rfl)
 ·exact go tt [.t rfl,.i 2,.c [4] h3] rfl (by simp[U5]) (rd 3 (by omega) (by omega) rfl)
 ·exact go tt [.t rfl,.i 3,.c [5] h4] rfl (by simp[U5]) (rd 4 (by omega) (by omega) rfl)
 ·exact go tt [.t rfl,.i 4,.c [6] h5] rfl (by simp[U5]) (rd 5 (by omega) (by omega) rfl)
 ·exact Ul [] [0,1,2,3,4,5,6] [.f rfl] rfl
theorem Qcd{np nd id:Int}{M:List Pt}{q:Rat}{s t h p d:Cr}{lx ly l3:Uw}{bn:Bool}{e:Int}(he:e≠0)
 (ht:U8 prog 86 [.one (.ow 0 0),.agg [.row lx,.row ly,.bool bn,.row l3,.int .i64 id]] [tB np nd M] [.oi e] [tB np nd M]) :
 U8 prog 36 [.one (.ow 0 0),.oi id,.agg [.row lx,.row ly,.bool bn,.row l3]] (YM 0 np nd M q s t h p d) [.oi e] (YM 0 np nd M q s t h p d):=by
 refine Fz func36 rfl ?_;exact Ul [] [0,1,2,3,4,5,6] [.c [1] ht,.t (by simpa using he)] rfl
theorem Qfn{np nd id:Int}{M M':List Pt}{q:Rat}{s t h p d s' t' h' p' d':Cr}{e1 e2 e3 e4 e5:Int}
 (ht:U8 prog 87 [.one (.ow 0 0),.oi id] [tB np nd M] [.oi 0] [tB np nd M'])
 (h1:U8 prog 367 [.one (.ow 0 0),.oi id] [bS s M q] [.oi e1] [bS s' M' q])
 (h2:U8 prog 394 [.one (.ow 0 0),.oi id] [bT t M q] [.oi e2] [bT t' M' q])
 (h3:U8 prog 399 [.one (.ow 0 0),.oi id] [bH h M q] [.oi e3] [bH h' M' q])
 (h4:U8 prog 404 [.one (.ow 0 0),.oi id] [bP p M q] [.oi e4] [bP p' M' q])
 (h5:U8 prog 409 [.one (.ow 0 0),.oi id] [bD d M q] [.oi e5] [bD d' M' q]) :
 U8 prog 37 [.one (.ow 0 0),.oi id] (YM 0 np nd M q s t h p d) [.oi 0] (YM 0 np nd M' q s' t' h' p' d'):=by
 refine Fz func37 rfl ?_;refine Uh [.c [1] ht,.f rfl,.c Uz uG] rfl ?_;refine Um (S:=Nat) 7 (λL1 i=>(19,.v (.oi i))::L1) (λi=>[.blk 88 (nO 0 q),tB np nd M',xH 0 i (bS s M q) (bS s' M' q),xH 1 i (bT t M q) (bT t' M' q),xH 2 i (bH h M q) (bH h' M' q),xH 3 i (bP p M q) (bP p' M' q),xH 4 i (bD d M q) (bD d' M' q)]) (λi=>5-i) (λi=>i<=5) 0 (by decide) rfl rfl λi hi=>?_
 rcases(show i=0\/i=1\/i=2\/i=3\/i=4\/i=5 by omega)with rfl|rfl|rfl|rfl|rfl|rfl
 ·exact go tt [.t rfl,.i 0,.c [2] h1] rfl (by simp[U5]) (rd 1 (by omega) (by omega) rfl)
 ·exact go tt [.t rfl,.i 1,.c [3] h2] rfl (by simp[U5]) (rd 2 (by omega) (by omega) rfl)
 ·exact go tt [.t rfl,.i 2,.c [4] h3] rfl (by simp[U5]) (rd 3 (by omega) (by omega) rfl)
 ·exact go tt [.t rfl,.i 3,.c [5] h4] rfl (by simp[U5]) (rd 4 (by omega) (by omega) rfl)
 ·exact go tt [.t rfl,.i 4,.c [6] h5] rfl (by simp[U5]) (rd 5 (by omega) (by omega) rfl)
 ·exact Ul [] [0,1,2,3,4,5,6] [.f rfl] rfl
theorem Qb4{np nd id:Int}{M:List Pt}{q:Rat}{s t h p d:Cr}{e:Int}(he:e≠0)
 (ht:U8 prog 87 [.one (.ow 0 0),.oi id] [tB np nd M] [.oi e] [tB np nd M]) :
 U8 prog 37 [.one (.ow 0 0),.oi id] (YM 0 np nd M q s t h p d) [.oi e] (YM 0 np nd M q s t h p d):=by
 refine Fz func37 rfl ?_;exact Ul [] [0,1,2,3,4,5,6] [.c [1] ht,.t (by simpa using he)] rfl
theorem Qb2{np nd:Int}{M:List Pt}{q r:Rat}{s t h p d s' t' h' p' d':Cr}{x0 x1 x2 x3:LV}{a b n1 n2 n3 n4 n5:Int}(ha:Gi x0 x1 a)(hb:Gi x2 x3 b)(sa:Fg a<=4294967295)(sb:Fg b<=4294967295)(hr:Gn a b=r)(hs:Qs 128 r)(hq:Qs 128 q)(hqr:q<=r)
 (h1:U8 prog 365 [.one (.ow 0 0),.agg (rl r)] [bS s M q] [.oi n1,.oi 0] [bS s' M r])
 (h2:U8 prog 393 [.one (.ow 0 0),.agg (rl r)] [bT t M q] [.oi n2,.oi 0] [bT t' M r])
 (h3:U8 prog 398 [.one (.ow 0 0),.agg (rl r)] [bH h M q] [.oi n3,.oi 0] [bH h' M r])
 (h4:U8 prog 403 [.one (.ow 0 0),.agg (rl r)] [bP p M q] [.oi n4,.oi 0] [bP p' M r])
 (h5:U8 prog 408 [.one (.ow 0 0),.agg (rl r)] [bD d M q] [.oi n5,.oi 0] [bD d' M r]) :
 U8 prog 21 [.one (.ow 0 0),.agg [x0,x1,x2,x3]] (YM 0 np nd M q s t h p d) [.oi 0] (YM 0 np nd M r s' t' h' p' d'):=by
 have cm:=CS ha hb sa sb;rw[hr]at cm;obtain⟨b1,r1,rfl,rfl,_⟩:=ha;obtain⟨b2,r2,rfl,rfl,_⟩:=hb;have cc:=Dm (a:=r) (b:=q) (hs.mono (by decide)) (hq.mono (by decide));have l1:=ZD.2 hs.1;have l2:(Gg r.den).length<=4:=by simpa using ZD.2 hs.2
 have hc:¬Hk r q<0:=λh=>absurd (Nx.1 h) (W0.2 hqr)
 refine Fz func21 rfl ?_;refine Uh [.k cm,.f (by simp[wR];omega),.f (by simp[wR];omega),.k cc,.f (by simpa using hc),.c Uz uG] rfl ?_;refine Um (S:=Nat) 8 (λL1 i=>(32,.v (.oi i))::L1) (λi=>[.blk 88 (nO 0 q),tB np nd M,xH 0 i (bS s M q) (bS s' M r),xH 1 i (bT t M q) (bT t' M r),xH 2 i (bH h M q) (bH h' M r),xH 3 i (bP p M q) (bP p' M r),xH 4 i (bD d M q) (bD d' M r),.blk 43 (rl r)]) (λi=>5-i) (λi=>i<=5) 0 (by decide) rfl rfl λi hi=>?_
 rcases(show i=0\/i=1\/i=2\/i=3\/i=4\/i=5 by omega)with rfl|rfl|rfl|rfl|rfl|rfl
 ·exact go tt [.t rfl,.i 0,.c [2] h1] rfl (by simp[U5]) (rd 1 (by omega) (by omega) rfl)
 ·exact go tt [.t rfl,.i 1,.c [3] h2] rfl (by simp[U5]) (rd 2 (by omega) (by omega) rfl)
 ·exact go tt [.t rfl,.i 2,.c [4] h3] rfl (by simp[U5]) (rd 3 (by omega) (by omega) rfl)
 ·exact go tt [.t rfl,.i 3,.c [5] h4] rfl (by simp[U5]) (rd 4 (by omega) (by omega) rfl)
 ·exact go tt [.t rfl,.i 4,.c [6] h5] rfl (by simp[U5]) (rd 5 (by omega) (by omega) rfl)
 ·exact Ul [] [0,1,2,3,4,5,6] [.f rfl] rfl
theorem jK{np nd:Int}{M:List Pt}{q r:Rat}{s t h p d:Cr}{x0 x1 x2 x3:LV}{a b:Int}(ha:Gi x0 x1 a)(hb:Gi x2 x3 b)(sa:Fg a<=4294967295)(sb:Fg b<=4294967295)(hr:Gn a b=r)(hs:¬Qs 128 r) :
 U8 prog 21 [.one (.ow 0 0),.agg [x0,x1,x2,x3]] (YM 0 np nd M q s t h p d) [.oi 1] (YM 0 np nd M q s t h p d):=by
 have cm:=CS ha hb sa sb;rw[hr]at cm;obtain⟨b1,r1,rfl,rfl,_⟩:=ha;obtain⟨b2,r2,rfl,rfl,_⟩:=hb;refine Fz func21 rfl ?_;by_cases h1:Fg r.num<=128
 ·have h2:¬Fg (r.den:Int)<=128:=λh=>hs ⟨h1,h⟩
  have l1:=ZD.2 h1;have l2:=mt ZD.1 h2;exact Ul [] [0,1,2,3,4,5,6] [.k cm,.f (by simp[wR];omega),.t (by simp[wR]at l2 ⊢;omega)] rfl
 ·have l1:=mt ZD.1 h1;exact Ul [] [0,1,2,3,4,5,6] [.k cm,.t (by simp[wR];omega),.t rfl] rfl
theorem IR{np nd:Int}{M:List Pt}{q r:Rat}{s t h p d:Cr}{x0 x1 x2 x3:LV}{a b:Int}(ha:Gi x0 x1 a)(hb:Gi x2 x3 b)(sa:Fg a<=4294967295)(sb:Fg b<=4294967295)(hr:Gn a b=r)(hs:Qs 128 r)(hq:Qs 128 q)(hqr:r<q) :
 U8 prog 21 [.one (.ow 0 0),.agg [x0,x1,x2,x3]] (YM 0 np nd M q s t h p d) [.oi 8] (YM 0 np nd M q s t h p d):=by
 have cm:=CS ha hb sa sb;rw[hr]at cm;obtain⟨b1,r1,rfl,rfl,_⟩:=ha;obtain⟨b2,r2,rfl,rfl,_⟩:=hb;have cc:=Dm (a:=r) (b:=q) (hs.mono (by decide)) (hq.mono (by decide));have l1:=ZD.2 hs.1;have l2:(Gg r.den).length<=4:=by simpa using ZD.2 hs.2
 have hc:Hk r q<0:=Nx.2 hqr;refine Fz func21 rfl ?_;exact Ul [] [0,1,2,3,4,5,6] [.k cm,.f (by simp[wR];omega),.f (by simp[wR];omega),.k cc,.t (by simpa using hc)] rfl
theorem BE{c:Cr}{l l':List Pt}{r1:Uw}{ws:List Wt}(hc:CrOk c)(hl:∀p∈l',Sc p.c)(hn:l'.length≤10)(h:Tp c.l c.now (Ga (HB l' c.now))=some ws) :
 U8 prog 402 [.one (.ow 0 0),.agg [pts l'],.oi 0] [.blk 201 (Ho c (U4 l) r1)] [.oi 0] [.blk 201 (Ho ⟨c.now,ws,c.ev⟩ (U4 l') (brH l' c.now))]:=by
 have hB:=mZ hl hn;have cn:=QU (T:=201) (c:=c) (r0:=U4 l') (r1:=r1) hc.n;have cb:=OV (c:=c) (r1:=r1) hl hn hc.n;have cg:=YK (T:=201) (r0:=U4 l') (r1:=brH l' c.now) hc hc.n (I9 hc.n) (J5 0) (hB.p _ hc.n) (hB.n _ hc.n) h;refine Fz func402 rfl ?_;exact Ul [] [0] [.f rfl,.c [0] cn,.c [0] cb,.c [0] cg] rfl
theorem Qnv{lx ly:Uw}{px py:Uq}{x y:LV}{d id:Int}{c:Cr}{l:List Pt}{r1:Uw}{ws:List Wt}(hx:IsInts lx px)(hy:IsInts ly py)(hd:Gi x y d)(hk:Cs 4294967294 1073741824 (Crv.mk px py d))(hll:l.length<=900)
 (he:WL l ⟨Crv.norm (Crv.mk px py d),id⟩=0) (hc:CrOk c) (hl:∀p∈put l ⟨Crv.norm (Crv.mk px py d),id⟩,Sc p.c) (hn:(put l ⟨Crv.norm (Crv.mk px py d),id⟩).length≤10) (h:Tp c.l c.now (Ga (HB (put l ⟨Crv.norm (Crv.mk px py d),id⟩) c.now))=some ws) :
 U8 prog 400 [.one (.ow 0 0),.agg [.row lx,.row ly,x,y,.int .i64 id]] [.blk 201 (Ho c (U4 l) r1)] [.oi 0] [.blk 201 (Ho ⟨c.now,ws,c.ev⟩ (U4 (put l ⟨Crv.norm (Crv.mk px py d),id⟩)) (brH (put l ⟨Crv.norm (Crv.mk px py d),id⟩) c.now))]:=by
 have cp:=uW (l:=l) (id:=id) hx hy hd hk (by omega);rw[if_pos he,he]at cp;have cw:=BE (l:=l) (r1:=r1) hc hl hn h;refine Fz func400 rfl ?_;obtain⟨b,l',rfl,rfl,_⟩:=hd;exact Ul [] [0] [.k cp,.c [0] cw] rfl
theorem Qft{lx ly:Uw}{px py:Uq}{x y:LV}{d id:Int}{c:Cr}{l l':List Pt}{r1:Uw}{ws:List Wt}(hx:IsInts lx px)(hy:IsInts ly py)(hd:Gi x y d)(hk:Cs 4294967294 1073741824 (Crv.mk px py d))(hll:l.length<=10)(h:has l id=true)(hc:CrOk c)
 (hl':l'=l.set (Tc l id) (Pt.mk (Crv.norm (Crv.mk px py d)) id)) (hs:∀p∈l',Sc p.c) (hw:Tp c.l c.now (Ga (HB l' c.now))=some ws) :
 U8 prog 401 [.one (.ow 0 0),.agg [.row lx,.row ly,x,y,.int .i64 id]] [.blk 201 (Ho c (U4 l) r1)] [.oi 0] [.blk 201 (Ho ⟨c.now,ws,c.ev⟩ (U4 l') (brH l' c.now))]:=by
 have ct1:=UN (l:=l) hx hy hd hk (by omega) h;rw[<-hl']at ct1;have cw:=BE (c:=c) (l:=l) (l':=l') (r1:=r1) hc hs (by rw[hl',Xf];omega) hw;obtain⟨b,r,rfl,rfl,_⟩:=hd;refine Fz func401 rfl ?_;exact Ul [] [0] [.k ct1,.c [0] cw] rfl
theorem Qfs{id:Int}{c:Cr}{l l':List Pt}{r1:Uw}{ws:List Wt}(hll:l.length<=10)(h:has l id=true)(hc:CrOk c)
 (hl':l'=l.take (Tc l id)++l.drop (Tc l id+1)) (hs:∀p∈l',Sc p.c) (hw:Tp c.l c.now (Ga (HB l' c.now))=some ws) :
 U8 prog 399 [.one (.ow 0 0),.oi id] [.blk 201 (Ho c (U4 l) r1)] [.oi 0] [.blk 201 (Ho ⟨c.now,ws,c.ev⟩ (U4 l') (brH l' c.now))]:=by
 have ct1:=UP (l:=l) (id:=id) (by omega) h;rw[<-hl']at ct1;have cw:=BE (c:=c) (l:=l) (l':=l') (r1:=r1) hc hs (by rw[hl',Qu,Qr,Q9];omega) hw;refine Fz func399 rfl ?_;exact Ul [] [0] [.k ct1,.c [0] cw] rfl
theorem Qb8{c:Cr}{r0:Uw}{r1:Uw}:U8 prog 53 [.one (.ow 0 0)] [.blk 201 (Ho c r0 r1)] [.one (.ow 1 0)] [.blk 201 (Ho c r0 r1),.blk 201 (Ho c r0 r1)]:=by
 refine Fz func53 rfl ?_;exact Ul [] [0,1] [] rfl
theorem CQ{c:Cr}{l l':List Pt}{r1:Uw}{ws:List Wt}(hc:CrOk c)(hl:∀p∈l',Sc p.c)(hn:l'.length≤10)(h:Tp c.l c.now (Ga (IH l' c.now))=some ws) :
 U8 prog 407 [.one (.ow 0 0),.agg [pts l'],.oi 0] [.blk 203 (Ho c (U4 l) r1)] [.oi 0] [.blk 203 (Ho ⟨c.now,ws,c.ev⟩ (U4 l') (brP l' c.now))]:=by
 have hB:=Qfb hl hn;have cn:=QU (T:=203) (c:=c) (r0:=U4 l') (r1:=r1) hc.n;have cb:=OK (c:=c) (r1:=r1) hl hn hc.n;have cg:=YK (T:=203) (r0:=U4 l') (r1:=brP l' c.now) hc hc.n (I9 hc.n) (J5 0) (hB.p _ hc.n) (hB.n _ hc.n) h;refine Fz func407 rfl ?_;exact Ul [] [0] [.f rfl,.c [0] cn,.c [0] cb,.c [0] cg] rfl
theorem Qn3{lx ly:Uw}{px py:Uq}{x y:LV}{d id:Int}{c:Cr}{l:List Pt}{r1:Uw}{ws:List Wt}(hx:IsInts lx px)(hy:IsInts ly py)(hd:Gi x y d)(hk:Cs 4294967294 1073741824 (Crv.mk px py d))(hll:l.length<=900)
 (he:WL l ⟨Crv.norm (Crv.mk px py d),id⟩=0) (hc:CrOk c) (hl:∀p∈put l ⟨Crv.norm (Crv.mk px py d),id⟩,Sc p.c) (hn:(put l ⟨Crv.norm (Crv.mk px py d),id⟩).length≤10) (h:Tp c.l c.now (Ga (IH (put l ⟨Crv.norm (Crv.mk px py d),id⟩) c.now))=some ws) :
 U8 prog 405 [.one (.ow 0 0),.agg [.row lx,.row ly,x,y,.int .i64 id]] [.blk 203 (Ho c (U4 l) r1)] [.oi 0] [.blk 203 (Ho ⟨c.now,ws,c.ev⟩ (U4 (put l ⟨Crv.norm (Crv.mk px py d),id⟩)) (brP (put l ⟨Crv.norm (Crv.mk px py d),id⟩) c.now))]:=by
 have cp:=uW (l:=l) (id:=id) hx hy hd hk (by omega);rw[if_pos he,he]at cp;have cw:=CQ (l:=l) (r1:=r1) hc hl hn h;refine Fz func405 rfl ?_;obtain⟨b,l',rfl,rfl,_⟩:=hd;exact Ul [] [0] [.k cp,.c [0] cw] rfl
theorem Qf7{lx ly:Uw}{px py:Uq}{x y:LV}{d id:Int}{c:Cr}{l l':List Pt}{r1:Uw}{ws:List Wt}(hx:IsInts lx px)(hy:IsInts ly py)(hd:Gi x y d)(hk:Cs 4294967294 1073741824 (Crv.mk px py d))(hll:l.length<=10)(h:has l id=true)(hc:CrOk c)
 (hl':l'=l.set (Tc l id) (Pt.mk (Crv.norm (Crv.mk px py d)) id)) (hs:∀p∈l',Sc p.c) (hw:Tp c.l c.now (Ga (IH l' c.now))=some ws) :
 U8 prog 406 [.one (.ow 0 0),.agg [.row lx,.row ly,x,y,.int .i64 id]] [.blk 203 (Ho c (U4 l) r1)] [.oi 0] [.blk 203 (Ho ⟨c.now,ws,c.ev⟩ (U4 l') (brP l' c.now))]:=by
 have ct1:=UN (l:=l) hx hy hd hk (by omega) h;rw[<-hl']at ct1;have cw:=CQ (c:=c) (l:=l) (l':=l') (r1:=r1) hc hs (by rw[hl',Xf];omega) hw;obtain⟨b,r,rfl,rfl,_⟩:=hd;refine Fz func406 rfl ?_;exact Ul [] [0] [.k ct1,.c [0] cw] rfl
theorem Qf6{id:Int}{c:Cr}{l l':List Pt}{r1:Uw}{ws:List Wt}(hll:l.length<=10)(h:has l id=true)(hc:CrOk c)
 (hl':l'=l.take (Tc l id)++l.drop (Tc l id+1)) (hs:∀p∈l',Sc p.c) (hw:Tp c.l c.now (Ga (IH l' c.now))=some ws) :
 U8 prog 404 [.one (.ow 0 0),.oi id] [.blk 203 (Ho c (U4 l) r1)] [.oi 0] [.blk 203 (Ho ⟨c.now,ws,c.ev⟩ (U4 l') (brP l' c.now))]:=by
 have ct1:=UP (l:=l) (id:=id) (by omega) h;rw[<-hl']at ct1;have cw:=CQ (c:=c) (l:=l) (l':=l') (r1:=r1) hc hs (by rw[hl',Qu,Qr,Q9];omega) hw;refine Fz func404 rfl ?_;exact Ul [] [0] [.k ct1,.c [0] cw] rfl
theorem Qcb{c:Cr}{r0:Uw}{r1:Uw}:U8 prog 54 [.one (.ow 0 0)] [.blk 203 (Ho c r0 r1)] [.one (.ow 1 0)] [.blk 203 (Ho c r0 r1),.blk 203 (Ho c r0 r1)]:=by
 refine Fz func54 rfl ?_;exact Ul [] [0,1] [] rfl
theorem eM{np nd:Int}{M:List Pt}{q:Rat}{s t h p d:Cr}(hq:Qs 128 q):U8 prog 47 [.one (.ow 0 0)] (YM 0 np nd M q s t h p d) [.agg (rl q)] (YM 0 np nd M q s t h p d):=by
 refine Fz func47 rfl ?_;exact Ul [] [0,1,2,3,4,5,6] [.k (Nw (hq.mono (by decide)))] rfl
abbrev en2(np nd:Int)(M:List Pt)(q:Rat)(s t h p d:Cr)(np' nd':Int)(M':List Pt)(q':Rat)(s' t' h' p' d':Cr):Ux:=[.blk 88 (nO 0 q),tB np nd M,bS s M q,bT t M q,bH h M q,bP p M q,bD d M q,.blk 88 (nO 7 q'),tB np' nd' M',bS s' M' q',bT t' M' q',bH h' M' q',bP p' M' q',bD d' M' q']
theorem eN{np nd:Int}{M:List Pt}{q:Rat}{s t h p d:Cr}(hq:Qs 128 q):U8 prog 15 [.one (.ow 0 0)] (YM 0 np nd M q s t h p d) [.one (.ow 7 0)] (en2 np nd M q s t h p d np nd M q s t h p d):=by
 refine Fz func15 rfl ?_;exact Ul [] [0,1,2,3,4,5,6,13,7,8,9,10,11,12] [.lo,.c [1,7] Qhe,.lo,.c Uz (eM hq),.lo,.c [2,8] Qgg,.lo,.c [3,9] Qci,.lo,.c [4,10] Qb8,.lo,.c [5,11] Qcb,.lo,.c [6,12] Qb3] rfl
abbrev anw(S W H P:List Pt)(T:List P3):Uv:=[ids (S.map (·.id)),ids (W.map (·.id)),ids (H.map (·.id)),ids (P.map (·.id)),.row (UY T)]
theorem Qod{np nd:Int}{M S W H P:List Pt}{T:List P3}{r2:Uw}{q:Rat}{s t h p d:Cr}(hS:S.length<=1000000)(hH:H.length<=1000000)(hT:T.length<=1000)(hW:W=[]\/∃w,W=[w])(hP:P=[]\/∃a b,P=[a,b]) :
 U8 prog 39 [.one (.ow 0 0)] [.blk 88 (nO 0 q),tB np nd M,.blk 196 (Ho s (U4 M) (U4 S)),.blk 199 (Tu t (U4 M) (W.map Ff,r2)),.blk 201 (Ho h (U4 M) (U4 H)),.blk 203 (Ho p (U4 M) (U4 P)),.blk 205 (Ho d (U4 M) (UY T))]
  [.agg (anw S W H P T)] [.blk 88 (nO 0 q),tB np nd M,.blk 196 (Ho s (U4 M) (U4 S)),.blk 199 (Tu t (U4 M) (W.map Ff,r2)),.blk 201 (Ho h (U4 M) (U4 H)),.blk 203 (Ho p (U4 M) (U4 P)),.blk 205 (Ho d (U4 M) (UY T))]:=by
 have c1:=Quv (c:=s) (l:=M) hS;have c2:=Quk (c:=h) (l:=M) hH;have c3:=mD (c:=d) (r0:=U4 M) hT;rcases hW with rfl|⟨w,rfl⟩
 ·have c4:=Qgo (c:=t) (r0:=U4 M) (r2:=r2);rcases hP with rfl|⟨a,b,rfl⟩
  ·have c5:=uK (c:=p) (r0:=U4 M);refine Fz func39 rfl ?_;exact Ul [] [0,1,2,3,4,5,6] [.c [2] c1,.c [4] c2,.c [6] c3,.c [3] c4,.f rfl,.c [5] c5,.f rfl] rfl
  ·have c5:=aZ (c:=p) (r0:=U4 M) (a:=a) (b:=b);refine Fz func39 rfl ?_;exact Ul [] [0,1,2,3,4,5,6] [.c [2] c1,.c [4] c2,.c [6] c3,.c [3] c4,.f rfl,.c [5] c5,.t rfl] rfl
 ·have c4:=Qog (c:=t) (r0:=U4 M) (r2:=r2) (w:=w);rcases hP with rfl|⟨a,b,rfl⟩
  ·have c5:=uK (c:=p) (r0:=U4 M);refine Fz func39 rfl ?_;exact Ul [] [0,1,2,3,4,5,6] [.c [2] c1,.c [4] c2,.c [6] c3,.c [3] c4,.t rfl,.c [5] c5,.f rfl] rfl
  ·have c5:=aZ (c:=p) (r0:=U4 M) (a:=a) (b:=b);refine Fz func39 rfl ?_;exact Ul [] [0,1,2,3,4,5,6] [.c [2] c1,.c [4] c2,.c [6] c3,.c [3] c4,.t rfl,.c [5] c5,.t rfl] rfl
abbrev wL(M:List Pt)(q:Rat):Uv:=anw (Sy (tq q) M) (No (Fx (tq q)) M).1 (Ph M (tq q)) (JK (Fx (tq q)) M) (rT (Fx (tq q)) M)
theorem Qrz(sg:Uq->Int)(M:List Pt):(No sg M).1=[]\/∃w,(No sg M).1=[w]:=by
 by_cases h:0<M.length
 ·obtain⟨a,ha,_⟩:=Np sg M.length M (Qk _) h;exact .inr ⟨a,ha⟩
 ·obtain rfl:=Qj (by omega:M.length=0);exact .inl rfl
theorem Qj7(sg:Uq->Int)(M:List Pt):JK sg M=[]\/∃a b,JK sg M=[a,b]:=by
 match M with
 | []=>exact .inl rfl
 | [_]=>exact .inl rfl
 |_::_::_=>exact .inr ⟨_,_,rfl⟩
theorem Qgl{np nd:Int}{M:List Pt}{q:Rat}{s t h p d:Cr}(hM:M.length<=6):U8 prog 39 [.one (.ow 0 0)] (YM 0 np nd M q s t h p d) [.agg (wL M q)] (YM 0 np nd M q s t h p d) :=
 Qod (by rw[Cw];omega) (by have:=RR M (tq q);omega) (by have:=Qdo (Fx (tq q)) hM;omega) (Qrz _ _) (Qj7 _ _)
theorem Qcc{np nd:Int}{M:List Pt}{q r:Rat}{s t h p d s' t' h' p' d':Cr}{b1 b2:Bool}{r1 r2:Uw}(hq:Qs 128 q)(hM:M.length<=6)
 (ha:U8 prog 21 [.one (.ow 0 0),.agg [.bool b1,.row r1,.bool b2,.row r2]] (YM 0 np nd M q s t h p d) [.oi 0] (YM 0 np nd M r s' t' h' p' d')) :
 U8 prog 24 [.one (.ow 0 0),.agg [.bool b1,.row r1,.bool b2,.row r2]] (YM 0 np nd M q s t h p d) [.agg (wL M r),.oi 0] (YM 0 np nd M q s t h p d):=by
 refine Fz func24 rfl ?_;exact Ul [] [0,1,2,3,4,5,6] [.c U3 (eN hq),.c U0 ha,.f rfl,.c U0 (Qgl hM)] rfl
abbrev Qyf:Uv:=[.row [],.row [],.row [],.row [],.row []]
theorem Qgb{np nd:Int}{M:List Pt}{q:Rat}{s t h p d:Cr}{b1 b2:Bool}{r1 r2:Uw}{e:Int}(he:e≠0)(hq:Qs 128 q)
 (ha:U8 prog 21 [.one (.ow 0 0),.agg [.bool b1,.row r1,.bool b2,.row r2]] (YM 0 np nd M q s t h p d) [.oi e] (YM 0 np nd M q s t h p d)) :
 U8 prog 24 [.one (.ow 0 0),.agg [.bool b1,.row r1,.bool b2,.row r2]] (YM 0 np nd M q s t h p d) [.agg Qyf,.oi e] (YM 0 np nd M q s t h p d):=by
 refine Fz func24 rfl ?_;exact Ul [] [0,1,2,3,4,5,6] [.c U3 (eN hq),.c U0 ha,.t (by simpa using he)] rfl
abbrev Qll(k i:Nat)(e:Int):LV:=match Nat.blt k i with
 |true=>.int .i64 e
 |false=>.int .i64 0
theorem Qfj{np nd:Int}{M:List Pt}{q:Rat}{s t h p d:Cr}:U8 prog 10 [.one (.ow 0 0)] (YM 0 np nd M q s t h p d) [.agg [.int .i64 s.ev,.int .i64 t.ev,.int .i64 h.ev,.int .i64 p.ev,.int .i64 d.ev]] (YM 0 np nd M q s t h p d):=by
 refine Fz func10 rfl ?_;refine Uh [.c Uz uG] rfl ?_;refine Um (S:=Nat) 9 (λL1 i=>(8,.v (.oi i))::L1) (λi=>[.blk 88 (nO 0 q),tB np nd M,bS s M q,bT t M q,bH h M q,bP p M q,bD d M q,.blk 29 [.int .i64 0,.int .i64 0,.int .i64 0,.int .i64 0,.int .i64 0],.blk 29 [Qll 0 i s.ev,Qll 1 i t.ev,Qll 2 i h.ev,Qll 3 i p.ev,Qll 4 i d.ev]]) (λi=>5-i) (λi=>i<=5) 0 (by decide) rfl rfl λi hi=>?_
 rcases(show i=0\/i=1\/i=2\/i=3\/i=4\/i=5 by omega)with rfl|rfl|rfl|rfl|rfl|rfl
 ·exact go tt [.t rfl,.i 0,.c [2] YW,.i 0] rfl (by simp[U5]) (rd 1 (by omega) (by omega) rfl)
 ·exact go tt [.t rfl,.i 1,.c [3] Qch,.i 1] rfl (by simp[U5]) (rd 2 (by omega) (by omega) rfl)
 ·exact go tt [.t rfl,.i 2,.c [4] YW,.i 2] rfl (by simp[U5]) (rd 3 (by omega) (by omega) rfl)
 ·exact go tt [.t rfl,.i 3,.c [5] YW,.i 3] rfl (by simp[U5]) (rd 4 (by omega) (by omega) rfl)
 ·exact go tt [.t rfl,.i 4,.c [6] YW,.i 4] rfl (by simp[U5]) (rd 5 (by omega) (by omega) rfl)
 ·exact Ul [] [0,1,2,3,4,5,6] [.f rfl] rfl
theorem Qse:∀p∈([]:List Pt),Sc p.c:=λ_ h=>by cases h
theorem Qmy:∀x∈([]:List Ct),Cp x.p:=λ_ h=>by cases h
theorem pP:Un 119 [.one (.row [])] [.agg [.row []],.oi 0]:=by
 refine Fz func119 rfl ?_;refine Uh [.f rfl] rfl ?_;refine nlb 1 rfl rfl rfl ?_;refine Um (S:=Unit) 2 (λL1 _=>(14,.v (.oi 0))::L1) (λ_=>[.blk 194 [.nils],.blk 194 [.row []]]) (λ_=>0) (λ_=>True) () trivial rfl rfl λ_ _=>?_
 exact Uj [.f rfl] rfl
abbrev zT(r0 r1 r2:LV):OB:=.blk 199 [.bool false,.nils,.bool false,.nils,.bool false,.nils,.bool false,.nils,.bool false,.nils,.nils,.int .i64 0,r0,r1,r2]
theorem Qsc{a:Tm}:U8 prog 166 [.one (.ow 0 0),.agg (ta a),.one (.row [])] [zT (.row []) .nils (.orow 1 10 none),.row false 264 10 []] [.one (.row [])] [zT (.row []) .nils (.orow 1 10 none),.row false 264 10 []]:=by
 refine Fz func166 rfl ?_;exact Ul [] [0,1] [.t rfl] rfl
theorem Qmw{a:Tm}:U8 prog 123 [.one (.ow 0 0),.agg (ta a)] [zT (.row []) .nils .nils] [.one (.row [])] [zT (.row []) (.row []) (.row [])]:=by
 refine Fz func123 rfl ?_;refine Uh [] rfl ?_;refine oz 0 14 264 10 rfl rfl ?_;refine Uh [.k (Iv (l:=[])),.c [0,2] (Qsc (a:=a)),.o 5 126 7] rfl ?_;refine Um (S:=Unit) 4 (λL1 _=>(29,.v (.oi 0))::(5,.v (.one (.orow 3 7 none)))::L1) (λ_=>[zT (.row []) (.row []) (.orow 2 10 none),.blk 189 (ta a),.row false 264 10 [],.row false 126 7 []]) (λ_=>0) (λ_=>True) () trivial rfl rfl λ_ _=>?_
 exact Ul [2,3] [0] [.f rfl] rfl
theorem Qmx:Un 169 [.agg [.row []]] [.one (.row [])]:=nX (l:=[]) (λ_ h=>by cases h) (by decide)
theorem Qtu{a:Tm}(ha:Va a):Un 163 [.agg (ta a),.one (.row [])] [.one (.row [])]:=uU (l:=[]) Qse (by decide) ha
theorem Qmu{a:Tm}(ha:Va a):U8 prog 124 [.one (.ow 0 0),.agg (ta a)] [.blk 201 (nR (.row []) .nils)] [.one (.row [])] [.blk 201 (nR (.row []) (.row []))]:=by
 have cn:Un 168 [.agg (ta a),.one (.row [])] [.one (.row [])]:=aR (R:=[]) Qse (by decide) ha;have cc:U8 prog 165 [.agg (ta a),.one (.row [])] [] [.one (.orow 0 7 none)] [.row false 126 7 []]:=SL (l:=[]) Qse (by decide) ha;refine Fz func124 rfl ?_;exact Ul [2] [0] [.k Qmx,.k (Qtu ha),.k cn,.k (Iv (l:=[])),.k (Qtu ha),.c [2] cc,.t rfl] rfl
theorem Qmv{a:Tm}:U8 prog 125 [.one (.ow 0 0),.agg (ta a)] [.blk 203 (nR (.row []) .nils)] [.one (.row [])] [.blk 203 (nR (.row []) (.row []))]:=by
 refine Fz func125 rfl ?_;refine Uh [.k (Iv (l:=[]))] rfl ?_;refine nlc 0 13 rfl rfl rfl ?_;exact Ul [] [0] [.t rfl] rfl
theorem Qmt{a:Tm}:U8 prog 126 [.one (.ow 0 0),.agg (ta a)] [.blk 205 (nR (.row []) .nils)] [.one (.row [])] [.blk 205 (nR (.row []) (.row []))]:=by
 refine Fz func126 rfl ?_;refine Uh [.k Qmx,.o 6 126 7] rfl ?_;refine Um (S:=Unit) 4 (λL1 _=>(42,.v (.oi 0))::(6,.v (.one (.orow 2 7 none)))::L1) (λ_=>[.blk 205 (nR (.row []) .nils),.blk 189 (ta a),.row false 126 7 [],.mpb (A2 (ZL (Fx a) []))]) (λ_=>0) (λ_=>True) () trivial rfl rfl λ_ _=>?_
 refine Uh [.f rfl] rfl ?_;refine Um (S:=Unit) 5 (λL1 _=>(97,.v (.oi 0))::(6,.v (.one (.orow 2 7 none)))::L1) (λ_=>[.blk 205 (nR (.row []) .nils),.blk 189 (ta a),.row false 126 7 [],.mpb (A2 (ZL (Fx a) [])),.mpb (Oh (A2 (ZL (Fx a) [])) (VE (Fx a) []))]) (λ_=>0) (λ_=>True) () trivial rfl rfl λ_ _=>?_
 refine Uh [.f rfl] rfl ?_;refine ozM 0 13 101 3 rfl rfl ?_;refine Um (S:=Unit) 6 (λL1 _=>(174,.v (.oi 0))::L1) (λ_=>[.blk 205 [.bool false,.nils,.bool false,.nils,.bool false,.nils,.bool false,.nils,.bool false,.nils,.nils,.int .i64 0,.row [],.orow 5 3 none],.blk 189 (ta a),.row false 126 7 [],.mpb (A2 (ZL (Fx a) [])),.mpb (Oh (A2 (ZL (Fx a) [])) (VE (Fx a) [])),.row false 101 3 []]) (λ_=>0) (λ_=>True) () trivial rfl rfl λ_ _=>?_
 exact Ul [2,5] [0] [.f rfl] rfl
section
variable{x y x' y':LV}{n d:Int}(h1:Gi x y n)(h2:Gi x' y' d)(bn:Fg n<=4294967295)(bd:Fg d<=4294967295)(ht:Qs 1640000 (Gn n d))
include h1 h2 bn bd ht
theorem Qsb:U8 prog 71 [.agg [x,y,x',y'],.one (.row [])] [] [.one (.ow 0 0),.oi 0] [.blk 196 (Ho ⟨tq (Gn n d),[],0⟩ [] [])]:=by
 have co:=KZ h1 h2 bn bd (ht.mono (by decide));have cb:U8 prog 122 [.one (.ow 0 0),.agg (ta (tq (Gn n d)))] [.blk 196 (nR (.row []) .nils)] [.one (.row [])] [.blk 196 (nR (.row []) (.row []))]:=Qce (l:=[]) Qse (by decide) (SG ht);have cg:=YV (T:=196) (r0:=[]) (r1:=[]) (SG ht) Qmy (by decide);obtain⟨b,l1,rfl,rfl,_⟩:=h1;obtain⟨b',l2,rfl,rfl,_⟩:=h2;refine Fz func71 rfl ?_;exact Ul [] [2] [.k pP,.f rfl,.k co,.c [2] cb,.c [2] cg] rfl
theorem Qsd:U8 prog 72 [.agg [x,y,x',y'],.one (.row [])] [] [.one (.ow 0 0),.oi 0] [.blk 199 (Tu ⟨tq (Gn n d),[],0⟩ [] ([],[]))]:=by
 have co:=KZ h1 h2 bn bd (ht.mono (by decide));have cg:=Qcf (T:=199) (r0:=[]) (r1:=([],[])) (SG ht) Qmy (by decide);obtain⟨b,l1,rfl,rfl,_⟩:=h1;obtain⟨b',l2,rfl,rfl,_⟩:=h2;refine Fz func72 rfl ?_;exact Ul [] [2] [.k pP,.f rfl,.k co,.c [2] (Qmw (a:=tq (Gn n d))),.c [2] cg] rfl
theorem Qr9:U8 prog 73 [.agg [x,y,x',y'],.one (.row [])] [] [.one (.ow 0 0),.oi 0] [.blk 201 (Ho ⟨tq (Gn n d),[],0⟩ [] [])]:=by
 have co:=KZ h1 h2 bn bd (ht.mono (by decide));have cg:=YV (T:=201) (r0:=[]) (r1:=[]) (SG ht) Qmy (by decide);obtain⟨b,l1,rfl,rfl,_⟩:=h1;obtain⟨b',l2,rfl,rfl,_⟩:=h2;refine Fz func73 rfl ?_;exact Ul [] [2] [.k pP,.f rfl,.k co,.c [2] (Qmu (SG ht)),.c [2] cg] rfl
theorem Qsa:U8 prog 74 [.agg [x,y,x',y'],.one (.row [])] [] [.one (.ow 0 0),.oi 0] [.blk 203 (Ho ⟨tq (Gn n d),[],0⟩ [] [])]:=by
 have co:=KZ h1 h2 bn bd (ht.mono (by decide));have cg:=YV (T:=203) (r0:=[]) (r1:=[]) (SG ht) Qmy (by decide);obtain⟨b,l1,rfl,rfl,_⟩:=h1;obtain⟨b',l2,rfl,rfl,_⟩:=h2;refine Fz func74 rfl ?_;exact Ul [] [2] [.k pP,.f rfl,.k co,.c [2] (Qmv (a:=tq (Gn n d))),.c [2] cg] rfl
theorem Qr8:U8 prog 75 [.agg [x,y,x',y'],.one (.row [])] [] [.one (.ow 0 0),.oi 0] [.blk 205 (Ho ⟨tq (Gn n d),[],0⟩ [] [])]:=by
 have co:=KZ h1 h2 bn bd (ht.mono (by decide));have cg:=YV (T:=205) (r0:=[]) (r1:=[]) (SG ht) Qmy (by decide);obtain⟨b,l1,rfl,rfl,_⟩:=h1;obtain⟨b',l2,rfl,rfl,_⟩:=h2;refine Fz func75 rfl ?_;exact Ul [] [2] [.k pP,.f rfl,.k co,.c [2] (Qmt (a:=tq (Gn n d))),.c [2] cg] rfl
end
end Orr
namespace Orr
open Go Go.Proofs Tryz Orq
set_option maxRecDepth 10000
theorem Qvc{np nd:Int}(h1:1<=np/\np<=6)(h2:0<=nd/\nd<=2):U8 prog 69 [.oi np,.oi nd] [] [.one (.ow 0 0),.oi 0] [.blk 158 [.int .i64 np,.int .i64 nd,.nils]]:=by
 refine Fz func69 rfl ?_;exact Ul [] [0] [.F,.f (by simp;omega),.f (by simp;omega),.f (by simp;omega)] rfl
theorem Qui{np nd:Int}(h1:1<=np/\np<=6)(h2:0<=nd/\nd<=2):U8 prog 26 [.oi np,.oi nd] [] [.one (.ow 0 0),.oi 0] (YM 0 np nd [] 0 (Qym [] (tq 0)) (Qyn [] (tq 0)) (Qyk [] (tq 0)) (Qyl [] (tq 0)) (Qyj [] (tq 0))):=by
 have ez:Gn (0:Rat).num ((0:Rat).den:Int)=0:=by decide
 have hq:Qs 1640000 (Gn (0:Rat).num ((0:Rat).den:Int)):=by rw[ez];exact⟨by decide,by decide⟩
 have i1:=U6 (0:Rat).num;have i2:=U6 ((0:Rat).den:Int);have c1:=Qsb i1 i2 (by decide) (by decide) hq;have c2:=Qsd i1 i2 (by decide) (by decide) hq;have c3:=Qr9 i1 i2 (by decide) (by decide) hq;have c4:=Qsa i1 i2 (by decide) (by decide) hq;have c5:=Qr8 i1 i2 (by decide) (by decide) hq;rw[ez]at c1 c2 c3 c4 c5;have ci:=Qu8 (n:=0) (by decide);rw[show((0:Int):Rat)=0 from rfl,Lo]at ci;refine Fz func26 rfl ?_;refine Uh [.c [0] (Qvc h1 h2),.f rfl] rfl ?_;refine nlc 0 2 rfl rfl rfl ?_;exact Ul [] [1,0,2,3,4,5,6] [.k ci,.c [2] c1,.c [3] c2,.c [4] c3,.c [5] c4,.c [6] c5] rfl
def Em.ins(A:Em)(p:Pt):Em×Int:=(if Ng A.np A.nd A.M p=0 then { A with M:=put A.M p }else A,Ng A.np A.nd A.M p)
def Em.rep(A:Em)(p:Pt):Em×Int:=(if Nj A.nd A.M p=0 then { A with M:=A.M.set (Tc A.M p.id) p }else A,Nj A.nd A.M p)
def Em.del(A:Em)(id:Int):Em×Int:=if has A.M id=true then({ A with M:=A.M.take (Tc A.M id)++A.M.drop (Tc A.M id+1) },0)else(A,5)
open Classical in
noncomputable def Em.adv(A:Em)(t:Rat):Em×Int:=if Qs 128 t then(if t<A.q then(A,8)else({ A with q:=t,s:=A.s+(cnt (ZM A.M) A.q t:Nat),t:=A.t+(cnt (SD A.M) A.q t:Nat),h:=A.h+(cnt (HB A.M) A.q t:Nat),p:=A.p+(cnt (IH A.M) A.q t:Nat),d:=A.d+(cnt (MN A.M) A.q t:Nat) },0))else(A,1)
theorem Qtl{np nd:Int}{k:Crv}(hn:YZ k)(hnd:nd<=2)(h1:ZV k=true)(h2:¬nd<Ah k):Sc k:=by
 obtain⟨s1,s2,s3⟩:=AM.1 h1;unfold Ah at h2;exact⟨hn,s1,s2,s3,by omega,by omega⟩
theorem Qjz{p:Pt}(h:XI p=true):(0<=p.id/\p.id<=1048576)/\ZV p.c=true:=by
 simp only[XI,Zo,decide_eq_true_iff]at h;exact⟨⟨h.1,h.2.1⟩,h.2.2⟩
theorem lK{M:List Pt}(hs:Cc M){p:Pt}(h:has M p.id=true):Cc (M.set (Tc M p.id) p):=by
 have hl:=VZ h;have hid:∀(x:Pt),M[Tc M p.id]? = some x->x.id=p.id:=λx hx=>by
  simp only[has,hx]at h;exact of_decide_eq_true h
 unfold Cc;rw[Yd];intro i j hi hj hij;rw[Xf]at hi hj;have hx:=Qe hi;have hy:=Qe hj;have hlt:=Qz5 hs hij hx hy;rw[List.getElem_set,List.getElem_set]
 split
 ·rename_i e;subst e;rw[if_neg (by omega)];have:=hid _ hx;omega
 ·split
  ·rename_i e;subst e;have:=hid _ hy;omega
  ·exact hlt
theorem XO{M:List Pt}{i:Nat}{p x:Pt}(h:x∈M.set i p):x=p\/x∈M:=by
 rcases Jq h with h|h
 ·exact .inr h
 ·exact .inl h
theorem EX{M:List Pt}{i:Nat}{x:Pt}(h:x∈M.take i++M.drop (i+1)):x∈M:=by
 rcases Qq.1 h with h|h
 ·exact Qo h
 ·exact Qz h
theorem sL{M:List Pt}(hs:Cc M)(i:Nat):Cc (M.take i++M.drop (i+1)):=by
 have h:=hs;unfold Cc at h ⊢;rw[<-Zi i M,X2]at h;refine X2.2 ⟨h.1,?_,λx hx y hy=>h.2.2 x hx y ?_⟩
 ·have:M.drop (i+1)=(M.drop i).drop 1:=by rw[Jx]
  rw[this];exact h.2.1.sublist (List.drop_sublist _ _)
 ·have:M.drop (i+1)=(M.drop i).drop 1:=by rw[Jx]
  rw[this]at hy;exact Qz hy
abbrev pD(f:Nat)(args:Uy)(E:Es)(res:Uy)(E':Es):Prop:=U8 prog f args (enB 0 E) res (enB 0 E')
theorem FY{E:Es}{b:Int}(h:EOk b E){lx ly:Uw}{px py:Uq}{x y:LV}{d id:Int}(hx:IsInts lx px)(hy:IsInts ly py)(hd:Gi x y d)(hk:Cs 4294967294 1073741824 (Crv.mk px py d)) :
 ∃E',EOk b E'/\E'.m=(E.m.ins ⟨Crv.norm (Crv.mk px py d),id⟩).1/\pD 27 [.one (.ow 0 0),.oi id,.agg [.row lx,.row ly,x,y]] E [.one (.int .i64 (E.m.ins ⟨Crv.norm (Crv.mk px py d),id⟩).2)] E':=by
 have hM:=h.m.m;have hl6:=hM.ln;have ct:=Qvd (np:=E.np) (nd:=E.nd) (l:=E.M) (id:=id) hx hy hd hk (by omega);obtain⟨p,hp⟩:=nmE (Pt.mk (Crv.norm (Crv.mk px py d)) id);have hpn:YZ p.c:=by rw[hp];exact Crv.nml _
 by_cases e:Ng E.np E.nd E.M p=0
 ·have e0:XI p=true/\has E.M p.id=false/\¬E.nd<Ah p.c/\¬E.np<=(E.M.length:Int):=by
   unfold Ng at e;by_cases a1:XI p=false
   ·rw[if_pos a1]at e;cases e
   rw[if_neg a1]at e;by_cases a2:has E.M p.id=true
   ·rw[if_pos a2]at e;cases e
   rw[if_neg a2]at e;by_cases a3:E.nd<Ah p.c
   ·rw[if_pos a3]at e;cases e
   rw[if_neg a3]at e;by_cases a4:E.np<=(E.M.length:Int)
   ·rw[if_pos a4]at e;cases e
   exact⟨by simpa using a1,by simpa using a2,a3,a4⟩
  obtain⟨f1,f2,f3,f4⟩:=e0;obtain⟨g1,g2⟩:=Qjz f1;have hsc:=Qtl (np:=E.np) hpn h.nd.2 g2 f3;have hpl:(put E.M p).length<=6:=by rw[Qay];have:=h.np.2;omega
  have hM':MOk (put E.M p):=⟨λz hz=>by rcases NC hz with rfl|hz;exact hsc;exact hM.sc z hz,hpl,AX hM.so f2⟩;have hME:MEn E.np E.nd (put E.M p):=⟨hM',by rw[Qay];have:=h.np.2;omega,λz hz=>by rcases NC hz with rfl|hz;omega;exact h.m.deg z hz,λz hz=>by rcases NC hz with rfl|hz;exact g1;exact h.m.id z hz⟩;have hpe:WL E.M p=0:=by unfold WL;rw[if_neg (by rw[f2];decide),if_neg (by have:=h.np.2;omega)]
  rw[hp]at e hpe hM' hME hpl;rw[e,if_pos rfl]at ct;obtain⟨w1,l1,a1⟩:=h.s.again okS hM';obtain⟨w2,l2,a2⟩:=h.t.again okT hM';obtain⟨w3,l3,a3⟩:=h.h.again okH hM';obtain⟨w4,l4,a4⟩:=h.p.again okP hM';obtain⟨w5,l5,a5⟩:=h.d.again okD hM';have c1:=Quw (c:=E.s) (l:=E.M) (r1:=mT E.M (tq E.q)) hx hy hd hk (by omega) hpe h.s.st.inv.ok hM'.sc (by omega) l1;have c2:=Qof (c:=E.t) (l:=E.M) (r1:=mS E.M (tq E.q)) hx hy hd hk (by omega) hpe h.t.st.inv.ok hM'.sc (by omega) l2;have c3:=Qnv (c:=E.h) (l:=E.M) (r1:=brH E.M (tq E.q)) hx hy hd hk (by omega) hpe h.h.st.inv.ok hM'.sc (by omega) l3;have c4:=Qn3 (c:=E.p) (l:=E.M) (r1:=brP E.M (tq E.q)) hx hy hd hk (by omega) hpe h.p.st.inv.ok hM'.sc (by omega) l4;have c5:=Qns (c:=E.d) (l:=E.M) (r1:=mH E.M (tq E.q)) hx hy hd hk (by omega) hpe h.d.st.inv.ok hM'.sc (by omega) l5;rw[h.s.now]at c1;rw[h.t.now]at c2;rw[h.h.now]at c3;rw[h.p.now]at c4;rw[h.d.now]at c5;obtain⟨b1,r,rfl,rfl,_⟩:=hd;refine⟨⟨E.np,E.nd,put E.M ⟨Crv.norm (Crv.mk px py d),id⟩,E.q,⟨tq E.q,w1,E.s.ev⟩,⟨tq E.q,w2,E.t.ev⟩,⟨tq E.q,w3,E.h.ev⟩,⟨tq E.q,w4,E.p.ev⟩,⟨tq E.q,w5,E.d.ev⟩⟩,⟨h.np,h.nd,hME,h.q,a1,a2,a3,a4,a5,h.es,h.et,h.eh,h.ep,h.ed⟩,?_,?_⟩
  ·unfold Em.ins;show _=if Ng E.np E.nd E.M _=0 then _ else _
   rw[if_pos e];rfl
  ·have e2:(E.m.ins ⟨Crv.norm (Crv.mk px py d),id⟩).2=0:=e;rw[e2];exact Qfv ct c1 c2 c3 c4 c5
 ·rw[hp]at e;rw[if_neg e]at ct;obtain⟨b1,r,rfl,rfl,_⟩:=hd;refine⟨E,h,?_,Qb9 e ct⟩;unfold Em.ins;show _=if Ng E.np E.nd E.M _=0 then _ else _
  rw[if_neg e]
theorem fM{E:Es}{b:Int}(h:EOk b E){lx ly:Uw}{px py:Uq}{x y:LV}{d id:Int}(hx:IsInts lx px)(hy:IsInts ly py)(hd:Gi x y d)(hk:Cs 4294967294 1073741824 (Crv.mk px py d)) :
 ∃E',EOk b E'/\E'.m=(E.m.rep ⟨Crv.norm (Crv.mk px py d),id⟩).1/\pD 36 [.one (.ow 0 0),.oi id,.agg [.row lx,.row ly,x,y]] E [.one (.int .i64 (E.m.rep ⟨Crv.norm (Crv.mk px py d),id⟩).2)] E':=by
 have hM:=h.m.m;have hl6:=hM.ln;have ct:=Qoy (np:=E.np) (nd:=E.nd) (l:=E.M) (id:=id) hx hy hd hk (by omega);obtain⟨p,hp⟩:=nmE (Pt.mk (Crv.norm (Crv.mk px py d)) id);have hpn:YZ p.c:=by rw[hp];exact Crv.nml _
 have hpi:p.id=id:=by rw[hp]
 by_cases e:Nj E.nd E.M p=0
 ·have e0:XI p=true/\has E.M p.id=true/\¬E.nd<Ah p.c:=by
   unfold Nj at e;by_cases a1:XI p=false
   ·rw[if_pos a1]at e;cases e
   rw[if_neg a1]at e;by_cases a2:has E.M p.id=false
   ·rw[if_pos a2]at e;cases e
   rw[if_neg a2]at e;by_cases a3:E.nd<Ah p.c
   ·rw[if_pos a3]at e;cases e
   exact⟨by simpa using a1,by simpa using a2,a3⟩
  obtain⟨f1,f2,f3⟩:=e0;obtain⟨g1,g2⟩:=Qjz f1;have hsc:=Qtl (np:=E.np) hpn h.nd.2 g2 f3;have hM':MOk (E.M.set (Tc E.M p.id) p):=⟨λz hz=>by rcases XO hz with rfl|hz;exact hsc;exact hM.sc z hz,by rw[Xf];exact hl6,lK hM.so f2⟩;have hME:MEn E.np E.nd (E.M.set (Tc E.M p.id) p):=⟨hM',by rw[Xf];exact h.m.len,λz hz=>by rcases XO hz with rfl|hz;omega;exact h.m.deg z hz,λz hz=>by rcases XO hz with rfl|hz;exact g1;exact h.m.id z hz⟩;rw[hpi]at f2 hM' hME;rw[hp]at e hM' hME;rw[e,if_pos rfl]at ct;obtain⟨w1,l1,a1⟩:=h.s.again okS hM';obtain⟨w2,l2,a2⟩:=h.t.again okT hM';obtain⟨w3,l3,a3⟩:=h.h.again okH hM';obtain⟨w4,l4,a4⟩:=h.p.again okP hM';obtain⟨w5,l5,a5⟩:=h.d.again okD hM';have c1:=Qn8 (c:=E.s) (l:=E.M) (r1:=mT E.M (tq E.q)) hx hy hd hk (by omega) f2 h.s.st.inv.ok rfl hM'.sc l1;have c2:=Qgn (c:=E.t) (l:=E.M) (r1:=mS E.M (tq E.q)) hx hy hd hk (by omega) f2 h.t.st.inv.ok rfl hM'.sc l2;have c3:=Qft (c:=E.h) (l:=E.M) (r1:=brH E.M (tq E.q)) hx hy hd hk (by omega) f2 h.h.st.inv.ok rfl hM'.sc l3;have c4:=Qf7 (c:=E.p) (l:=E.M) (r1:=brP E.M (tq E.q)) hx hy hd hk (by omega) f2 h.p.st.inv.ok rfl hM'.sc l4;have c5:=Qfm (c:=E.d) (l:=E.M) (r1:=mH E.M (tq E.q)) hx hy hd hk (by omega) f2 h.d.st.inv.ok rfl hM'.sc l5;rw[h.s.now]at c1;rw[h.t.now]at c2;rw[h.h.now]at c3;rw[h.p.now]at c4;rw[h.d.now]at c5;obtain⟨b1,r,rfl,rfl,_⟩:=hd;refine⟨⟨E.np,E.nd,E.M.set (Tc E.M id) ⟨Crv.norm (Crv.mk px py d),id⟩,E.q,⟨tq E.q,w1,E.s.ev⟩,⟨tq E.q,w2,E.t.ev⟩,⟨tq E.q,w3,E.h.ev⟩,⟨tq E.q,w4,E.p.ev⟩,⟨tq E.q,w5,E.d.ev⟩⟩,⟨h.np,h.nd,hME,h.q,a1,a2,a3,a4,a5,h.es,h.et,h.eh,h.ep,h.ed⟩,?_,?_⟩
  ·unfold Em.rep;show _=if Nj E.nd E.M _=0 then _ else _
   rw[if_pos e];rfl
  ·have e2:(E.m.rep ⟨Crv.norm (Crv.mk px py d),id⟩).2=0:=e;rw[e2];exact Qgd ct c1 c2 c3 c4 c5
 ·rw[hp]at e;rw[if_neg e]at ct;obtain⟨b1,r,rfl,rfl,_⟩:=hd;refine⟨E,h,?_,Qcd e ct⟩;unfold Em.rep;show _=if Nj E.nd E.M _=0 then _ else _
  rw[if_neg e]
theorem Qic{E:Es}{b id:Int}(h:EOk b E) :
 ∃E',EOk b E'/\E'.m=(E.m.del id).1/\pD 37 [.one (.ow 0 0),.oi id] E [.one (.int .i64 (E.m.del id).2)] E':=by
 have hM:=h.m.m;have hl6:=hM.ln;by_cases f2:has E.M id=true
 ·have ct:=Qox (np:=E.np) (nd:=E.nd) (l:=E.M) (by omega) f2;have hpl:=VZ f2;have hgl:=Qi6 hpl;have hM':MOk (E.M.take (Tc E.M id)++E.M.drop (Tc E.M id+1)):=⟨λz hz=>hM.sc z (EX hz),by omega,sL hM.so _⟩;have hME:MEn E.np E.nd (E.M.take (Tc E.M id)++E.M.drop (Tc E.M id+1)):=⟨hM',by have:=h.m.len;omega,λz hz=>h.m.deg z (EX hz),λz hz=>h.m.id z (EX hz)⟩;obtain⟨w1,l1,a1⟩:=h.s.again okS hM';obtain⟨w2,l2,a2⟩:=h.t.again okT hM';obtain⟨w3,l3,a3⟩:=h.h.again okH hM';obtain⟨w4,l4,a4⟩:=h.p.again okP hM';obtain⟨w5,l5,a5⟩:=h.d.again okD hM';have c1:=Qn6 (c:=E.s) (l:=E.M) (r1:=mT E.M (tq E.q)) (by omega) f2 h.s.st.inv.ok rfl hM'.sc l1;have c2:=Qgm (c:=E.t) (l:=E.M) (r1:=mS E.M (tq E.q)) (by omega) f2 h.t.st.inv.ok rfl hM'.sc l2;have c3:=Qfs (c:=E.h) (l:=E.M) (r1:=brH E.M (tq E.q)) (by omega) f2 h.h.st.inv.ok rfl hM'.sc l3;have c4:=Qf6 (c:=E.p) (l:=E.M) (r1:=brP E.M (tq E.q)) (by omega) f2 h.p.st.inv.ok rfl hM'.sc l4;have c5:=Qfl (c:=E.d) (l:=E.M) (r1:=mH E.M (tq E.q)) (by omega) f2 h.d.st.inv.ok rfl hM'.sc l5;rw[h.s.now]at c1;rw[h.t.now]at c2;rw[h.h.now]at c3;rw[h.p.now]at c4;rw[h.d.now]at c5;have e2:E.m.del id=({ E.m with M:=E.M.take (Tc E.M id)++E.M.drop (Tc E.M id+1) },0):=if_pos f2;rw[e2];exact⟨⟨E.np,E.nd,E.M.take (Tc E.M id)++E.M.drop (Tc E.M id+1),E.q,⟨tq E.q,w1,E.s.ev⟩,⟨tq E.q,w2,E.t.ev⟩,⟨tq E.q,w3,E.h.ev⟩,⟨tq E.q,w4,E.p.ev⟩,⟨tq E.q,w5,E.d.ev⟩⟩,⟨h.np,h.nd,hME,h.q,a1,a2,a3,a4,a5,h.es,h.et,h.eh,h.ep,h.ed⟩,rfl,Qfn ct c1 c2 c3 c4 c5⟩
 ·have e2:E.m.del id=(E.m,5):=if_neg f2;rw[e2];exact⟨E,h,rfl,Qb4 (show(5:Int)≠0 by decide) (Qhf (by omega) (by simpa using f2))⟩
theorem RD{E:Es}{b:Int}(h:EOk b E)(hb:b<=900000000000000000){x0 x1 x2 x3:LV}{n m:Int}{t:Rat}(ha:Gi x0 x1 n)(hc:Gi x2 x3 m)(sa:Fg n<=4294967295)(sb:Fg m<=4294967295)(ht:Gn n m=t) :
 ∃E',EOk (b+67000000) E'/\E'.m=(E.m.adv t).1/\((E.m.adv t).2≠0->E'=E)/\pD 21 [.one (.ow 0 0),.agg [x0,x1,x2,x3]] E [.one (.int .i64 (E.m.adv t).2)] E':=by
 have hM:=h.m.m;have hl6:=hM.ln;by_cases hs:Qs 128 t
 ·by_cases hp:t<E.q
  ·have e2:E.m.adv t=(E.m,8):=by unfold Em.adv;rw[if_pos hs];exact if_pos hp
   rw[e2];exact⟨E,h.mono (by omega),rfl,λ_=>rfl,IR ha hc sa sb ht hs h.q hp⟩
  ·have hqt:E.q<=t:=W0.1 hp;have e2:E.m.adv t=(({ E.m with q:=t,s:=E.s.ev+(cnt (ZM E.M) E.q t:Nat),t:=E.t.ev+(cnt (SD E.M) E.q t:Nat),h:=E.h.ev+(cnt (HB E.M) E.q t:Nat),p:=E.p.ev+(cnt (IH E.M) E.q t:Nat),d:=E.d.ev+(cnt (MN E.M) E.q t:Nat) }:Em),0):=by unfold Em.adv;rw[if_pos hs];exact if_neg hp
   rw[e2];have hq:Qs 1640000 t:=hs.mono (by decide);obtain⟨K1,d1,k1,g1,a1,v1,u1,_⟩:=h.s.adv okS hM hq hqt;obtain⟨K2,d2,k2,g2,a2,v2,u2,_⟩:=h.t.adv okT hM hq hqt;obtain⟨K3,d3,k3,g3,a3,v3,u3,_⟩:=h.h.adv okH hM hq hqt;obtain⟨K4,d4,k4,g4,a4,v4,u4,_⟩:=h.p.adv okP hM hq hqt;obtain⟨K5,d5,k5,g5,a5,v5,u5,_⟩:=h.d.adv okD hM hq hqt;have hcm:∀{c:Cr},c.now=tq E.q->Fq c.now t<=0:=λ{c} hn=>by
    rw[hn,IZ];exact NJ.2 hqt
   have c1:=Quu hq hM.sc (by omega) h.s.st.inv.ok (by have:=h.es;omega) (hcm h.s.now) g1;have c2:=Qoe hq hM.sc (by omega) h.t.st.inv.ok (by have:=h.et;omega) (hcm h.t.now) g2;have c3:=Quj hq hM.sc (by omega) h.h.st.inv.ok (by have:=h.eh;omega) (hcm h.h.now) g3;have c4:=Qn2 hq hM.sc (by omega) h.p.st.inv.ok (by have:=h.ep;omega) (hcm h.p.now) g4;have c5:=Quh hq hM.sc (by omega) h.d.st.inv.ok (by have:=h.ed;omega) (hcm h.d.now) g5;refine⟨⟨E.np,E.nd,E.M,t,d1,d2,d3,d4,d5⟩,⟨h.np,h.nd,h.m,hs,a1,a2,a3,a4,a5,?_,?_,?_,?_,?_⟩,?_,λh=>absurd rfl h,Qb2 ha hc sa sb ht hs h.q hqt c1 c2 c3 c4 c5⟩
   ·have:=h.es;show 0<=d1.ev/\d1.ev<=_;omega
   ·have:=h.et;show 0<=d2.ev/\d2.ev<=_;omega
   ·have:=h.eh;show 0<=d3.ev/\d3.ev<=_;omega
   ·have:=h.ep;show 0<=d4.ev/\d4.ev<=_;omega
   ·have:=h.ed;show 0<=d5.ev/\d5.ev<=_;omega
   ·unfold Es.m;simp only[v1,v2,v3,v4,v5]
 ·have e2:E.m.adv t=(E.m,1):=by unfold Em.adv;exact if_neg hs
  rw[e2];exact⟨E,h.mono (by omega),rfl,λ_=>rfl,jK ha hc sa sb ht hs⟩
noncomputable def Em.ans(A:Em)(t:Rat):Uv:=if (A.adv t).2=0 then wL A.M t else Qyf
theorem yZ{E:Es}{b:Int}(h:EOk b E)(hb:b<=900000000000000000){x0 x1 x2 x3:LV}{n m:Int}{t:Rat}(ha:Gi x0 x1 n)(hc:Gi x2 x3 m)(sa:Fg n<=4294967295)(sb:Fg m<=4294967295)(ht:Gn n m=t) :
 pD 24 [.one (.ow 0 0),.agg [x0,x1,x2,x3]] E [.agg (E.m.ans t),.one (.int .i64 (E.m.adv t).2)] E:=by
 obtain⟨E',h1,h2,h3,h4⟩:=RD h hb ha hc sa sb ht;obtain⟨b1,r1,rfl,rfl,_⟩:=ha;obtain⟨b2,r2,rfl,rfl,_⟩:=hc;unfold Em.ans;by_cases e:(E.m.adv t).2=0
 ·rw[if_pos e];rw[e]at h4 ⊢;have hs:Qs 128 t/\¬t<E.q:=by
   unfold Em.adv at e;by_cases a:Qs 128 t
   ·rw[if_pos a]at e;by_cases a':t<E.m.q
    ·rw[if_pos a']at e;cases e
    ·exact⟨a,a'⟩
   ·rw[if_neg a]at e;cases e
  have e2:E.m.adv t=(({ E.m with q:=t,s:=E.s.ev+(cnt (ZM E.M) E.q t:Nat),t:=E.t.ev+(cnt (SD E.M) E.q t:Nat),h:=E.h.ev+(cnt (HB E.M) E.q t:Nat),p:=E.p.ev+(cnt (IH E.M) E.q t:Nat),d:=E.d.ev+(cnt (MN E.M) E.q t:Nat) }:Em),0):=by unfold Em.adv;rw[if_pos hs.1];exact if_neg hs.2
  rw[e2]at h2;obtain⟨np,nd,M,q,s,u,v,p,d⟩:=E';unfold Es.m at h2;injection h2 with i1 i2 i3 i4;dsimp only at i1 i2 i3 i4;subst i1 i2 i3 i4;exact Qcc h.q h.m.m.ln h4
 ·rw[if_neg e];rw[h3 e]at h4;exact Qgb e h.q h4
end Orr
namespace Orr
open Go Go.Proofs Tryz Orq
set_option maxRecDepth 10000
abbrev WQ(A:Em):Uv:=[.int .i64 A.s,.int .i64 A.t,.int .i64 A.h,.int .i64 A.p,.int .i64 A.d]
theorem fP{E:Es}:pD 10 [.one (.ow 0 0)] E [.agg (WQ E.m)] E:=Qfj
theorem Qvs{E:Es}{b:Int}(h:EOk b E):pD 39 [.one (.ow 0 0)] E [.agg (wL E.M E.q)] E:=Qgl h.m.m.ln
theorem wA{b:Int}(h:0<=b):0<=(0:Int)/\(0:Int)<=b:=⟨J5 _,h⟩
def MW(np nd:Int):Es:=⟨np,nd,[],0,Qym [] (tq 0),Qyn [] (tq 0),Qyk [] (tq 0),Qyl [] (tq 0),Qyj [] (tq 0)⟩
theorem YA:MOk []:=⟨λp h=>(by cases h),by decide,List.Pairwise.nil⟩
theorem Qj9{np nd:Int}(h1:1<=np/\np<=6)(h2:0<=nd/\nd<=2):EOk 0 (MW np nd):=by
 have hq:Qs 1640000 (0:Rat):=⟨by decide,by decide⟩;exact⟨h1,h2,⟨YA,by show((0:Nat):Int)<=np;omega,λp h=>(by cases h),λp h=>(by cases h)⟩,(show Qs 128 (0:Rat) from⟨by decide,by decide⟩),At.begin okS YA hq,At.begin okT YA hq,At.begin okH YA hq,At.begin okP YA hq,At.begin okD YA hq,wA (J5 _),wA (J5 _),wA (J5 _),wA (J5 _),wA (J5 _)⟩
theorem Qf2{np nd:Int}(h1:1<=np/\np<=6)(h2:0<=nd/\nd<=2):U8 prog 26 [.oi np,.oi nd] [] [.one (.ow 0 0),.oi 0] (enB 0 (MW np nd)):=Qui h1 h2
theorem Qzs{E:Es}{A:Em}(h:E.m=A):E.np=A.np/\E.nd=A.nd/\E.M=A.M/\E.q=A.q/\E.s.ev=A.s/\E.t.ev=A.t/\E.h.ev=A.h/\E.p.ev=A.p/\E.d.ev=A.d:=by subst h;exact⟨rfl,rfl,rfl,rfl,rfl,rfl,rfl,rfl,rfl⟩
theorem BW{A:Em}{t:Rat}(h1:Qs 128 t)(h2:¬t<A.q):A.adv t=(({ A with q:=t,s:=A.s+(cnt (ZM A.M) A.q t:Nat),t:=A.t+(cnt (SD A.M) A.q t:Nat),h:=A.h+(cnt (HB A.M) A.q t:Nat),p:=A.p+(cnt (IH A.M) A.q t:Nat),d:=A.d+(cnt (MN A.M) A.q t:Nat) }:Em),0):=by
 unfold Em.adv;rw[if_pos h1];exact if_neg h2
def Ix(M:List Pt):Int:=M.foldl (λd p=>max d (Ah p.c)) 0
theorem OS{M:List Pt}{i:Nat}{p:Pt}(h:M[i]? = some p):Ix (M.take (i+1))=max (Ix (M.take i)) (Ah p.c):=by
 unfold Ix;rw[List.take_succ,h,Option.toList_some,List.foldl_append];rfl
theorem Qo9{k:Crv}(hk:Cs 128 3 k):0<=Ah k/\Ah k<=2:=by
 have:=hk.lx;have:=hk.ly;unfold Ah;omega
theorem jL{M:List Pt}(h:∀p∈M,Sc p.c):∀i,0≤Ix (M.take i)/\Ix (M.take i)≤2
 | 0=>by unfold Ix;simp
 |
  i+1=>by
  have ih:=jL h i;cases hi:M[i]? with
  |
   none =>
   rw[Qn (by have:=Xz.1 hi;omega)];rw[Qn (Xz.1 hi)]at ih;exact ih
  |
   some p =>
   rw[OS hi];have:=Qo9 (h p (Qc hi)).c;omega
theorem Qva{np nd:Int}{l:List Pt}(hs:∀p∈l,Sc p.c)(hl:l.length≤1000000):U8 prog 44 [.one (.ow 0 0)] [tB np nd l] [.oi (Ix l)] [tB np nd l]:=by
 have hll:(l.map Ff).length=l.length:=by simp
 refine Fz func44 rfl ?_;refine Uh [] rfl ?_;refine lp (S:=Nat) 1 (λL1 i=>(11,.v (.oi i))::(3,.v (.oi (Ix (l.take i))))::L1) (λ_=>[tB np nd l]) (λi=>l.length-i) (λi=>i<=l.length) 0 (Qh _) rfl (λ_ _=>rfl) (by rw[Y9];rfl) λi hi=>?_
 by_cases h:i<l.length
 ·obtain⟨p,hp⟩:=gxE (l:=l) (i:=i) h;have hsc:=hs p (Qc hp);have cd:=nJ hsc.n (hsc.c.mono (by decide) (by decide));refine Ui [.t (by simp;omega),.x (Si hp),.k cd] rfl ?_;exact rd (i+1) (by omega) h (by rw[OS hp];rfl)
 ·obtain rfl:i=l.length:=by omega
  rw[Q7];exact Ul [] [0] [.f (by simp)] rfl
theorem Qfh{E:Es}{b:Int}(h:EOk b E){n d:Int}(hn:n=E.M.length)(hd:d=Ix E.M):pD 11 [.one (.ow 0 0)] E [.agg [.int .i64 (n*n*d),.int .i64 (n*n*d),.int .i64 (2*(n*n*n*d)+n*n*d),.int .i64 (2*(n*n*n*n*d)),.int .i64 (2*(n*n*n*d)+4*(n*n*n*n*d))]] E:=by
 have hl6:=h.m.m.ln;have hb:=jL h.m.m.sc E.M.length;rw[Q7]at hb;have c1:=Qvb (np:=E.np) (nd:=E.nd) (l:=E.M);have c2:=Qva (np:=E.np) (nd:=E.nd) h.m.m.sc (by omega);rw[<-hn]at c1;rw[<-hd]at c2 hb;have hn6:0<=n/\n<=6:=by omega
 have m2:0<=n*n/\n*n<=36:=⟨Vu hn6.1 hn6.1,by have:=Vs hn6.2 hn6.2 hn6.1 (by decide);omega⟩;have m3:0<=n*n*n/\n*n*n<=216:=⟨Vu m2.1 hn6.1,by have:=Vs m2.2 hn6.2 hn6.1 (by decide);omega⟩;have m4:0<=n*n*n*n/\n*n*n*n<=1296:=⟨Vu m3.1 hn6.1,by have:=Vs m3.2 hn6.2 hn6.1 (by decide);omega⟩;have d2:0<=n*n*d/\n*n*d<=72:=⟨Vu m2.1 hb.1,by have:=Vs m2.2 hb.2 hb.1 (by decide);omega⟩;have d3:0<=n*n*n*d/\n*n*n*d<=432:=⟨Vu m3.1 hb.1,by have:=Vs m3.2 hb.2 hb.1 (by decide);omega⟩;have d4:0<=n*n*n*n*d/\n*n*n*n*d<=2592:=⟨Vu m4.1 hb.1,by have:=Vs m4.2 hb.2 hb.1 (by decide);omega⟩;refine Fz func11 rfl ?_;exact Ul [] [0,1,2,3,4,5,6] [.lo,.c [1] c1,.lo,.c [1] c2] rfl (by simp only[U5];omega)
def vI(z:RawInt):Int:=Fc z.b (val z.l)
def RawInt.cutN(z:RawInt)(n:Nat):RawInt:=⟨z.b,z.l.take n⟩
theorem RawInt.Ok.cutN_ok{z:RawInt}(h:z.Ok)(n:Nat):(z.cutN n).Ok:=⟨λu hu=>h.u u (Qo hu)⟩
theorem YC{z:RawInt}(h:z.Ok):Gi (.bool z.b) (.row (lm z.l)) (vI z):=⟨z.b,z.l,rfl,rfl,h.u,rfl⟩
theorem NH{z:RawInt}(h:z.Ok){n:Nat}(hl:z.l.length<=n):Fg (vI z)<=32*n:=by
 have h1:=Bu z.l h.u;have e:(vI z).natAbs=val z.l:=by unfold vI Fc;split <;> simp
 refine S6.2 ?_;rw[e,Kv];exact Z9 h1 (Zt (by decide) hl)
theorem XJ(z:RawInt)(n:Nat):(z.cutN n).l.length<=n:=by show(z.l.take n).length<=n;rw[Qr];omega
theorem ME{z:RawInt}{n:Nat}(hn:n<=1000):Un 151 [.agg (Ed z),.oi n] [.agg (Ed (z.cutN n))] :=
 Uk func151 rfl [.k (Qu2 (l:=z.l) hn)] rfl
theorem Qol{t u:RawInt}:Un 97 [.agg (Ed t++Ed u),.oi 6] [.agg (Ed (t.cutN 6)++Ed (u.cutN 6))] :=
 Uk func97 rfl [.k (ME (z:=t) (n:=6) (by decide)),.k (ME (z:=u) (n:=6) (by decide))] rfl
theorem uR{l:List RawInt}:Un 150 [.one (.row (Is l)),.oi 4,.oi 1] [.one (.row (Is ((l.take 4).map (·.cutN 1))))]:=by
 have hll:=O8 l;refine Fz func150 rfl (ln 0 rfl rfl λhzl=>?_);rw[hll]at hzl;refine Uh [.o 7 37 2] rfl ?_;refine Um (S:=Nat) 1 (λL1 i=>(8,.v (.oi i))::(7,.v (.one (.orow 0 2 none)))::L1) (λi=>[.row false 37 2 (Is ((l.take i).map (·.cutN 1)))]) (λi=>4-i) (λi=>i<=4/\i<=l.length) 0 ⟨by decide,Qh _⟩ rfl rfl λi ⟨hi,hi2⟩=>?_
 have hil:(Is ((l.take i).map (·.cutN 1))).length=i:=by rw[O8,Za,Qr];omega
 by_cases h1:i<l.length
 ·by_cases h2:i<4
  ·obtain⟨z,hz⟩:=gxE (l:=l) (i:=i) h1;have hm:∀y∈[Ed (z.cutN 1)],y.length=2:=λy hy=>by rw[Ql.1 hy];rfl
   refine go tt [.g 13 true Up,.T,.x (Hm (f:=Ed) hz),.k (ME (n:=1) (by decide)),.s (sz:=2) hm] rfl (by simp[U5,hil,-List.map_take];omega) ?_;exact rd (i+1) (by omega) ⟨h2,h1⟩ (by rw[Z3,hz];simp[Is];rfl)
  ·have e:i=4:=by omega
   have e2:l.take 4=l.take i:=by rw[e]
   rw[e2];exact Uj [.g 13 true Up,.F] rfl
 ·have e:l.take i=l.take 4:=by rw[Qn (by omega),Qn (by omega)]
  rw[e];exact Uj [.g 13 false Uo,.f rfl] rfl
theorem Qug{z:RawPt}:Un 95 [.agg (rcw z),.oi 4,.oi 1] [.agg [.row (Is ((z.x.take 4).map (·.cutN 1))),.row (Is ((z.y.take 4).map (·.cutN 1))),.bool z.d.b,.row (lm (z.d.l.take 1))]] :=
 Uk func95 rfl [.k (uR (l:=z.x)),.k (uR (l:=z.y)),.k (ME (z:=z.d) (n:=1) (by decide))] rfl
theorem WU:∀{l:List RawInt},(∀z∈l,z.Ok)->IsInts (Is l) (l.map vI)
 | [],_=>trivial
 |z::l,h=>⟨⟨_,_,rfl,YC (h z (Qy ..))⟩,WU λy hy=>h y (Qg _ hy)⟩
theorem OY{x y:LV}{z:Int}(h:Gi x y z)(hl:∀l,y=.row (lm l)->l.length<=1000):Un 67 [.agg [x,y]] [.agg (ri z)]:=by
 obtain⟨b,l,rfl,rfl,hs,rfl⟩:=h;have hl:=hl l rfl;have hv:=Bu l hs;have hsz:sz (val l)<=100000000:=by
  refine Qa ((Nt (k:=32*l.length)).2 ?_) (by omega);rw[Kv];exact hv
 exact Uk func67 rfl [.k (Qnt hs (by omega) hsz),.k (Nv b (val l))] rfl
theorem jW{x y x' y':LV}{a b:Int}(h:Gi x y a)(h':Gi x' y' b)(hl:∀l,y=.row (lm l)->l.length<=1000)(hl':∀l,y'=.row (lm l)->l.length<=1000)(sa:Fg a<=90000000)(sb:Fg b<=90000000):Un 23 [.agg [x,y,x',y']] [.agg (fr (Gn a b))]:=by
 have c1:=OY h hl;have c2:=OY h' hl';have c3:=YU sa sb;obtain⟨b1,l1,rfl,rfl,_⟩:=h;obtain⟨b2,l2,rfl,rfl,_⟩:=h';exact Uk func23 rfl [.k c1,.k c2,.k c3] rfl
theorem Qjr{a b:Us}(h:LV.row (lm a)=.row (lm b)):a.length=b.length:=by
 injection h with h;have:=congrArg List.length h;simpa[lm]using this
theorem Qfp{q:Rat}(hq:Qs 30000 q):Un 23 [.agg (rl q)] [.agg (fr q)]:=by
 have e:Gn q.num (q.den:Int)=q:=by
  unfold Gn;rw[if_neg (by have:=q.den_pos;omega)];exact Z6 q
 have ln:∀{z:Int},Fg z<=30000->∀l,mg z=.row (lm l)->l.length<=1000:=λ{z} hz l h=>by
  have h1:=Ti (x:=z.natAbs) (k:=30000) hz;have:=Qjr h;omega
 have h:=jW (U6 q.num) (U6 (q.den:Int)) (ln hq.1) (ln hq.2) (Qa hq.1 (by decide)) (Qa hq.2 (by decide));rw[e]at h;exact h
theorem Qj8{m b:Nat}(hb:0<b)(h:0<m % b):(-(m:Int)) % (b:Int)=-((m % b:Nat):Int)+(b:Int):=by
 have h1:=Z5 m hb;have h2:=Wi m b;have e:-(m:Int)=(-((m % b:Nat):Int)+(b:Int))+(b:Int)*(-((m / b:Nat):Int)-1):=by
  have:(m:Int)=((m % b:Nat):Int)+(b:Int)*((m / b:Nat):Int):=by
   have:=congrArg (λ(n:Nat)=>(n:Int)) h2
   push_cast at this ⊢
   omega
  rw[Int.mul_sub,V9];omega
 rw[e,Int.add_mul_emod_self_left];exact Int.emod_eq_of_lt (by omega) (by omega)
theorem Qck{a:Int}{b:Nat}(ha:Fg a<=90000000)(hb:Fg (b:Int)<=90000000)(h0:0<b):∃x,Un 98 [.agg (ri a),.agg (ri (b:Int))] [.agg (ri x),.agg (ri (a % (b:Int)))]:=by
 have cd:=mE (x:=a.natAbs) (y:=(b:Int).natAbs) ha hb (by omega);have eb:(b:Int).natAbs=b:=rfl;have sb:sg (b:Int)=.bool false:=by unfold sg;rw[decide_eq_false (by omega)]
 rw[eb]at cd;have hml:=Z5 a.natAbs h0;rcases Kf a 0 with hn|hn
 ·have sa:sg a=.bool true:=by unfold sg;rw[decide_eq_true hn]
  have m1:=Nv true (a.natAbs / b);have m2:=Nv true (a.natAbs % b);have ea:a=-(a.natAbs:Int):=by omega
  by_cases hr:a.natAbs % b=0
  ·have e:a % (b:Int)=0:=by
    rw[ea];exact Jy ((Int.dvd_neg).2 (Int.ofNat_dvd.2 (Nat.dvd_of_mod_eq_zero hr)))
   rw[e];refine⟨Fc true (a.natAbs / b),?_⟩;rw[hr]at m2 cd;rw[show Fc true 0=0 from rfl]at m2;show Un 98 [.agg [nd a.natAbs,sg a],.agg [nd (b:Int).natAbs,sg (b:Int)]] _;rw[sa,sb,eb];exact Uk func98 rfl [.k cd,.k m1,.k m2,.t rfl] rfl
  ·have e:=Qj8 h0 (by omega:0<a.natAbs % b);rw[<-ea]at e;have os:Fc true (a.natAbs % b)=-((a.natAbs % b:Nat):Int):=rfl;have ng:decide (Fc true (a.natAbs % b)<0)=true:=by rw[os];exact decide_eq_true (by omega)
   have hsm:Fg (Fc true (a.natAbs % b))<=200000000:=by
    rw[os,Hp];exact Qa (Rl (Nat.mod_le _ _)) (Qa ha (by decide))
   have hsd:Fg (Fc true (a.natAbs / b))<=200000000:=by
    show Fg (-((a.natAbs / b:Nat):Int))<=_;rw[Hp];exact Qa (Rl (Jr _ _)) (Qa ha (by decide))
   have c1:=ZO (n:=1) (by decide);have c2:=Qgv (a:=Fc true (a.natAbs / b)) (b:=1) hsd (by decide);have c3:=nY (a:=Fc true (a.natAbs % b)) (b:=(b:Int)) hsm (Qa hb (by decide));rw[os,<-e]at c3;rw[os]at m2 ng;refine⟨Fc true (a.natAbs / b)-1,?_⟩;show Un 98 [.agg [nd a.natAbs,sg a],.agg [nd (b:Int).natAbs,sg (b:Int)]] _;have c3':Un 68 [.agg (ri (-((a.natAbs % b:Nat):Int))),.agg [nd b,.bool false]] [.agg (ri (a % (b:Int)))]:=by rw[<-sb];exact c3
   rw[sa,sb,eb];exact Uk func98 rfl [.k cd,.k m1,.k m2,.f (show(!decide (-((a.natAbs % b:Nat):Int)<0))=false by rw[ng];rfl),.f rfl,.k c1,.k c2,.k c3'] rfl
 ·have sa:sg a=.bool false:=by unfold sg;rw[decide_eq_false (by omega)]
  have m1:=Nv false (a.natAbs / b);have m2:=Nv false (a.natAbs % b);have ea:a=(a.natAbs:Int):=by omega
  have e:a % (b:Int)=((a.natAbs % b:Nat):Int):=by rw[ea];rfl
  have os:Fc false (a.natAbs % b)=((a.natAbs % b:Nat):Int):=rfl;have ng:decide (((a.natAbs % b:Nat):Int)<0)=false:=decide_eq_false (by omega);rw[e];rw[os]at m2;refine⟨Fc false (a.natAbs / b),?_⟩;show Un 98 [.agg [nd a.natAbs,sg a],.agg [nd (b:Int).natAbs,sg (b:Int)]] _;rw[sa,sb,eb];exact Uk func98 rfl [.k cd,.k m1,.k m2,.t (show(!decide (((a.natAbs % b:Nat):Int)<0))=true by rw[ng];rfl)] rfl
def PR(x:Rat):Rat:=Gn (x.num % (x.den:Int)) (x.den:Int)
theorem Qa1{x:Rat}(h:Qs 128 x):Qs 128 (PR x):=by
 have h0:=x.den_pos;have h1:=Yf x.num (b:=(x.den:Int)) (by omega);have h2:=Jt x.num (b:=(x.den:Int)) (by omega);unfold PR Gn;rw[if_neg (by omega)];refine⟨Pk (Qa (Rl (by omega)) h.2),Pj h.2 (by decide)⟩
theorem Qoq{x y x' y':LV}{a b:Int}(h:Gi x y a)(h':Gi x' y' b)(hl:∀l,y=.row (lm l)->l.length<=1000)(hl':∀l,y'=.row (lm l)->l.length<=1000)(sa:Fg a<=90000000)(sb:Fg b<=90000000)(hq:Qs 128 (Gn a b)):Un 48 [.agg [x,y,x',y']] [.agg (rl (PR (Gn a b)))]:=by
 have c1:=jW h h' hl hl' sa sb;obtain⟨q,hqe⟩:=nmE (Gn a b);rw[<-hqe]at c1 hq ⊢;have c2:=uF (q:=q) (hq.mono (by decide));obtain⟨z,c3⟩:=Qck (a:=q.num) (b:=q.den) (Qa hq.1 (by decide)) (Qa hq.2 (by decide)) q.den_pos;have h2:=Jt q.num (b:=(q.den:Int)) (by have:=q.den_pos;omega);have h1:=Yf q.num (b:=(q.den:Int)) (by have:=q.den_pos;omega);have c4:=YU (a:=q.num % (q.den:Int)) (b:=(q.den:Int)) (Qa (Rl (by omega)) (Qa hq.2 (by decide))) (Qa hq.2 (by decide));have c5:=uF (q:=PR q) ((Qa1 hq).mono (by decide));have l1:=ZD.2 hq.1;have l2:(Gg q.den).length<=4:=by simpa using ZD.2 hq.2
 obtain⟨b1,r1,rfl,rfl,_⟩:=h;obtain⟨b2,r2,rfl,rfl,_⟩:=h';exact Uk func48 rfl [.k c1,.k c2,.f (by simp[wR];omega),.f (by simp[wR];omega),.k c3,.k c4,.k c5] rfl
theorem Qop{x y x' y':LV}{a b:Int}(h:Gi x y a)(h':Gi x' y' b)(hl:∀l,y=.row (lm l)->l.length<=1000)(hl':∀l,y'=.row (lm l)->l.length<=1000)(sa:Fg a<=32000)(sb:Fg b<=32000)(hq:¬Qs 128 (Gn a b)):Un 48 [.agg [x,y,x',y']] [.agg [x,y,x',y']]:=by
 have c1:=jW h h' hl hl' (Qa sa (by decide)) (Qa sb (by decide));have hs:Qs 32000 (Gn a b):=by
  unfold Gn
  split
  ·exact⟨Pk sa,Pj (by decide) (by decide)⟩
  ·exact⟨Pk sa,Pj sb (by decide)⟩
 obtain⟨q,hqe⟩:=nmE (Gn a b);rw[<-hqe]at c1 hq hs;have c2:=uF (q:=q) (hs.mono (by decide));obtain⟨b1,r1,rfl,rfl,_⟩:=h;obtain⟨b2,r2,rfl,rfl,_⟩:=h';by_cases h1:Fg q.num<=128
 ·have h2:¬Fg (q.den:Int)<=128:=λh=>hq ⟨h1,h⟩
  have l1:=ZD.2 h1;have l2:¬(Gg q.den).length<=4:=by simpa using mt ZD.1 h2
  exact Uk func48 rfl [.k c1,.k c2,.f (by simp[wR];omega),.t (by simp[wR];omega)] rfl
 ·have l1:=mt ZD.1 h1;exact Uk func48 rfl [.k c1,.k c2,.t (by simp[wR];omega),.t rfl] rfl
theorem XB(a:Int):∀i,Fg (a^i)<=Fg a*i+1
 | 0=>by rw[W4];show Fg 1<=_;exact Qa (by decide) (Wh 1 _)
 |
  i+1=>by
  rw[W3];have h1:=Gf (a^i) a;have h2:=XB a i;rw[W8];omega
theorem Qf8{a:Int}{n:Nat}(ha:Fg a<=1000)(hn:n<=256):Un 133 [.agg (Hg a),.oi n] [.agg (Hg (a^n))]:=by
 refine Fz func133 rfl ?_;refine Uh [.k (BI (z:=1) (by decide)),.r 8 (v:=.oi n) (by simp;omega),.r 9 (v:=.oi n) (by simp)] rfl ?_;refine lp (S:=Nat) 3 (λL1 i=>(10,.v (.oi i))::L1) (λi=>[.blk 37 (Hg a),.blk 37 [.bool false,.nils],.blk 37 (Hg (a^i))]) (λi=>n-i) (λi=>i<=n) 0 (Qh _) rfl (λ_ _=>rfl) (by rw[W4];rfl) λi hi=>?_
 by_cases h:i<n
 ·have h1:=XB a i;have h2:Fg a*i<=1000*256:=Q8 ha (by omega);have cm:=P8 (U6 (a^i)) (U6 a) (by omega) (by omega);rw[<-W3]at cm;refine Ui [.t (by simp;omega),.k cm] rfl ?_;exact rd (i+1) (by omega) h rfl
 ·obtain rfl:i=n:=by omega
  exact Uj [.f (by simp)] rfl
def Rx(n d:Int):Uq->Uq×Int
 | []=>([],1)
 |x::l=>(A7 (Gl (Rx n d l).1 [n,d]) [x*(Rx n d l).2],(Rx n d l).2*d)
theorem cK(n d:Int):∀l,Fe (Rx n d l).1
 | []=>rfl
 |_::_=>Fy _ _
theorem mK{n d:Int}(hn:Fg n<=130)(hd:Fg d<=130):Bd 130 [n,d]:=λz hz=>by
 rcases Qm.1 hz with rfl|hz
 ·exact hn
 ·rw[Ql.1 hz];exact hd
theorem FO{n d:Int}(hn:Fg n<=130)(hd:Fg d<=130){s:Nat}:∀{l:Uq},Bd s l->l.length<=8->Bd (s+140*l.length) (Rx n d l).1/\(Rx n d l).1.length<=l.length/\Fg (Rx n d l).2<=130*l.length+1
 | [],_,_=>⟨KR,Qk _,by show Fg 1<=_;exact Qa (by decide) (Wh 1 _)⟩
 |
  x::l,h,hl=>by
  rw[Q3]at hl ⊢;obtain⟨h1,h2,h3⟩:=FO hn hd (λz hz=>h z (Qg _ hz)) (by omega:l.length<=8);have hx:=h x (Qy ..);have b1:=Pp (u:=4) h1 (mK hn hd) (by omega);have b2:Bd (s+(130*l.length+1)) [x*(Rx n d l).2]:=λz hz=>by
   rw[Ql.1 hz];have:=Gf x (Rx n d l).2;omega
  refine⟨U7 (YY b1 b2) (by omega),?_,?_⟩
  ·have h4:=Lj (Gl (Rx n d l).1 [n,d]) [x*(Rx n d l).2];have h5:=H9 (Rx n d l).1 [n,d];simp only[Q3,Ji]at h4 h5;show(A7 _ _).length<=_;omega
  ·have:=Gf (Rx n d l).2 d;show Fg ((Rx n d l).2*d)<=_;omega
theorem Qc3{a:Uq}{j:Nat}{x:Int}(h:a[j]? = some x):a.drop j=x::a.drop (j+1):=by
 obtain⟨h1,h2⟩:=Qf.1 h;rw[Zq h1,h2]
theorem Qfy{a:Uq}{n d:Int}{s:Nat}(ta:Fe a)(ha:Bd s a)(hs:s<=1000)(hl:a.length<=8)(hn:Fg n<=130)(hd:Fg d<=130)(h0:d≠0):Un 130 [pr a,.agg (Hg n),.agg (Hg d)] [pr (Rx n d a).1,.oi 0]:=by
 have nn:=M4 (U6 n) (by omega);have nd:=M4 (U6 d) (by omega);have cn:=Hu (p:=a) ta (by omega) (U7 ha (by omega));have td:Fe [n,d]:=by simp[Fe,trim,h0]
 refine Fz func130 rfl ?_;refine Ui [.k nd,.k (Dl (z:=d)),.f (by simpa using h0),.k cn,.z 8,.k nn,.k nd,.k (BI (z:=1) (by decide)),.r 25 (eI (b:=(a.length:Int)-1) (by simp))] rfl ?_;refine lp (S:=Nat) 3 (λL1 j=>(11,.v (.oi ((j:Int)-1)))::(8,.v (pr (Rx n d (a.drop j)).1))::L1) (λj=>[.blk 37 (Hg n),.blk 37 (Hg d),.blk 37 (Hg (Rx n d (a.drop j)).2)]) (λj=>j) (λj=>j<=a.length) a.length (Qk _) rfl (λ_ _=>rfl) (by rw[Yu];rfl) λj hj=>?_
 cases j with
 |zero=>exact Uj [.f (by simp)] rfl
 |
  succ j =>
  obtain⟨x,hx⟩:=gxE (l:=a) (i:=j) (by omega);obtain⟨b1,b2,b3⟩:=FO hn hd (l:=a.drop (j+1)) (λz hz=>ha z (Qz hz)) (by rw[Q9];omega);have hdl:(a.drop (j+1)).length<=8:=by rw[Q9];omega
  have e:Rx n d (a.drop j)=(A7 (Gl (Rx n d (a.drop (j+1))).1 [n,d]) [x*(Rx n d (a.drop (j+1))).2],(Rx n d (a.drop (j+1))).2*d):=by rw[Qc3 hx];rfl
  have e1:(Rx n d (a.drop j)).1=A7 (Gl (Rx n d (a.drop (j+1))).1 [n,d]) [x*(Rx n d (a.drop (j+1))).2]:=by rw[e]
  have e2:(Rx n d (a.drop j)).2=(Rx n d (a.drop (j+1))).2*d:=by rw[e]
  have tm:=cK n d (a.drop (j+1));obtain⟨P,hP⟩:=nmE ((Rx n d (a.drop (j+1))).1);obtain⟨W,hW⟩:=nmE ((Rx n d (a.drop (j+1))).2);rw[<-hP,<-hW]at e1;rw[<-hW]at e2;rw[<-hP]at b1 b2 tm;rw[<-hW]at b3;have hxs:=ha x (Qc hx);have c1:=KC tm td (by omega) (by show 2<137438953472;decide) b1 (mK hn hd) (by omega);have c2:=P8 (U6 x) (U6 W) (by omega) (by omega);have bm:=Pp (u:=4) b1 (mK hn hd) (by omega);have hm:=Gf x W;have hlm:=H9 P [n,d];simp only[Q3,Ji]at hlm;have c3:=BO (p:=Gl P [n,d]) (q:=[x*W]) (by omega) (by show 1<274877906944;decide) (U7 bm (by omega)) (λz hz=>by rw[Ql.1 hz];omega);rw[<-e1]at c3;have c4:=P8 (U6 W) (U6 d) (by omega) (by omega);rw[<-e2]at c4;rw[show((j+1:Nat):Int)-1=(j:Int) by omega,<-hP,<-hW];refine Ui [.t (by simp),.k c1,.x (Pv hx),.k c2,.k c3,.k c4] rfl ?_;exact rd j (by omega) (by omega) rfl
def sK(px py:Uq)(q:Rat):Crv:=⟨Fv (Rx (-q).num ((-q).den:Int) (trim px)).1 (((-q).den:Int)^(max ((trim px).length-1) ((trim py).length-1)-((trim px).length-1))),Fv (Rx (-q).num ((-q).den:Int) (trim py)).1 (((-q).den:Int)^(max ((trim px).length-1) ((trim py).length-1)-((trim py).length-1))),((-q).den:Int)^(max ((trim px).length-1) ((trim py).length-1))⟩
theorem Qgc{lx ly:Uw}{px py:Uq}{q:Rat}{s:Nat}(hx:IsInts lx px)(hy:IsInts ly py)(hq:Qs 128 q)(bx:Bd s px)(by_:Bd s py)(hs:s<=1000)(llx:px.length<=8)(lly:py.length<=8) :
 Cs 4294967294 1073741824 (sK px py q)/\Un 77 [.one (.row lx),.one (.row ly),.agg (rl q)] [.agg (cl (Crv.norm (sK px py q)))]:=by
 have cx:=Cf hx (by omega) (U7 bx (by omega));have cy:=Cf hy (by omega) (U7 by_ (by omega));have cg:=Qha (q:=q) (hq.mono (by decide));have hnq:Qs 128 (-q):=by
  refine⟨?_,?_⟩
  ·rw[Rat.neg_num,Hp];exact hq.1
  ·rw[Rat.neg_den];exact hq.2
 have hX:Bd s (trim px):=Tz bx;have hY:Bd s (trim py):=Tz by_;have lX:(trim px).length<=8:=Qa (Re px) llx;have lY:(trim py).length<=8:=Qa (Re py) lly;have h0:((-q).den:Int)≠0:=by have:=(-q).den_pos;omega
 have hn1:Fg (-q).num<=130:=Qa hnq.1 (by decide);have hd1:Fg ((-q).den:Int)<=130:=Qa hnq.2 (by decide);have m1:=Qfy (Rv px) hX hs (by omega) hn1 hd1 h0;have m2:=Qfy (Rv py) hY hs (by omega) hn1 hd1 h0;obtain⟨p1,p2,_⟩:=FO hn1 hd1 hX (by omega);obtain⟨q1,q2,_⟩:=FO hn1 hd1 hY (by omega);unfold sK;obtain⟨D,hD⟩:=nmE (((-q).den:Int));obtain⟨N,hN⟩:=nmE ((-q).num);have hgl:rl (-q)=[sg N,mg N,sg D,mg D]:=by rw[hN,hD]
 rw[hgl]at cg;rw[<-hD,<-hN]at m1 m2 p1 p2 q1 q2 ⊢;rw[<-hD]at hd1;obtain⟨X,hXe⟩:=nmE (trim px);obtain⟨Y,hYe⟩:=nmE (trim py);rw[<-hXe]at cx hX lX m1 p1 p2 ⊢;rw[<-hYe]at cy hY lY m2 q1 q2 ⊢;obtain⟨a,ha⟩:=nmE (X.length-1);obtain⟨b,hb⟩:=nmE (Y.length-1);rw[<-ha,<-hb];obtain⟨k,hk⟩:=nmE (max a b);rw[<-hk];have w1:=Qf8 (a:=D) (n:=k-a) (by omega) (by omega);have w2:=Qf8 (a:=D) (n:=k-b) (by omega) (by omega);have w3:=Qf8 (a:=D) (n:=k) (by omega) (by omega);have z1:=XB D (k-a);have z2:=XB D (k-b);have z3:=XB D k;have y1:Fg D*(k-a)<=130*8:=Q8 hd1 (by omega);have y2:Fg D*(k-b)<=130*8:=Q8 hd1 (by omega);have y3:Fg D*k<=130*8:=Q8 hd1 (by omega);have s1:=Pw (p:=(Rx N D X).1) (c:=D^(k-a)) (by omega) (U7 p1 (by omega)) (by omega);have s2:=Pw (p:=(Rx N D Y).1) (c:=D^(k-b)) (by omega) (U7 q1 (by omega)) (by omega);have e1:=Gj p1 (c:=D^(k-a)) (Qk _);have e2:=Gj q1 (c:=D^(k-b)) (Qk _);have f1:=Fp (Rx N D X).1 (D^(k-a));have f2:=Fp (Rx N D Y).1 (D^(k-b));have hcs:Cs 4294967294 1073741824 ⟨Fv (Rx N D X).1 (D^(k-a)),Fv (Rx N D Y).1 (D^(k-b)),D^k⟩:=⟨U7 e1 (by omega),U7 e2 (by omega),by show Fg (D^k)<=_;omega,by show(Fv _ _).length<=_;omega,by show(Fv _ _).length<=_;omega⟩;refine⟨hcs,?_⟩;have cn:=ML (Gt _) (Gt _) (U6 _) hcs;have ek:((max a b:Nat):Int)=(k:Int):=by rw[hk]
 exact Uk func77 rfl [.k cx,.k cy,.k cg,.k m1,.k m2,.k (Me X),.r 40 (eI (b:=(a:Int)) (by omega)),.k (Me Y),.r 43 (eI (b:=(b:Int)) (by omega)),.r 46 (eI (b:=(k:Int)) (by omega)),.r 52 (eI (b:=((k-a:Nat):Int)) (by omega)),.k w1,.k s1,.r 60 (eI (b:=((k-b:Nat):Int)) (by omega)),.k w2,.k s2,.k w3,.k cn] rfl rfl (by simp[U5];omega)
theorem Qvo{E:Es}{b:Int}(h:EOk b E){lx ly:Uw}{px py:Uq}{s:Nat}{id:Int}(hx:IsInts lx px)(hy:IsInts ly py)(bx:Bd s px)(by_:Bd s py)(hs:s<=1000)(llx:px.length<=8)(lly:py.length<=8) :
 ∃E',EOk b E'/\E'.m=(E.m.rep ⟨Crv.norm (sK px py E.q),id⟩).1/\pD 29 [.one (.ow 0 0),.oi id,.one (.row lx),.one (.row ly)] E [.one (.int .i64 (E.m.rep ⟨Crv.norm (sK px py E.q),id⟩).2)] E':=by
 obtain⟨hc,cr⟩:=Qgc hx hy h.q bx by_ hs llx lly;have hcn:=hc.norm (by omega);have hnm:=Crv.nml (sK px py E.q);obtain⟨C,hC⟩:=nmE (Crv.norm (sK px py E.q));rw[<-hC]at cr hcn hnm ⊢;obtain⟨E',h1,h2,h3⟩:=fM h (id:=id) (Gt C.x) (Gt C.y) (U6 C.d) hcn;have eC:Crv.norm (Crv.mk C.x C.y C.d)=C:=Crv.norm_of hnm;rw[eC]at h2 h3;refine⟨E',h1,h2,?_⟩;refine Fz func29 rfl ?_;exact Ul [] [0,1,2,3,4,5,6] [.k cr,.c Uz h3] rfl
end Orr
namespace Orr
open Go
structure RawOp where
 k:Int
 n:Int
 d:Int
 p:RawPt
 t:RawInt
 u:RawInt
structure RawOp.Ok(o:RawOp):Prop where
 k:-9223372036854775808<=o.k/\o.k<=9223372036854775807
 n:-9223372036854775808<=o.n/\o.n<=9223372036854775807
 d:-9223372036854775808<=o.d/\o.d<=9223372036854775807
 p:o.p.Ok
 t:o.t.Ok
 u:o.u.Ok
abbrev rwo(o:RawOp):Uv:=[.int .i64 o.k,.int .i64 o.n,.int .i64 o.d]++rwq o.p++Ed o.t++Ed o.u
def zK(l:List RawOp):Uw:=l.map rwo
theorem Qdx(l:List RawOp):(zK l).length=l.length:=by simp[zK]
theorem YO{l:List RawOp}{i:Nat}{o:RawOp}(h:l[i]? = some o):(zK l)[i]? = some (rwo o):=by rw[zK,Zb,h];rfl
end Orr
namespace Orr
open Go Go.Proofs Tryz Orq
set_option maxRecDepth 10000
def On(N:Int):Int:=if N=2 then 999 else if N=3 then 99 else 20
theorem rP(N:Int):0<=On N/\On N<=999:=by unfold On;split;decide;split;decide;decide
def UI(N:Int)(z:RawPt):Crv:=if 1<N then ⟨Gu (On N) z.x++(if 3<z.x.length then [1]else []),Gu (On N) z.y,H8 3 z.d⟩else ⟨((z.x.take 4).map (·.cutN 1)).map vI,((z.y.take 4).map (·.cutN 1)).map vI,vI (z.d.cutN 1)⟩
theorem Qk6{l:List RawInt}(h:∀a∈l,a.Ok):∀z∈(l.take 4).map (·.cutN 1),z.Ok:=λz hz=>by
 obtain⟨y,hy,rfl⟩:=Q6.1 hz;exact(h y (Qo hy)).cutN_ok 1
theorem Qk5{l:List RawInt}(h:∀a∈l,a.Ok):Bd 40 (((l.take 4).map (·.cutN 1)).map vI):=λz hz=>by
 obtain⟨y,hy,rfl⟩:=Q6.1 hz;obtain⟨x,hx,rfl⟩:=Q6.1 hy;exact Qa (NH ((h x (Qo hx)).cutN_ok 1) (XJ x 1)) (by decide)
theorem Qo4{N:Int}{z:RawPt}(hz:z.Ok):Cs 40 4 (UI N z):=by
 unfold UI
 split
 ·have h:=Qcx (rP N) z.x z.y z.d;refine⟨λy hy=>?_,U7 h.y (by decide),Qa h.d (by decide),?_,Qa h.ly (by decide)⟩
  ·rcases Qq.1 hy with hy|hy
   ·exact Qa (h.x y hy) (by decide)
   ·split at hy
    ·rw[Ql.1 hy];decide
    ·cases hy
  ·have:=h.lx;have h2:(Gu (On N) z.x).length<=3:=this;show(_++_:Uq).length<=4;rw[Qu]
   split <;> simp <;> omega
 ·exact⟨Qk5 hz.x,Qk5 hz.y,Qa (NH (hz.d.cutN_ok 1) (XJ z.d 1)) (by decide),by show(List.map _ _).length<=4;rw[Za,Za,Qr];omega,by show(List.map _ _).length<=4;rw[Za,Za,Qr];omega⟩
def pB(o:RawOp):Int:=if Tl o.k 12<10 then Tl o.p.id 6 else o.p.id
abbrev Qvh(o:RawOp)(lx ly:Uw)(bb:Bool)(l3:Uw):Uv:=[.int .i64 o.k,.int .i64 o.n,.int .i64 o.d,.row lx,.row ly,.bool bb,.row l3,.int .i64 (pB o)]++Ed (o.t.cutN 6)++Ed (o.u.cutN 6)
abbrev Qaj(ms:Uv)(N:Int):Uv:=[.ow 0 0,.sh ms,.int .i64 N]
theorem yE{most:Int}{l:List RawInt}(h:3<l.length):(Gu most l).length=3:=by unfold Gu;rw[List.length_map,List.length_take];omega
abbrev Qtf:Uv:=[.bool false,.row [[.int .u32 1]]]
theorem bM{p:Uq}:IsInts (p.map Hg++[Qtf]) (p++[1]):=(Gt p).append ⟨⟨_,_,rfl,false,[1],rfl,rfl,(λx hx=>by rw[Ql.1 hx];decide),rfl⟩,trivial⟩
theorem Qca{z:RawPt}(hz:z.Ok){most:Int}(hm:0<=most/\most<=999):U8 prog 96 [.agg (rcw z),.oi most] [] [.agg [.orow 0 2 none,.row (Ap (Gu most z.y)),sg (H8 3 z.d),mg (H8 3 z.d)]] [.row false 37 2 (Ap (Gu most z.x))]:=by
 have hxl:=O8 z.x;have hyl:=O8 z.y;obtain⟨D,hD⟩:=nmE (H8 3 z.d);have cd:=UB hz.d (most:=3) (by decide);have hx0:∀{i:Nat},z.x.length<=i\/3<=i->Gu most (z.x.take i)=Gu most z.x:=PU most;have hy0:∀{i:Nat},z.y.length<=i\/3<=i->Gu most (z.y.take i)=Gu most z.y:=PU most;rw[<-hD]at cd ⊢;refine Fz func96 rfl ?_;refine Uh [.k cd] rfl ?_;refine oz2 5 0 37 2 rfl rfl ?_;refine Um (S:=Nat) 4 (λL1 i=>(6,.v (.oi i))::L1) (λi=>[.blk 39 (rcw z),.blk 39 [.nils,.nils,.bool false,.nils],.blk 39 [.orow 3 2 none,.nils,sg D,mg D],.row false 37 2 (Ap (Gu most (z.x.take i)))]) (λi=>3-i) (λi=>i<=3/\i<=z.x.length) 0 ⟨by decide,Qh _⟩ rfl rfl λi ⟨hi,hi2⟩=>?_
 have hll:=yL (most:=most) hi hi2;by_cases hr:i<z.x.length/\i<3
 ·obtain⟨a,ha⟩:=gxE (l:=z.x) (i:=i) hr.1;have hs:∀y∈[Hg (H8 most a)],y.length=2:=λy hy=>by rw[Ql.1 hy];rfl
  refine go tt [.g 17 true Up,.T,.x (Hm (f:=Ed) ha),.k (UB (hz.x a (Qc ha)) hm),.s (sz:=2) hs] rfl (by simp[U5,hll];omega) ?_;exact rd (i+1) (by omega) ⟨hr.2,hr.1⟩ (by rw[TS hr.2 ha];rfl)
 have hg1:decide ((i:Int)<((Is z.x).length:Int))=true->i<z.x.length:=λh=>by have:=of_decide_eq_true h;omega
 rw[hx0 (by omega)];clear hll;have hfin:∀{j:Nat},j<=3/\j<=z.y.length->¬(j<z.y.length/\j<3)->Ap (Gu most (z.y.take j))=Ap (Gu most z.y):=λh1 h2=>by rw[hy0 (by omega)]
 by_cases hxx:i<z.x.length
 ·refine Uh [.g 17 true Up,.F] rfl ?_;refine oz2 5 1 37 2 rfl rfl ?_;refine Um (S:=Nat) 5 (λL1 j=>(7,.v (.oi j))::L1) (λj=>[.blk 39 (rcw z),.blk 39 [.nils,.nils,.bool false,.nils],.blk 39 [.orow 3 2 none,.orow 4 2 none,sg D,mg D],.row false 37 2 (Ap (Gu most z.x)),.row false 37 2 (Ap (Gu most (z.y.take j)))]) (λj=>3-j) (λj=>j<=3/\j<=z.y.length) 0 ⟨by decide,Qh _⟩ rfl rfl λj ⟨hj,hj2⟩=>?_
  have hll:=yL (most:=most) hj hj2;by_cases hr:j<z.y.length/\j<3
  ·obtain⟨a,ha⟩:=gxE (l:=z.y) (i:=j) hr.1;have hs:∀y∈[Hg (H8 most a)],y.length=2:=λy hy=>by rw[Ql.1 hy];rfl
   refine go tt [.g 40 true Up,.T,.x (Hm (f:=Ed) ha),.k (UB (hz.y a (Qc ha)) hm),.s (sz:=2) hs] rfl (by simp[U5,hll];omega) ?_;exact rd (j+1) (by omega) ⟨hr.2,hr.1⟩ (by rw[TS hr.2 ha];rfl)
  rw[hfin ⟨hj,hj2⟩ hr];by_cases hyy:j<z.y.length
  ·exact Ul [4] [3] [.g 40 true Up,.F] rfl
  ·exact Ul [4] [3] [.g 40 false Uo,.f rfl] rfl
 ·refine Uh [.g 17 false Uo,.f rfl] rfl ?_;refine oz2 5 1 37 2 rfl rfl ?_;refine Um (S:=Nat) 5 (λL1 j=>(7,.v (.oi j))::L1) (λj=>[.blk 39 (rcw z),.blk 39 [.nils,.nils,.bool false,.nils],.blk 39 [.orow 3 2 none,.orow 4 2 none,sg D,mg D],.row false 37 2 (Ap (Gu most z.x)),.row false 37 2 (Ap (Gu most (z.y.take j)))]) (λj=>3-j) (λj=>j<=3/\j<=z.y.length) 0 ⟨by decide,Qh _⟩ rfl rfl λj ⟨hj,hj2⟩=>?_
  have hll:=yL (most:=most) hj hj2;by_cases hr:j<z.y.length/\j<3
  ·obtain⟨a,ha⟩:=gxE (l:=z.y) (i:=j) hr.1;have hs:∀y∈[Hg (H8 most a)],y.length=2:=λy hy=>by rw[Ql.1 hy];rfl
   refine go tt [.g 40 true Up,.T,.x (Hm (f:=Ed) ha),.k (UB (hz.y a (Qc ha)) hm),.s (sz:=2) hs] rfl (by simp[U5,hll];omega) ?_;exact rd (j+1) (by omega) ⟨hr.2,hr.1⟩ (by rw[TS hr.2 ha];rfl)
  rw[hfin ⟨hj,hj2⟩ hr];by_cases hyy:j<z.y.length
  ·exact Ul [4] [3] [.g 40 true Up,.F] rfl
  ·exact Ul [4] [3] [.g 40 false Uo,.f rfl] rfl
set_option maxHeartbeats 4000000 in
theorem Qut{E:Es}{N:Int}{o:RawOp}{ms:Uv}(hN:1<=N/\N<=4)(ho:o.Ok):∃lx ly bb l3,IsInts lx (UI N o.p).x/\IsInts ly (UI N o.p).y/\Gi (.bool bb) (.row l3) (UI N o.p).d /\
 U8 prog 45 [.agg (Qaj ms N),.agg (rwo o)] (enB 0 E) [.agg (Qvh o lx ly bb l3)] (enB 0 E):=by
 have c4:=Qug (z:=o.p);have wk:=Lb (v:=o.k) (n:=12) ho.k (by decide);have wi:=Lb (v:=o.p.id) (n:=6) ho.p.id (by decide);have cr:=Qol (t:=o.t) (u:=o.u);have cl:=Qca ho.p (most:=On N) (rP N);obtain⟨i,hi⟩:=nmE (pB o);have hln:(Is o.p.x).length=o.p.x.length:=O8 _;unfold Qvh;rw[<-hi];by_cases h1:1<N
 ·have e1:UI N o.p=⟨Gu (On N) o.p.x++(if 3<o.p.x.length then [1]else []),Gu (On N) o.p.y,H8 3 o.p.d⟩:=if_pos h1;rw[e1];dsimp only;obtain⟨X,hX⟩:=nmE (Gu (On N) o.p.x);obtain⟨Y,hY⟩:=nmE (Gu (On N) o.p.y);obtain⟨D,hD⟩:=nmE (H8 3 o.p.d);have hX3:=yE (most:=On N) (l:=o.p.x);rw[<-hX]at hX3;rw[<-hX,<-hY,<-hD]at cl ⊢;have e3:∃k:Nat,(k:Int)=min N 4/\[[LV.int .i64 0],[.int .i64 0],[.int .i64 999],[.int .i64 99],[.int .i64 20]][k]? = some [.int .i64 (On N)]:=by
   rcases(show N=2\/N=3\/N=4 by omega)with rfl|rfl|rfl
   ·exact⟨2,rfl,rfl⟩
   ·exact⟨3,rfl,rfl⟩
   ·exact⟨4,rfl,rfl⟩
  obtain⟨k,k1,k2⟩:=e3;by_cases h3:3<o.p.x.length
  ·rw[if_pos h3];have hX3:=hX3 h3;have hml:(X.map Hg).length=3:=by rw[Za];exact hX3
   refine⟨_,_,_,_,bM,Gt Y,U6 D,?_⟩;refine Fz func45 rfl ?_;refine go tt [.k c4,.t (by simpa using h1),.r 19 (eI k1.symm),.x k2,.c [11] cl,.t (by simp;omega)] rfl (by simp only[U5,zQ];omega) ?_;refine Um (S:=Unit) 12 (λL1 _=>L1) (λ_=>enB 0 E++[.blk 26 (Qaj ms N),.blk 45 (rwo o),.blk 45 [.int .i64 0,.int .i64 0,.int .i64 0,.nils,.nils,.bool false,.nils,.int .i64 0,.bool false,.nils,.bool false,.nils],.blk 39 [.orow 11 2 none,pl Y,sg D,mg D],.row false 37 2 (X.map Hg++[Qtf])]) (λ_=>0) (λ_=>True) () trivial rfl rfl λ_ _=>?_
   by_cases hk:Tl o.k 12<10
   ·rw[hi,show pB o=Tl o.p.id 6 from if_pos hk];exact Ul [11] [0,1,2,3,4,5,6] [.f (by simp;omega),.k wk,.t (by simpa using hk),.k wi,.k cr] rfl
   ·rw[hi,show pB o=o.p.id from if_neg hk];exact Ul [11] [0,1,2,3,4,5,6] [.f (by simp;omega),.k wk,.f (by simpa using hk),.k cr] rfl
  ·rw[if_neg h3,Zv];refine⟨_,_,_,_,Gt X,Gt Y,U6 D,?_⟩;refine Fz func45 rfl ?_;by_cases hk:Tl o.k 12<10
   ·rw[hi,show pB o=Tl o.p.id 6 from if_pos hk];exact Ul [11] [0,1,2,3,4,5,6] [.k c4,.t (by simpa using h1),.r 19 (eI k1.symm),.x k2,.c [11] cl,.f (by simp;omega),.k wk,.t (by simpa using hk),.k wi,.k cr] rfl
   ·rw[hi,show pB o=o.p.id from if_neg hk];exact Ul [11] [0,1,2,3,4,5,6] [.k c4,.t (by simpa using h1),.r 19 (eI k1.symm),.x k2,.c [11] cl,.f (by simp;omega),.k wk,.f (by simpa using hk),.k cr] rfl
 ·have e1:UI N o.p=⟨((o.p.x.take 4).map (·.cutN 1)).map vI,((o.p.y.take 4).map (·.cutN 1)).map vI,vI (o.p.d.cutN 1)⟩:=if_neg h1;rw[e1];refine⟨_,_,_,_,WU (Qk6 ho.p.x),WU (Qk6 ho.p.y),YC (ho.p.d.cutN_ok 1),?_⟩;refine Fz func45 rfl ?_;by_cases hk:Tl o.k 12<10
  ·rw[hi,show pB o=Tl o.p.id 6 from if_pos hk];exact Ul [] [0,1,2,3,4,5,6] [.k c4,.f (by simpa using h1),.k wk,.t (by simpa using hk),.k wi,.k cr] rfl
  ·rw[hi,show pB o=o.p.id from if_neg hk];exact Ul [] [0,1,2,3,4,5,6] [.k c4,.f (by simpa using h1),.k wk,.f (by simpa using hk),.k cr] rfl
def I0(o:RawOp)(q:Rat):Rat:=q+Gn (Tl o.n 5-1) (1+Tl o.d 4)
theorem ZH{v n:Int}(h:0<n):0<=Tl v n/\Tl v n<n:=by
 unfold Tl;rw[if_neg (by omega)];exact⟨Yf _ (by omega),Jt _ h⟩
theorem sZ{a b:Int}(ha:-10<=a/\a<=10)(hb:-10<=b/\b<=10):Qs 4 (Gn a b):=by
 have sz4:∀z:Int,-10<=z/\z<=10->Fg z<=4:=λz hz=>by
  have h16:(2:Nat)^4=16:=by decide
  exact S6.2 (by omega)
 unfold Gn
 split
 ·exact⟨Pk (sz4 a ha),Pj (by decide) (by decide)⟩
 ·exact⟨Pk (sz4 a ha),Pj (sz4 b hb) (by decide)⟩
theorem sQ{o:RawOp}{q:Rat}(h:Qs 128 q):Qs 257 (I0 o q):=by
 have h1:=ZH (v:=o.n) (n:=5) (by decide);have h2:=ZH (v:=o.d) (n:=4) (by decide);have:=Qw2 h ((sZ (a:=Tl o.n 5-1) (b:=1+Tl o.d 4) (by omega) (by omega)).mono (by decide));exact this
abbrev enP(E:Es)(ms:Uv)(N:Int)(o:RawOp)(lx ly:Uw)(bb:Bool)(l3:Uw):Ux:=[.blk 88 (nO 0 E.q),tB E.np E.nd E.M,bS E.s E.M E.q,bT E.t E.M E.q,bH E.h E.M E.q,bP E.p E.M E.q,bD E.d E.M E.q,.blk 26 (Qaj ms N),.blk 45 (Qvh o lx ly bb l3)]
set_option maxHeartbeats 4000000 in
theorem Qom{E:Es}{N:Int}{o:RawOp}{ms:Uv}{lx ly:Uw}{bb:Bool}{l3:Uw}(ho:o.Ok)(hq:Qs 128 E.q):U8 prog 46 [.one (.ow 7 0),.one (.ow 8 0)] (enP E ms N o lx ly bb l3) [.agg (rl (I0 o E.q))] (enP E ms N o lx ly bb l3):=by
 have wn:=Lb (v:=o.n) (n:=5) ho.n (by decide);have wd:=Lb (v:=o.d) (n:=4) ho.d (by decide);have b1:=ZH (v:=o.n) (n:=5) (by decide);have b2:=ZH (v:=o.d) (n:=4) (by decide);have co:=Qy0 (n:=Tl o.n 5-1) (d:=1+Tl o.d 4) (by omega) (by omega);have cf:=Qfp (q:=E.q) (hq.mono (by decide));have ca:=mM (a:=E.q) (b:=Gn (Tl o.n 5-1) (1+Tl o.d 4)) (hq.mono (by decide)) ((sZ (by omega) (by omega)).mono (by decide));have ct:=uF (q:=I0 o E.q) ((sQ hq).mono (by decide));have cc:=eM (np:=E.np) (nd:=E.nd) (M:=E.M) (s:=E.s) (t:=E.t) (h:=E.h) (p:=E.p) (d:=E.d) hq;refine Fz func46 rfl ?_;exact Ul [] [0,1,2,3,4,5,6,7,8] [.lo,.c Uz cc,.k cf,.k wn,.k wd,.k co,.k ca,.k ct] rfl (by simp[U5];omega)
def MQ(o:RawOp):Rat:=Gn (vI (o.t.cutN 6)) (vI (o.u.cutN 6))
open Classical in
noncomputable def nearT(o:RawOp):Rat:=if Qs 128 (MQ o)then PR (MQ o)else MQ o
noncomputable def aloneF(N:Int)(o:RawOp)(A:Em):Em×Int :=
 if Tl o.k 12<3 then A.ins ⟨Crv.norm (UI N o.p),pB o⟩
 else if Tl o.k 12=3 then A.del (pB o)
 else if Tl o.k 12=4 then A.rep ⟨Crv.norm (UI N o.p),pB o⟩
 else if Tl o.k 12=5 then A.rep ⟨Crv.norm (sK (UI N o.p).x (UI N o.p).y A.q),pB o⟩
 else if Tl o.k 12<9 then A.adv (I0 o A.q)
 else if Tl o.k 12=9 then(A,(A.adv (I0 o A.q)).2)
 else if Tl o.k 12=10 then A.adv (nearT o)
 else(A,(A.adv (nearT o)).2)
theorem Qoo{o:RawOp}(ho:o.Ok):∃x0 x1 x2 x3 n m,Gi x0 x1 n/\Gi x2 x3 m/\Fg n<=4294967295/\Fg m<=4294967295/\Gn n m=nearT o/\Un 48 [.agg (Ed (o.t.cutN 6)++Ed (o.u.cutN 6))] [.agg [x0,x1,x2,x3]]:=by
 have i1:=YC (ho.t.cutN_ok 6);have i2:=YC (ho.u.cutN_ok 6);have s1:=NH (ho.t.cutN_ok 6) (XJ o.t 6);have s2:=NH (ho.u.cutN_ok 6) (XJ o.u 6);have ln:∀(z:RawInt) l,LV.row (lm (z.cutN 6).l)=.row (lm l)->l.length<=1000:=λz l h=>by
  have:=Qjr h;have:=XJ z 6;omega
 by_cases hq:Qs 128 (MQ o)
 ·have e:nearT o=PR (MQ o):=if_pos hq;have hn:=Qa1 hq;rw[e];exact⟨_,_,_,_,_,_,U6 (PR (MQ o)).num,U6 ((PR (MQ o)).den:Int),Qa hn.1 (by decide),Qa hn.2 (by decide),Sx _,Qoq i1 i2 (ln o.t) (ln o.u) (by omega) (by omega) hq⟩
 ·have e:nearT o=MQ o:=if_neg hq;rw[e];exact⟨_,_,_,_,_,_,i1,i2,by omega,by omega,rfl,Qop i1 i2 (ln o.t) (ln o.u) (by omega) (by omega) hq⟩
set_option maxHeartbeats 8000000 in
theorem Qpi{E:Es}{b N:Int}{o:RawOp}{ms:Uv}(h:EOk b E)(hb:b<=900000000000000000)(hN:1<=N/\N<=4)(ho:o.Ok) :
 ∃E',EOk (b+67000000) E'/\E'.m=(aloneF N o E.m).1/\pD 12 [.agg (Qaj ms N),.agg (rwo o)] E [.one (.int .i64 (aloneF N o E.m).2)] E':=by
 obtain⟨lx,ly,bb,l3,i1,i2,i3,cp⟩:=Qut (E:=E) (ms:=ms) hN ho;have wk:=Lb (v:=o.k) (n:=12) ho.k (by decide);have hW:=ZH (v:=o.k) (n:=12) (by decide);have hcs:=Qo4 (N:=N) ho.p;have hk:Cs 4294967294 1073741824 (Crv.mk (UI N o.p).x (UI N o.p).y (UI N o.p).d):=hcs.mono (by decide) (by decide);have cla:=Qom (E:=E) (N:=N) (ms:=ms) (lx:=lx) (ly:=ly) (bb:=bb) (l3:=l3) ho h.q;have hla:=sQ (o:=o) h.q;obtain⟨x0,x1,x2,x3,n,m,n1,n2,n3,n4,n5,cnr⟩:=Qoo ho;have eq_:E.m.q=E.q:=rfl;unfold aloneF;rw[eq_];obtain⟨W,hWe⟩:=nmE (Tl o.k 12);rw[<-hWe]at wk hW ⊢;by_cases w0:W<3
 ·rw[if_pos w0];obtain⟨E',g1,g2,g3⟩:=FY h (id:=pB o) i1 i2 i3 hk;refine⟨E',g1.mono (by omega),g2,?_⟩;refine Fz func12 rfl ?_;exact Ul [] [0,1,2,3,4,5,6] [.c Uz cp,.k wk,.T,.c Uz g3] rfl
 rw[if_neg w0];by_cases w1:W=3
 ·rw[if_pos w1];obtain⟨E',g1,g2,g3⟩:=Qic h (id:=pB o);refine⟨E',g1.mono (by omega),g2,?_⟩;refine Fz func12 rfl ?_;exact Ul [] [0,1,2,3,4,5,6] [.c Uz cp,.k wk,.F,.T,.c Uz g3] rfl
 rw[if_neg w1];by_cases w2:W=4
 ·rw[if_pos w2];obtain⟨E',g1,g2,g3⟩:=fM h (id:=pB o) i1 i2 i3 hk;refine⟨E',g1.mono (by omega),g2,?_⟩;refine Fz func12 rfl ?_;exact Ul [] [0,1,2,3,4,5,6] [.c Uz cp,.k wk,.F,.F,.T,.c Uz g3] rfl
 rw[if_neg w2];by_cases w3:W=5
 ·rw[if_pos w3];obtain⟨E',g1,g2,g3⟩:=Qvo h (id:=pB o) i1 i2 hcs.x hcs.y (by decide) (Qa hcs.lx (by decide)) (Qa hcs.ly (by decide));refine⟨E',g1.mono (by omega),g2,?_⟩;refine Fz func12 rfl ?_;exact Ul [] [0,1,2,3,4,5,6] [.c Uz cp,.k wk,.F,.F,.F,.T,.c Uz g3] rfl
 rw[if_neg w3];by_cases w4:W<9
 ·rw[if_pos w4];obtain⟨E',g1,g2,_,g3⟩:=RD h hb (U6 (I0 o E.q).num) (U6 ((I0 o E.q).den:Int)) (Qa hla.1 (by decide)) (Qa hla.2 (by decide)) (Sx _);refine⟨E',g1,g2,?_⟩;refine Fz func12 rfl ?_;exact Ul [] [0,1,2,3,4,5,6] [.c Uz cp,.k wk,.F,.F,.F,.F,.T,.lo,.c [0,1,2,3,4,5,6,7,8] cla,.c Uz g3] rfl
 rw[if_neg w4];by_cases w5:W=9
 ·rw[if_pos w5];have g3:=yZ h hb (U6 (I0 o E.q).num) (U6 ((I0 o E.q).den:Int)) (Qa hla.1 (by decide)) (Qa hla.2 (by decide)) (Sx _);refine⟨E,h.mono (by omega),rfl,?_⟩;obtain⟨a,ha,hal⟩:∃a,a=E.m.ans (I0 o E.q)/\∃a0 a1 a2 a3 a4,a=[LV.row a0,.row a1,.row a2,.row a3,.row a4]:=⟨_,rfl,by unfold Em.ans;split <;> exact⟨_,_,_,_,_,rfl⟩⟩;rw[<-ha]at g3;obtain⟨a0,a1,a2,a3,a4,rfl⟩:=hal;refine Fz func12 rfl ?_;exact Ul [] [0,1,2,3,4,5,6] [.c Uz cp,.k wk,.F,.F,.F,.F,.F,.T,.lo,.c [0,1,2,3,4,5,6,7,8] cla,.c Uz g3] rfl
 rw[if_neg w5];by_cases w6:W=10
 ·rw[if_pos w6];obtain⟨E',g1,g2,_,g3⟩:=RD h hb n1 n2 n3 n4 n5;refine⟨E',g1,g2,?_⟩;obtain⟨b1,r1,rfl,rfl,_⟩:=n1;obtain⟨b2,r2,rfl,rfl,_⟩:=n2;refine Fz func12 rfl ?_;exact Ul [] [0,1,2,3,4,5,6] [.c Uz cp,.k wk,.F,.F,.F,.F,.F,.F,.T,.k cnr,.c Uz g3] rfl
 ·rw[if_neg w6];have g3:=yZ h hb n1 n2 n3 n4 n5;refine⟨E,h.mono (by omega),rfl,?_⟩;obtain⟨b1,r1,rfl,rfl,_⟩:=n1;obtain⟨b2,r2,rfl,rfl,_⟩:=n2;obtain⟨a,ha,hal⟩:∃a,a=E.m.ans (nearT o)/\∃a0 a1 a2 a3 a4,a=[LV.row a0,.row a1,.row a2,.row a3,.row a4]:=⟨_,rfl,by unfold Em.ans;split <;> exact⟨_,_,_,_,_,rfl⟩⟩;rw[<-ha]at g3;obtain⟨a0,a1,a2,a3,a4,rfl⟩:=hal;refine Fz func12 rfl ?_;exact Ul [] [0,1,2,3,4,5,6] [.c Uz cp,.k wk,.F,.F,.F,.F,.F,.F,.F,.k cnr,.c Uz g3] rfl
end Orr
namespace Orr
open Go Go.Proofs Tryz Orq
set_option maxRecDepth 10000
theorem Qbs{N:Int}{o:RawOp}{A:Em}(h:(aloneF N o A).2≠0):(aloneF N o A).1=A:=by
 have hi:∀p,(A.ins p).2≠0->(A.ins p).1=A:=λp h=>if_neg h
 have hr:∀p,(A.rep p).2≠0->(A.rep p).1=A:=λp h=>if_neg h
 have hd:∀id,(A.del id).2≠0->(A.del id).1=A:=λid h=>by
  unfold Em.del at h ⊢;by_cases e:has A.M id=true
  ·rw[if_pos e]at h;exact absurd rfl h
  ·rw[if_neg e]
 have ha:∀t,(A.adv t).2≠0->(A.adv t).1=A:=λt h=>by
  unfold Em.adv at h ⊢;by_cases a:Qs 128 t
  ·rw[if_pos a]at h ⊢;by_cases b:t<A.q
   ·rw[if_pos b]
   ·rw[if_neg b]at h;exact absurd rfl h
  ·rw[if_neg a]
 unfold aloneF at h ⊢;by_cases w0:Tl o.k 12<3
 ·rw[if_pos w0]at h ⊢;exact hi _ h
 rw[if_neg w0]at h ⊢;by_cases w1:Tl o.k 12=3
 ·rw[if_pos w1]at h ⊢;exact hd _ h
 rw[if_neg w1]at h ⊢;by_cases w2:Tl o.k 12=4
 ·rw[if_pos w2]at h ⊢;exact hr _ h
 rw[if_neg w2]at h ⊢;by_cases w3:Tl o.k 12=5
 ·rw[if_pos w3]at h ⊢;exact hr _ h
 rw[if_neg w3]at h ⊢;by_cases w4:Tl o.k 12<9
 ·rw[if_pos w4]at h ⊢;exact ha _ h
 rw[if_neg w4]at h ⊢;by_cases w5:Tl o.k 12=9
 ·rw[if_pos w5]
 rw[if_neg w5]at h ⊢;by_cases w6:Tl o.k 12=10
 ·rw[if_pos w6]at h ⊢;exact ha _ h
 ·rw[if_neg w6]
theorem Qe3{E:Es}{b:Int}(h:EOk b E):E.m.adv E.q=(E.m,0):=by
 rw[BW (A:=E.m) h.q (by show ¬E.q<E.q;exact Rat.lt_irrefl)];have hq:Qs 1640000 E.q:=h.q.mono (by decide);have e1:cnt (ZM E.m.M) E.m.q E.q=0:=XZ okS h.m.m hq;have e2:cnt (SD E.m.M) E.m.q E.q=0:=XZ okT h.m.m hq;have e3:cnt (HB E.m.M) E.m.q E.q=0:=XZ okH h.m.m hq;have e4:cnt (IH E.m.M) E.m.q E.q=0:=XZ okP h.m.m hq;have e5:cnt (MN E.m.M) E.m.q E.q=0:=XZ okD h.m.m hq;rw[e1,e2,e3,e4,e5];simp[Es.m]
noncomputable def advE(A:Em)(t:Rat):Em:={ A with q:=t,s:=A.s+(cnt (ZM A.M) A.q t:Nat),t:=A.t+(cnt (SD A.M) A.q t:Nat),h:=A.h+(cnt (HB A.M) A.q t:Nat),p:=A.p+(cnt (IH A.M) A.q t:Nat),d:=A.d+(cnt (MN A.M) A.q t:Nat) }
theorem Qsj{A:Em}{t:Rat}(h1:Qs 128 t)(h2:¬t<A.q):A.adv t=(advE A t,0):=BW h1 h2
theorem Qbr{E:Es}{b:Int}(h:EOk b E):advE E.m E.q=E.m:=by
 have:=Qe3 h;rw[Qsj h.q (by show ¬E.q<E.q;exact Rat.lt_irrefl)]at this;exact congrArg Prod.fst this
theorem Qe2{A:Em}{t u:Rat}(hM:MOk A.M)(h0:Qs 128 A.q)(ht:Qs 128 t)(hu:Qs 128 u)(h1:A.q<=t)(h2:t<=u):advE (advE A t) u=advE A u:=by
 have h0:=h0.mono (show 128<=1640000 by decide);have ht:=ht.mono (show 128<=1640000 by decide);have hu:=hu.mono (show 128<=1640000 by decide);have e1:cnt (ZM A.M) A.q u=cnt (ZM A.M) A.q t+cnt (ZM A.M) t u:=YG okS hM h0 ht hu h1 h2;have e2:cnt (SD A.M) A.q u=cnt (SD A.M) A.q t+cnt (SD A.M) t u:=YG okT hM h0 ht hu h1 h2;have e3:cnt (HB A.M) A.q u=cnt (HB A.M) A.q t+cnt (HB A.M) t u:=YG okH hM h0 ht hu h1 h2;have e4:cnt (IH A.M) A.q u=cnt (IH A.M) A.q t+cnt (IH A.M) t u:=YG okP hM h0 ht hu h1 h2;have e5:cnt (MN A.M) A.q u=cnt (MN A.M) A.q t+cnt (MN A.M) t u:=YG okD hM h0 ht hu h1 h2;unfold advE;dsimp only;rw[e1,e2,e3,e4,e5];simp only[Int.natCast_add,Int.add_assoc]
theorem Qt0{A B:Em}{t u:Rat}(hM:MOk A.M)(h0:Qs 128 A.q)(ht:Qs 128 t)(h1:A.q<=t)(hB:B=advE A t)(hu:Qs 128 u):((B.adv u).1=B/\u<t)\/((B.adv u)=(advE A u,0)/\t<=u):=by
 have hq:B.q=t:=by rw[hB];rfl
 by_cases h:u<B.q
 ·left;rw[hq]at h;refine⟨?_,h⟩;unfold Em.adv;rw[if_pos hu,if_pos (by rw[hq];exact h)]
 ·right;have h2:t<=u:=by rw[hq]at h;exact W0.1 h
  refine⟨?_,h2⟩;rw[Qsj hu h,hB,Qe2 hM h0 ht hu h1 h2]
end Orr
namespace Orr
open Go Go.Proofs Tryz Orq
theorem iN:∀(l:List Pt) (d:Int),d≤l.foldl (λd p=>max d (Ah p.c)) d/\∀p∈l,Ah p.c≤l.foldl (λd p=>max d (Ah p.c)) d
 | [],d=>⟨J5 _,λ_ h=>by cases h⟩
 |
  x::l,d=>by
  obtain⟨h1,h2⟩:=iN l (max d (Ah x.c));rw[Z7];refine⟨by omega,λp hp=>?_⟩;rcases Qm.1 hp with rfl|hp
  ·omega
  ·exact h2 p hp
theorem Qpa{M:List Pt}{p:Pt}(h:p∈M):Ah p.c<=Ix M:=(iN M 0).2 p h
theorem Qh0{M:List Pt}(h:∀p∈M,Sc p.c):0≤Ix M/\Ix M≤2:=by
 have:=jL h M.length;rwa[Qn (Qk _)]at this
theorem Qnl{M:List Pt}{q t:Rat}(hM:MOk M)(hq:Qs 128 q)(ht:Qs 128 t)(h:q<=t){n d:Int}(hn:n=M.length)(hd:d=Ix M) :
 ((cnt (ZM M) q t:Nat):Int)<=n*n*d/\((cnt (SD M) q t:Nat):Int)<=n*n*d/\((cnt (HB M) q t:Nat):Int)<=2*(n*n*n*d)+n*n*d/\((cnt (IH M) q t:Nat):Int)<=2*(n*n*n*n*d)/\((cnt (MN M) q t:Nat):Int)<=2*(n*n*n*d)+4*(n*n*n*n*d):=by
 obtain⟨d0,d2⟩:=Qh0 hM.sc;obtain⟨D,hD⟩:∃D:Nat,(D:Int)=Ix M:=⟨(Ix M).toNat,by omega⟩;have hg:∀p∈M,DgC D p.c:=λp hp=>by
  have:=Qpa hp;unfold Ah at this;exact⟨by omega,by omega⟩
 have h2:D<=2:=by omega
 rw[<-hD]at hd;subst hn hd;have hq:=hq.mono (show 128<=1640000 by decide);have ht:=ht.mono (show 128<=1640000 by decide);have a1:=Qyr hM hg hq ht h;have a2:=Qys hM hg hq ht h;have a3:=Qyp hM hg h2 hq ht h;have a4:=Qyq hM hg hq ht h;have a5:=Qyo hM hg h2 hq ht h;exact⟨by exact_mod_cast a1,by exact_mod_cast a2,by exact_mod_cast a3,by exact_mod_cast a4,by exact_mod_cast a5⟩
end Orr
namespace Orr
open Go Go.Proofs Tryz Orq
set_option maxRecDepth 10000
theorem Qe4{A B:Em}{t:Rat}(hM:MOk A.M)(h0:Qs 128 A.q)(ht:Qs 128 t)(h1:A.q<=t)(hB:B=advE A t)(u:Rat):∃v,Qs 128 v/\A.q<=v/\(B.adv u).1=advE A v:=by
 by_cases hu:Qs 128 u
 ·rcases Qt0 hM h0 ht h1 hB hu with⟨e,_⟩|⟨e,h⟩
  ·exact⟨t,ht,h1,by rw[e,hB]⟩
  ·exact⟨u,hu,Zk h1 h,by rw[e]⟩
 ·refine⟨t,ht,h1,?_⟩;unfold Em.adv;rw[if_neg hu,hB]
theorem Qbt{N:Int}{o:RawOp}{B:Em}(h:Tl o.k 12<6):WQ (aloneF N o B).1=WQ B:=by
 have hi:∀p,WQ (B.ins p).1=WQ B:=λp=>by unfold Em.ins;dsimp only;split <;> rfl
 have hr:∀p,WQ (B.rep p).1=WQ B:=λp=>by unfold Em.rep;dsimp only;split <;> rfl
 have hd:∀id,WQ (B.del id).1=WQ B:=λid=>by unfold Em.del;split <;> rfl
 unfold aloneF;by_cases w0:Tl o.k 12<3
 ·rw[if_pos w0];exact hi _
 rw[if_neg w0];by_cases w1:Tl o.k 12=3
 ·rw[if_pos w1];exact hd _
 rw[if_neg w1];by_cases w2:Tl o.k 12=4
 ·rw[if_pos w2];exact hr _
 rw[if_neg w2,if_pos (by omega)];exact hr _
theorem BG{N:Int}{o:RawOp}{A B:Em}{t:Rat}(hM:MOk A.M)(h0:Qs 128 A.q)(ht:Qs 128 t)(h1:A.q<=t)(hB:B=advE A t)(h:¬Tl o.k 12<6):∃v,Qs 128 v/\A.q<=v/\(aloneF N o B).1=advE A v:=by
 unfold aloneF;rw[if_neg (by omega),if_neg (by omega),if_neg (by omega),if_neg (by omega)];by_cases w4:Tl o.k 12<9
 ·rw[if_pos w4];exact Qe4 hM h0 ht h1 hB _
 rw[if_neg w4];by_cases w5:Tl o.k 12=9
 ·rw[if_pos w5];exact⟨t,ht,h1,hB⟩
 rw[if_neg w5];by_cases w6:Tl o.k 12=10
 ·rw[if_pos w6];exact Qe4 hM h0 ht h1 hB _
 ·rw[if_neg w6];exact⟨t,ht,h1,hB⟩
def Qbx(M:List Pt):Int:=(M.length:Int)*M.length*Ix M
def Qt8(M:List Pt):Int:=2*((M.length:Int)*M.length*M.length*Ix M)+(M.length:Int)*M.length*Ix M
def Qt9(M:List Pt):Int:=2*((M.length:Int)*M.length*M.length*M.length*Ix M)
def Qua(M:List Pt):Int:=2*((M.length:Int)*M.length*M.length*Ix M)+4*((M.length:Int)*M.length*M.length*M.length*Ix M)
abbrev Quc(M:List Pt):Uv:=[.int .i64 (Qbx M),.int .i64 (Qbx M),.int .i64 (Qt8 M),.int .i64 (Qt9 M),.int .i64 (Qua M)]
theorem fS{E:Es}{b:Int}(h:EOk b E):pD 11 [.one (.ow 0 0)] E [.agg (Quc E.M)] E:=Qfh h rfl rfl
theorem Qht{A:Em}{t:Rat}(hM:MOk A.M)(h0:Qs 128 A.q)(ht:Qs 128 t)(h1:A.q<=t):∃c1 c2 c3 c4 c5:Nat,WQ (advE A t)=[.int .i64 (A.s+c1),.int .i64 (A.t+c2),.int .i64 (A.h+c3),.int .i64 (A.p+c4),.int .i64 (A.d+c5)]/\(c1:Int)<=Qbx A.M/\(c2:Int)<=Qbx A.M/\(c3:Int)<=Qt8 A.M/\(c4:Int)<=Qt9 A.M/\(c5:Int)<=Qua A.M:=by
 obtain⟨a1,a2,a3,a4,a5⟩:=Qnl hM h0 ht h1 rfl rfl;exact⟨_,_,_,_,_,rfl,a1,a2,a3,a4,a5⟩
end Orr
namespace Orr
theorem bz1:Bd 9000000 [1]:=λz hz=>by obtain rfl:=Ql.1 hz;decide
theorem bz2:Bd 9000000 [0,1]:=λz hz=>by
 simp only[Qm,Xl,or_false]at hz;rcases hz with rfl|rfl <;> decide
theorem Q1j:∀z∈([0,1]:Uq),Fg z≤1:=by
 intro z hz;simp only[Qm,Xl,or_false]at hz;rcases hz with rfl|rfl <;> decide
theorem rz:RRun [1] 1 [0,1] []:=by
 refine .step (by decide) (by decide) bz2 bz1 ?_;rw[show sS [0,1] [1]=[] by decide];exact .stop (by decide)
theorem dz2:DOk [0,1] [1] [0,1]:=by
 refine⟨by decide,by decide,by decide,bz1,[0,1],[],1,bz2,by decide,?_,by decide⟩;refine .step (by decide) (by decide) bz2 (by decide) (by decide) (by decide) ?_;exact .stop (by decide)
theorem dz1:DOk [1] [1] [1]:=by
 refine⟨by decide,by decide,by decide,bz1,[1],[],1,bz1,by decide,?_,by decide⟩;refine .step (by decide) (by decide) bz1 (by decide) (by decide) (by decide) ?_;exact .stop (by decide)
theorem Qw4:Qez 0 [[-(0:Rat).num,((0:Rat).den:Int)],[1]]:=by
 show Qez 0 [[0,1],[1]];refine⟨[0,1],?_⟩;show ChRun [0,1] [0,1] [[0,1],[1]];have e1:Tr [0,1]=[0,1]:=by decide
 have e2:Gv [0,1]=[1]:=by decide
 have e3:Tr [1]=[1]:=by decide
 have e4:Bm [1]=[1]:=by decide
 refine⟨⟨1,λ_=>[0,1],⟨⟨1,[[0,1],[1]],?_,rfl,λk hk=>?_⟩,by decide⟩,λi hi=>?_,by decide⟩,⟨1,?_⟩,λz hz=>Qa (Q1j z hz) (by decide),by decide,by decide⟩
 ·rw[e1];refine .step (by decide) (by decide) (by show trim _=_;decide) bz2 (by show Bd _ (Gv [0,1]);rw[e2];exact bz1) (m:=1) (g:=[1]) ?_ (by decide) (.stop (by decide));show GRun 1 (Tr [0,1]) (Tr (Gv [0,1])) [1];rw[e1,e2,e3];refine .step (by decide) (by decide) bz1 rz (by decide) (λz hz=>by cases hz) rfl ?_;rw[show Tr []=[] by decide];exact .stop _
 ·obtain rfl:k=0:=by omega
  exact⟨[0,1],[1],[0,1],dz2,dz1,by rw[e1,e3];exact dz2,e1.symm⟩
 ·obtain rfl:i=0:=by omega
  exact⟨bz1,by decide,bz2,by decide⟩
 ·rw[e2,e4];refine .step (by decide) (by decide) bz1 (m:=1) (r:=[]) rz rfl (λz hz=>by cases hz) (by decide) (by decide) (by decide) ?_;exact .stop (by decide)
end Orr
namespace Orr
open Go Go.Proofs Tryz Orq
set_option maxRecDepth 10000
theorem Qie{q:Rat}{c:Ur}:Un 266 [.one (.row []),.agg (aq q c)] [.one (.row [])]:=by
 refine Fz func266 rfl ?_;refine Uh [.z 5] rfl ?_;refine Um (S:=Unit) 1 (λL1 _=>(10,.v (.oi 0))::(5,.v (.one (.row [])))::L1) (λ_=>[.blk 174 (aq q c)]) (λ_=>0) (λ_=>True) () trivial rfl rfl λ_ _=>?_
 exact Uj [.f rfl] rfl
theorem nL:Un 268 [.one (.row [])] [.one (.row [])]:=by
 refine Fz func268 rfl ?_;refine Uh [.z 3] rfl ?_;refine Um (S:=Unit) 0 (λL1 _=>(8,.v (.oi 0))::(3,.v (.one (.row [])))::L1) (λ_=>[]) (λ_=>0) (λ_=>True) () trivial rfl rfl λ_ _=>?_
 exact Uj [.f rfl] rfl
theorem Qib:Un 270 [.one (.row [])] [.one (.row [])]:=by
 refine Fz func270 rfl ?_;refine Uh [.z 3] rfl ?_;refine Um (S:=Unit) 0 (λL1 _=>(8,.v (.oi 0))::(3,.v (.one (.row [])))::L1) (λ_=>[]) (λ_=>0) (λ_=>True) () trivial rfl rfl λ_ _=>?_
 exact Uj [.f rfl] rfl
theorem Qif:Un 273 [.one (.row [])] [.one (.row [])]:=by
 refine Fz func273 rfl ?_;refine Uh [.z 3,.k Qib] rfl ?_;refine Um (S:=Unit) 0 (λL1 _=>(11,.v (.oi 0))::(3,.v (.one (.row [])))::L1) (λ_=>[]) (λ_=>0) (λ_=>True) () trivial rfl rfl λ_ _=>?_
 exact Uj [.f rfl] rfl
section
variable{q:Rat}{c:Ur}
theorem Qid:Un 233 [.one (.row []),.agg (aq q c)] [.one (.row [])]:=by
 refine Fz func233 rfl ?_;refine Uh [.k Qie,.z 6] rfl ?_;refine Um (S:=Unit) 1 (λL1 _=>(7,.v (.oi 0))::(6,.v (.one (.row [])))::L1) (λ_=>[.blk 174 (aq q c)]) (λ_=>0) (λ_=>True) () trivial rfl rfl λ_ _=>?_
 exact Uj [.f rfl,.k nL] rfl rfl (by simp[U5])
theorem Qvt:Un 234 [.one (.row []),.agg (aq q c)] [.one (.row [])]:=Uk func234 rfl [.t rfl,.z 4] rfl
theorem Qc7:Un 271 [.one (.row []),.agg (aq q c)] [.one (.row [])]:=Uk func271 rfl [.k Qif,.t rfl] rfl
theorem Qvp:Un 235 [.one (.row []),.agg (aq q c)] [.one (.row [])]:=by
 refine Fz func235 rfl ?_;refine Uh [.k Qid,.k Qc7] rfl ?_;refine Um (S:=Unit) 1 (λL1 _=>(7,.v (.oi 0))::(5,.v (.one (.row [])))::L1) (λ_=>[.blk 174 (aq q c)]) (λ_=>0) (λ_=>True) () trivial rfl rfl λ_ _=>?_
 exact Uj [.f rfl,.f rfl,.k nL] rfl
abbrev zPq:Uv:=[.row [],.row [],.row [],.row [],.bool false,.row [],.int .i64 0]
theorem Qc6:Un 272 [.one (.row []),.agg (aq q c)] [.agg zPq,.agg zPq,.one (.bool false)]:=Uk func272 rfl [.k Qib,.t rfl] rfl
theorem Qvr:Un 236 [.one (.row []),.agg (aq q c)] [.one (.row [])]:=Uk func236 rfl [.k Qc6,.t rfl,.z 4] rfl
theorem Qvq:Un 237 [.one (.row []),.agg (aq q c)] [.one (.row [])]:=by
 refine Fz func237 rfl ?_;refine Uh [.k Qif,.z 6] rfl ?_;refine Um (S:=Unit) 1 (λL1 _=>(15,.v (.oi 0))::(6,.v (.one (.row [])))::L1) (λ_=>[.blk 174 (aq q c)]) (λ_=>0) (λ_=>True) () trivial rfl rfl λ_ _=>?_
 exact Uj [.f rfl,.k nL] rfl
theorem FX(k:Nat)(hk:k<5):Un 149 [.oi k,.one (.row []),.agg (aq q c)] [.one (.row [])]:=by
 refine(?_:Un 189 [.oi k,.one (.row []),.agg (aq q c)] [.one (.row [])]->_) ?_
 ·intro h;exact Uk func149 rfl [.k h] rfl
 ·rcases(show k=0\/k=1\/k=2\/k=3\/k=4 by omega)with rfl|rfl|rfl|rfl|rfl
  ·exact Uk func189 rfl [.t rfl,.k Qid] rfl
  ·exact Uk func189 rfl [.f rfl,.t rfl,.k Qvt] rfl
  ·exact Uk func189 rfl [.f rfl,.f rfl,.t rfl,.k Qvp] rfl
  ·exact Uk func189 rfl [.f rfl,.f rfl,.f rfl,.t rfl,.k Qvr] rfl
  ·exact Uk func189 rfl [.f rfl,.f rfl,.f rfl,.f rfl,.k Qvq] rfl
end
theorem DL:Un 148 [.one (.row []),.one (.row [])] [.one (.row [])]:=by
 refine Fz func148 rfl ?_;refine Uh [] rfl ?_;refine Um (S:=Unit) 0 (λL1 _=>(9,.v (.oi 0))::L1) (λ_=>[]) (λ_=>0) (λ_=>True) () trivial rfl rfl λ_ _=>?_
 exact Uj [.f rfl] rfl
end Orr
namespace Orr
open Go Go.Proofs Tryz Orq
set_option maxRecDepth 10000
abbrev cC:Ur:=[[-(0:Rat).num,((0:Rat).den:Int)],[1]]
abbrev Qza:Uv:=[.nils,.nils,.nils,.bool false,.nils,.bool false,.nils,.bool false,.nils,.bool false,.nils,.int .i64 0,.nils]
abbrev Qzb:Uv:=aq 0 cC++[.row [],.int .i64 0,.nils]
abbrev Qlk(k i:Nat):Uv:=match Nat.blt k i with
 |true=>Qzb
 |false=>Qza
abbrev mdl(np nd:Int)(i:Nat):Uv:=[.int .i64 np,.int .i64 nd,.nils]++fr 0++Qlk 0 i++Qlk 1 i++Qlk 2 i++Qlk 3 i++Qlk 4 i
set_option maxHeartbeats 4000000 in
theorem Qfx{np nd:Int}:U8 prog 93 [.one (.ow 0 0)] [.blk 181 (mdl np nd 0)] [] [.blk 181 (mdl np nd 5)]:=by
 have hq:Qs 2000000 (0:Rat):=⟨by decide,by decide⟩;have cr:=uP hq Qw4;refine Fz func93 rfl ?_;refine Uh [.k cr] rfl ?_;refine Um (S:=Nat) 2 (λL1 i=>(9,.v (.oi i))::L1) (λi=>[.blk 181 (mdl np nd i),.blk 174 (aq 0 cC)]) (λi=>5-i) (λi=>i<=5) 0 (by decide) rfl rfl λi hi=>?_
 rcases(show i=0\/i=1\/i=2\/i=3\/i=4\/i=5 by omega)with rfl|rfl|rfl|rfl|rfl|rfl
 ·exact go tt [.t rfl,.i 0,.i 0,.i 0,.k (FX 0 (by decide)),.k DL,.i 0] rfl (by simp[U5]) (rd 1 (by omega) (by omega) rfl)
 ·exact go tt [.t rfl,.i 1,.i 1,.i 1,.k (FX 1 (by decide)),.k DL,.i 1] rfl (by simp[U5]) (rd 2 (by omega) (by omega) rfl)
 ·exact go tt [.t rfl,.i 2,.i 2,.i 2,.k (FX 2 (by decide)),.k DL,.i 2] rfl (by simp[U5]) (rd 3 (by omega) (by omega) rfl)
 ·exact go tt [.t rfl,.i 3,.i 3,.i 3,.k (FX 3 (by decide)),.k DL,.i 3] rfl (by simp[U5]) (rd 4 (by omega) (by omega) rfl)
 ·exact go tt [.t rfl,.i 4,.i 4,.i 4,.k (FX 4 (by decide)),.k DL,.i 4] rfl (by simp[U5]) (rd 5 (by omega) (by omega) rfl)
 ·exact Ul [] [0] [.f rfl] rfl
theorem Quo{np nd:Int}(h1:1<=np/\np<=6)(h2:0<=nd/\nd<=2):U8 prog 42 [.oi np,.oi nd] [] [.one (.ow 0 0),.oi 0] [.blk 181 (mdl np nd 5)]:=by
 have co:=KB (n:=0) (by decide);rw[show((0:Int):Rat)=0 from rfl]at co;refine Fz func42 rfl ?_;exact Ul [] [0] [.F,.f (by simp;omega),.f (by simp;omega),.f (by simp;omega),.k co,.c [0] Qfx] rfl
theorem Qnp{a b:Int}(ha:-9223372036854775808<=a/\a<=9223372036854775807)(hb:-9223372036854775808<=b/\b<=9223372036854775807):∃(N nd:Int) (ms:Uv),(1<=N/\N<=4)/\(0<=nd/\nd<=2)/\EOk 0 (MW N nd)/\N=1+Tl a 4/\nd=Tl b 3 /\
 U8 prog 9 [.oi a,.oi b] [] [.agg [.ow 0 0,.sh ms,.int .i64 N],.one (.bool true)] (enB 0 (MW N nd)):=by
 have w1:=ZH (v:=a) (n:=4) (by decide);have w2:=ZH (v:=b) (n:=3) (by decide);have c1:=Lb (v:=a) (n:=4) ha (by decide);have c2:=Lb (v:=b) (n:=3) hb (by decide);obtain⟨N,hN⟩:=nmE (1+Tl a 4);obtain⟨nd,hnd⟩:=nmE (Tl b 3);have hN4:1<=N/\N<=4:=by omega
 have hd2:0<=nd/\nd<=2:=by omega
 have cn:=Qf2 (np:=N) (nd:=nd) (by omega) hd2;have cm:=Quo (np:=N) (nd:=nd) (by omega) hd2;refine⟨N,nd,mdl N nd 5,hN4,hd2,Qj9 (by omega) hd2,hN,hnd,?_⟩;refine Fz func9 rfl ?_;exact Ul [8] [1,2,3,4,5,6,7] [.k c1,.r 12 (eI hN.symm),.k c2,.r 14 (eI hnd.symm),.c [1,2,3,4,5,6,7] cn,.c [8] cm,.t rfl,.t rfl] rfl (by simp[U5];omega)
def run2:Crv:=⟨[0,1],[1],1⟩
theorem rB:YZ run2:=⟨rfl,rfl,by decide,by decide⟩
theorem cs_run2:Cs 1 2 run2:=⟨λz hz=>by simp only[run2,Qm,Xl,or_false]at hz;rcases hz with rfl|rfl <;> decide,λz hz=>by simp only[run2,Qm,Xl,or_false]at hz;subst hz;decide,by decide,by decide,by decide⟩
abbrev wtP:List Pt:=[⟨Tj 0 0,5⟩,⟨Tj 4 0,6⟩,⟨run2,7⟩]
theorem Qr1:(Sy (tq 0) wtP).map (·.id)=[5,7,6]:=by decide +kernel
theorem Qr2:(Sy (tq 9) wtP).map (·.id)=[5,6,7]:=by decide +kernel
theorem Qr3:(No (Fx (tq 9)) wtP).1.map (·.id)=[7]:=by decide +kernel
theorem Qmk:((Ph wtP (tq 9)).map (·.id)).length=3:=by decide +kernel
theorem Qdt:Crv.norm (Crv.mk [0,1] [1] 0)=run2:=by
 have e:Crv.norm (Crv.mk [0,1] [1] 1)=Crv.norm (Crv.mk [0,1] [1] 0):=by simp only[Crv.norm,Crv.g,Crv.d'];rfl
 rw[<-e];exact Crv.norm_of rB
theorem Qu9:Un 35 [.one (.row [[.bool false,.row []],[.bool false,.row [[.int .u32 1]]]]),.one (.row [[.bool false,.row [[.int .u32 1]]]])] [.agg (cl run2)]:=by
 have i1:IsInts [[.bool false,.row [[.int .u32 1]]]] [1]:=⟨⟨_,_,rfl,false,[1],rfl,rfl,(λx hx=>by rw[Ql.1 hx];decide),rfl⟩,trivial⟩;have i01:IsInts [[.bool false,.row []],[.bool false,.row [[.int .u32 1]]]] [0,1]:=⟨⟨_,_,rfl,false,[],rfl,rfl,(λx hx=>by cases hx),rfl⟩,i1⟩;have h:=Qsr (px:=[0,1]) (py:=[1]) i01 i1 ⟨U7 cs_run2.x (by decide),U7 cs_run2.y (by decide),by show Fg 0<=_;decide,by show 2<=1073741824;decide,by show 1<=1073741824;decide⟩;rw[Qdt]at h;exact h
theorem Qxx:Ng 3 1 [] ⟨Tj 0 0,5⟩=0:=by decide +kernel
theorem Qxy:Ng 3 1 [⟨Tj 0 0,5⟩] ⟨Tj 4 0,6⟩=0:=by decide +kernel
theorem Qxz:Ng 3 1 [⟨Tj 0 0,5⟩,⟨Tj 4 0,6⟩] ⟨run2,7⟩=0:=by decide +kernel
theorem Qml:∃E1 E2 E3:Es,EOk 0 E3/\E3.m=⟨3,1,wtP,0,0,0,0,0,0⟩/\pD 27 [.one (.ow 0 0),.oi 5,.agg (cl (Tj 0 0))] (MW 3 1) [.oi 0] E1/\pD 27 [.one (.ow 0 0),.oi 6,.agg (cl (Tj 4 0))] E1 [.oi 0] E2/\pD 27 [.one (.ow 0 0),.oi 7,.agg (cl run2)] E2 [.oi 0] E3:=by
 have h0:=Qj9 (np:=3) (nd:=1) (by decide) (by decide);have s1:=sM (x:=0) (y:=0) (by decide) (by decide);have s2:=sM (x:=4) (y:=0) (by decide) (by decide);have e1:Crv.norm (Crv.mk (Tj 0 0).x (Tj 0 0).y (Tj 0 0).d)=Tj 0 0:=Crv.norm_of s1.n;have e2:Crv.norm (Crv.mk (Tj 4 0).x (Tj 4 0).y (Tj 4 0).d)=Tj 4 0:=Crv.norm_of s2.n;have e3:Crv.norm (Crv.mk run2.x run2.y run2.d)=run2:=Crv.norm_of rB;obtain⟨E1,a1,a2,a3⟩:=FY h0 (id:=5) (Gt (Tj 0 0).x) (Gt (Tj 0 0).y) (U6 (Tj 0 0).d) (s1.c.mono (by decide) (by decide));rw[e1]at a2 a3;have i1:(MW 3 1).m.ins ⟨Tj 0 0,5⟩=((⟨3,1,[⟨Tj 0 0,5⟩],0,0,0,0,0,0⟩:Em),0):=by
  unfold Em.ins;rw[show Ng (MW 3 1).m.np (MW 3 1).m.nd (MW 3 1).m.M ⟨Tj 0 0,5⟩=0 from Qxx,if_pos rfl];rfl
 rw[i1]at a2 a3;obtain⟨E2,b1,b2,b3⟩:=FY a1 (id:=6) (Gt (Tj 4 0).x) (Gt (Tj 4 0).y) (U6 (Tj 4 0).d) (s2.c.mono (by decide) (by decide));rw[e2,a2]at b2 b3;have i2:((⟨3,1,[⟨Tj 0 0,5⟩],0,0,0,0,0,0⟩:Em),(0:Int)).1.ins ⟨Tj 4 0,6⟩=((⟨3,1,[⟨Tj 0 0,5⟩,⟨Tj 4 0,6⟩],0,0,0,0,0,0⟩:Em),0):=by
  unfold Em.ins;dsimp only;rw[Qxy,if_pos rfl];rfl
 rw[i2]at b2 b3;obtain⟨E3,c1,c2,c3⟩:=FY b1 (id:=7) (Gt run2.x) (Gt run2.y) (U6 run2.d) (cs_run2.up (by decide) (by decide));rw[e3,b2]at c2 c3;have i3:((⟨3,1,[⟨Tj 0 0,5⟩,⟨Tj 4 0,6⟩],0,0,0,0,0,0⟩:Em),(0:Int)).1.ins ⟨run2,7⟩=((⟨3,1,wtP,0,0,0,0,0,0⟩:Em),0):=by
  unfold Em.ins;dsimp only;rw[Qxz,if_pos rfl];rfl
 rw[i3]at c2 c3;exact⟨E1,E2,E3,c1,c2,a3,b3,c3⟩
theorem DY:Un 14 [] [.one (.bool true)]:=by
 obtain⟨E1,E2,E3,h3,m3,i1,i2,i3⟩:=Qml;have ht:Qs 128 (9:Rat):=⟨by decide,by decide⟩;have gq:=yZ h3 (by decide) (U6 (9:Rat).num) (U6 ((9:Rat).den:Int)) (by decide) (by decide) (Sx 9);have ea:=BW (A:=E3.m) ht (by rw[m3];show ¬(9:Rat)<0;decide);have en9:E3.m.ans 9=wL E3.m.M 9:=if_pos (by rw[ea]);have er9:(E3.m.adv 9).2=0:=by rw[ea]
 rw[en9,er9,m3]at gq;have gq:pD 24 [.one (.ow 0 0),.agg (rl 9)] E3 [.agg (wL wtP 9),.oi 0] E3:=gq;obtain⟨_,_,e1,e2,_⟩:=Qzs m3;dsimp only at e1 e2;have t3:=Qvs h3;rw[e1,e2]at t3;obtain⟨A0,hA0⟩:=nmE (wL wtP 0);obtain⟨A9,hA9⟩:=nmE (wL wtP 9);rw[<-hA0]at t3;rw[<-hA9]at gq;have g0:∃a b c d,A0=[ids [5,7,6],.row a,.row b,.row c,.row d]:=by
  rw[hA0];show ∃a b c d,[ids ((Sy (tq 0) wtP).map (·.id)),_,_,_,_]=_;rw[Qr1];exact⟨_,_,_,_,rfl⟩
 have g9:∃h c d,h.length=3/\A9=[ids [5,6,7],ids [7],ids h,.row c,.row d]:=by
  rw[hA9];show ∃h c d,_/\[ids ((Sy (tq 9) wtP).map (·.id)),ids ((No (Fx (tq 9)) wtP).1.map (·.id)),ids ((Ph wtP (tq 9)).map (·.id)),_,_]=_;rw[Qr2,Qr3];exact⟨_,_,_,Qmk,rfl⟩
 obtain⟨a,b,c,d,rfl⟩:=g0;obtain⟨h,c',d',hh,rfl⟩:=g9;have q1:=mI (a:=[5,7,6]) (b:=[5,7,6]) (by decide) (by decide);have q2:=mI (a:=[5,6,7]) (b:=[5,6,7]) (by decide) (by decide);have q3:=mI (a:=[7]) (b:=[7]) (by decide) (by decide);have hhl:(idl h).length=3:=by simp[idl,hh]
 have co:=KB (n:=9) (by decide);have ct:=uF (q:=9) ⟨by decide,by decide⟩;have k0:=aJ (x:=0) (y:=0) (by decide) (by decide);have k4:=aJ (x:=4) (y:=0) (by decide) (by decide);refine Fz func14 rfl ?_;exact Uj [.c Uz (Qf2 (np:=3) (nd:=1) (by decide) (by decide)),.f rfl,.f rfl,.k k0,.c Uz i1,.f rfl,.k k4,.c Uz i2,.f rfl,.z 29,.k Qu9,.c Uz i3,.f rfl,.k co,.k ct,.c Uz gq,.t rfl,.c Uz t3,.k q1,.t rfl,.k q2,.t rfl,.k q3,.t rfl,.r 71 (eI (b:=3) (by rw[Za];omega))] rfl rfl (by simp[U5])
abbrev enL(E:Es)(ms:Uv)(N:Int):Ux:=[.blk 88 (nO 0 E.q),tB E.np E.nd E.M,bS E.s E.M E.q,bT E.t E.M E.q,bH E.h E.M E.q,bP E.p E.M E.q,bD E.d E.M E.q,.blk 26 [.ow 0 0,.sh ms,.int .i64 N]]
structure EnI(A:Em)(E:Es):Prop where
 m:MOk A.M
 q:Qs 128 A.q
 s:0<=A.s/\0<=A.t/\0<=A.h/\0<=A.p/\0<=A.d
 t:∃t,Qs 128 t/\A.q<=t/\E.m=advE A t
theorem EnI.self{b:Int}{E:Es}(h:EOk b E):EnI E.m E:=⟨h.m.m,h.q,⟨h.es.1,h.et.1,h.eh.1,h.ep.1,h.ed.1⟩,E.q,h.q,Qp,(Qbr h).symm⟩
set_option maxHeartbeats 8000000 in
theorem nP{a b:Int}{l:List RawOp}(ha:-9223372036854775808≤a/\a≤9223372036854775807)(hb:-9223372036854775808≤b/\b≤9223372036854775807)(hl:∀x∈l,x.Ok):Un 3 [.oi a,.oi b,.one (.row (zK l))] [.one (.bool true)]:=by
 obtain⟨N,nd,ms,hN,hnd,h0,_,_,cb⟩:=Qnp ha hb;have hll:=Qdx l;have cE0:=fP (E:=MW N nd);have cB0:=fS h0;refine Fz func3 rfl (ln 2 rfl rfl λhcl=>?_);rw[hll]at hcl;refine Uh [.c Uz cb,.f rfl,.lo,.c Uz cE0,.lo,.c Uz cB0] rfl ?_;refine Um (S:=Nat×Em×Es) 10 (λL1 s=>(11,.v (.oi (s.1:Int)))::L1) (λs=>enL s.2.2 ms N++[.blk 29 (WQ s.2.1),.blk 29 (Quc s.2.1.M)]) (λs=>9-s.1) (λs=>s.1<=9/\s.1<=l.length/\EOk (67000000*s.1) s.2.2/\EnI s.2.1 s.2.2) (0,(MW N nd).m,MW N nd) ⟨by show 0<=9;decide,Qh _,h0.mono (show(0:Int)<=67000000*((0:Nat):Int) by decide),EnI.self h0⟩ rfl rfl λ⟨i,A,E⟩ ⟨hi,hi2,hE,hI⟩=>?_
 dsimp only at hi hi2 hE hI ⊢;by_cases hr:i<l.length/\i<9
 ·obtain⟨x,hx⟩:=gxE (l:=l) (i:=i) hr.1;have ho:=hl x (Qc hx);obtain⟨E',e1,e2,e3⟩:=Qpi (ms:=ms) hE (by omega) hN ho;obtain⟨t,t1,t2,t3⟩:=hI.t;have e:67000000*(i:Int)+67000000=67000000*((i+1:Nat):Int):=by omega
  rw[e]at e1;have cw:=Lb (v:=x.k) (n:=12) ho.k (by decide);obtain⟨W,hW⟩:=nmE (Tl x.k 12);obtain⟨er,her⟩:=nmE ((aloneF N x E.m).2);rw[<-her]at e3;rw[<-hW]at cw;obtain⟨v,v1,v2,v3⟩:∃v,Qs 128 v/\A.q<=v/\WQ E'.m=WQ (advE A v):=by
   by_cases hw:Tl x.k 12<6
   ·exact⟨t,t1,t2,by rw[e2,Qbt hw,t3]⟩
   ·obtain⟨v,v1,v2,v3⟩:=BG (N:=N) hI.m hI.q t1 t2 t3 hw;exact⟨v,v1,v2,by rw[e2,v3]⟩
  have hI':¬(er=0/\W<6)->EnI A E':=λh=>⟨hI.m,hI.q,hI.s,by
   by_cases h2:er=0
   ·obtain⟨v,v1,v2,v3⟩:=BG (N:=N) hI.m hI.q t1 t2 t3 (show ¬Tl x.k 12<6 from λhw=>h ⟨h2,by omega⟩);exact⟨v,v1,v2,by rw[e2,v3]⟩
   ·exact⟨t,t1,t2,by rw[e2,Qbs (by rw[<-her];exact h2),t3]⟩⟩
  obtain⟨c1,c2,c3,c4,c5,hc,k1,k2,k3,k4,k5⟩:=Qht hI.m hI.q v1 v2;have cE:=fP (E:=E');have cB:=fS e1;obtain⟨s1,s2,s3,s4,s5⟩:=hI.s;have hcc:=v3.trans hc;have q1:E'.s.ev=A.s+c1:=by injection hcc with h1 h2;injection h1
  have q2:E'.t.ev=A.t+c2:=by injection hcc with h1 h2;injection h2 with h1 h2;injection h1
  have q3:E'.h.ev=A.h+c3:=by injection hcc with h1 h2;injection h2 with h1 h2;injection h2 with h1 h2;injection h1
  have q4:E'.p.ev=A.p+c4:=by injection hcc with h1 h2;injection h2 with h1 h2;injection h2 with h1 h2;injection h2 with h1 h2;injection h1
  have q5:E'.d.ev=A.d+c5:=by injection hcc with h1 h2;injection h2 with h1 h2;injection h2 with h1 h2;injection h2 with h1 h2;injection h2 with h1 h2;injection h1
  have z1:=e1.es;have z2:=e1.et;have z3:=e1.eh;have z4:=e1.ep;have z5:=e1.ed;refine go tt [.T,.T,.x (YO hx),.c Uz e3,.c Uz cE] rfl (by simp[U5] <;> omega) ?_;refine Um (S:=Nat) 11 (λL1 k=>(49,.v (.oi k))::L1) (λ_=>enL E' ms N++[.blk 29 (WQ A),.blk 29 (Quc A.M),.blk 29 (WQ E'.m)]) (λk=>5-k) (λk=>k<=5) 0 (by decide) rfl rfl λk hk=>?_
  rcases(show k=0\/k=1\/k=2\/k=3\/k=4\/k=5 by omega)with rfl|rfl|rfl|rfl|rfl|rfl
  ·exact go tt [.t rfl,.i 0,.i 0,.g 59 false (decide_eq_false (by show ¬E'.s.ev<A.s;omega)),.i 0,.i 0,.i 0,.f (decide_eq_false (by show ¬Qbx A.M<E'.s.ev-A.s;omega))] rfl (by simp[U5,Es.m];omega) (rd 1 (by omega) (by omega) rfl)
  ·exact go tt [.t rfl,.i 1,.i 1,.g 59 false (decide_eq_false (by show ¬E'.t.ev<A.t;omega)),.i 1,.i 1,.i 1,.f (decide_eq_false (by show ¬Qbx A.M<E'.t.ev-A.t;omega))] rfl (by simp[U5,Es.m];omega) (rd 2 (by omega) (by omega) rfl)
  ·exact go tt [.t rfl,.i 2,.i 2,.g 59 false (decide_eq_false (by show ¬E'.h.ev<A.h;omega)),.i 2,.i 2,.i 2,.f (decide_eq_false (by show ¬Qt8 A.M<E'.h.ev-A.h;omega))] rfl (by simp[U5,Es.m];omega) (rd 3 (by omega) (by omega) rfl)
  ·exact go tt [.t rfl,.i 3,.i 3,.g 59 false (decide_eq_false (by show ¬E'.p.ev<A.p;omega)),.i 3,.i 3,.i 3,.f (decide_eq_false (by show ¬Qt9 A.M<E'.p.ev-A.p;omega))] rfl (by simp[U5,Es.m];omega) (rd 4 (by omega) (by omega) rfl)
  ·exact go tt [.t rfl,.i 4,.i 4,.g 59 false (decide_eq_false (by show ¬E'.d.ev<A.d;omega)),.i 4,.i 4,.i 4,.f (decide_eq_false (by show ¬Qua A.M<E'.d.ev-A.d;omega))] rfl (by simp[U5,Es.m];omega) (rd 5 (by omega) (by omega) rfl)
  ·by_cases h0:er=0
   ·by_cases hw:W<6
    ·refine go tt [.f rfl,.x (YO hx),.k cw,.t (decide_eq_true h0),.t (decide_eq_true hw),.lo,.c Uz cB] rfl (by simp[U5] <;> omega) ?_;exact rd (i+1,E'.m,E') (by dsimp only;omega) ⟨hr.2,hr.1,e1,EnI.self e1⟩ rfl
    ·refine go tt [.f rfl,.x (YO hx),.k cw,.t (decide_eq_true h0),.f (decide_eq_false hw)] rfl (by simp[U5] <;> omega) ?_;exact rd (i+1,A,E') (by dsimp only;omega) ⟨hr.2,hr.1,e1,hI' λh=>hw h.2⟩ rfl
   ·refine go tt [.f rfl,.x (YO hx),.k cw,.f (decide_eq_false h0),.f rfl] rfl (by simp[U5] <;> omega) ?_;exact rd (i+1,A,E') (by dsimp only;omega) ⟨hr.2,hr.1,e1,hI' λh=>h0 h.1⟩ rfl
 ·by_cases hj:i<l.length
  ·exact Uj [.T,.F,.k DY] rfl
  ·exact Uj [.F,.f rfl,.k DY] rfl
end Orr
namespace Orr
open Go Go.Proofs Tryz
variable{H:Type}{enc:TypeId×Value->H}{w:World}{base:Nat}{spare:Nat->Bool}{held:Bool}
theorem Sr{α:Type}{l:List α}{n i:Nat}(h:l.length=n)(hi:i<n):∃x,l[i]? = some x:=⟨l[i]'(by omega),Qe (by omega)⟩
end Orr
namespace Orr
open Go Go.Proofs Tryz Go.ChangeShapes Go.WideShapes Go.ChangeAt Go.RowKit Go.WideElems
theorem Qo0{w:World}{a:Addr}{v:Value}(h:w.cell? a=some v):a.spot=none/\a.block<w.heap.size:=by
 simp only[World.cell?]at h
 split at h
 ·rename_i c t fr hc
  split at h
  ·cases h
  ·rename_i hs;refine⟨by cases e:a.spot with|none=>rfl|some _=>simp[e]at hs,?_⟩;exact(Array.getElem?_eq_some_iff.1 hc).1
 ·cases h
theorem Qne{a:Addr}(h:a.spot=none)(n m:Nat):(a.add n).add m=⟨a.block,a.off+n+m,none⟩:=by
 obtain⟨b,o,s⟩:=a;simp only at h;subst h;simp only[Addr.add]
 split
 ·rename_i h;subst h
  split
  ·rename_i h;subst h;simp
  ·simp
 ·split
  ·rename_i h;subst h;simp
  ·simp
def fr0(w:World):Fr:=⟨λb=>b<w.heap.size,λ_=>False,w,λ_=>False,λ_=>none⟩
theorem IU(w:World):HS (fr0 w) (ob []) (nw []) (λ_=>none) (λ_=>False) w where
 size:=Qk _
 kept:=λb hb=>⟨hb,rfl,Iff.rfl⟩
 ids:=λi h=>h.elim
 nj:=λi h=>by rw[vU]at h;cases h
 io:=⟨rfl,rfl⟩
 blk:=λi=>by rw[vU];trivial
 nk:=λi g c m h _=>by rw[vU]at h;cases h
 inj:=λi j g c m c' m' h _ _ _=>by rw[vU]at h;cases h
 mlt:=λb h=>h.elim
 m0:=λb _ h=>h.elim
 un:=λi _=>⟨rfl,rfl⟩
 uj:=λi _ h=>h.elim
theorem Qrc{w w':World}{bl:Nat->OB}{U:Nat->Prop}{E:B9}{M:Nat->Prop}(h:HS (fr0 w) bl U E M w'){p:MemPlace}(hp:p.block<w.heap.size):w.sameAt w' p:=by
 cases p with
 |cell b off=>simp only[World.sameAt,World.cell?];rw[(h.kept b hp).2.1];rfl
 |map b=>exact(h.kept b hp).2.1
theorem Qpw{w w':World}{bl:Nat->OB}{U:Nat->Prop}{E:B9}{M:Nat->Prop}(h:HS (fr0 w) bl U E M w')(may:MemPlace->Prop):w.keptBut w' may:=by
 refine⟨h.io.1,h.io.2,λi hi=>?_⟩;have e:w'.heap[i]? = w.heap[i]? := (h.kept i hi).2.1;rw[e];cases w.heap[i]? with
 |none=>rfl
 |some o=>cases o <;> simp
end Orr
