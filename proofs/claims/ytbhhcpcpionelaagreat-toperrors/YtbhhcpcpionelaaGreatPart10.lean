/- MD3 MD4 MD5 MD6 X22 SD2 H4 En2 X20 X21 En3 EnZ En4 EnO W24 EnQ WT24 EnP EnR RawO EnA EnE RatZ EnB EnG WTE24 ReadN LastN LastR LastS -/
import Derived.Test.YtbhhcpcpionelaaGreatPart09
import Derived.Test.YtbhhcpcpionelaaGreatPart00
import Derived.Test.YtbhhcpcpionelaaGreatPart08
import Derived.Test.YtbhhcpcpionelaaGreatPart07
import Derived.Deep.Slices
import Derived.ProofKit
import Derived.OpenShut
import Derived.WideKeyArgs
import Derived.SizedLaws
set_option linter.all false
namespace Orr
open Go Go.Proofs Tryz Orq
set_option maxRecDepth 10000
set_option maxHeartbeats 8000000 in
theorem IK{l:List Pt}{a:Tm}{c:Cr}{r1:Us}(hl:∀p∈l,Sc p.c)(hn:l.length≤6)(ha:Va a):U6 prog 126 [.one (.ow 0 0),.agg (ta a)] [.blk 205 (Hl c (U0 l) r1)] [.one (.row (U8 (xY l a)))] [.blk 205 (Hl c (U0 l) (pT l a))]:=by
 have hwl:=O9 l;have cw:=mX (l:=l) (Qat hl) (by omega);have hgb:=Qh4 a;unfold pT xY gQ qY;obtain⟨sg',hsg⟩:∃s,s=Fu a:=⟨_,rfl⟩;obtain⟨W,hW⟩:=nmE (Tp l);have hWs:∀p∈W,Sc p.c:=λp hp=>hl p (Nv (by rw[<-hW];exact hp))
 have mR:=λ{x y z:Pt} (hx:x∈W) (hy:y∈W) (hz:z∈W)=>lK (t:=a) (hWs x hx) (hWs y hy) (hWs z hz) ha
 have mC:=λ{x y z u:Pt} (hx:x∈W) (hy:y∈W) (hz:z∈W) (hu:u∈W)=>Qm2 (t:=a) (hWs x hx) (hWs y hy) (hWs z hz) (hWs u hu) ha
 rw[<-hW]at cw hwl ⊢;rw[<-hsg]at hgb mR mC ⊢;have hW6:W.length<=6:=by omega
 have hTi:=λps=>Qcn hgb ps
 have hcp:(W.map Fc).length=W.length:=by simp
 have hcp2:=G6 W;have hdr:∀i,(U0 W).drop i=U0 (W.drop i):=λi=>by unfold U0;rw[List.map_drop]
 have hel:∀z∈U0 W,z.length=5:=λz hz=>by obtain⟨p,_,rfl⟩:=Za.1 hz;rfl
 have s7:∀x:Ct,∀y∈[Dq x],y.length=7:=λx y hy=>by rw[Qk.1 hy];rfl
 have s3:∀x:P3,∀y∈[trL x],y.length=3:=λx y hy=>by rw[Qk.1 hy];rfl
 obtain⟨T,hT⟩:=nmE (A1 (ZN sg' (Rv W)));obtain⟨G,hG⟩:=nmE (Od T (VS sg' (O4 W)));have hTI:kG T:=by rw[hT];exact hTi _
 have hTm:Ql9 T:=λk=>(hTI k).1
 have hGB:Qd0 G:=λk=>by rw[hG];exact pR _ _ _ k
 rw[<-hT,<-hG];have e0:(U8 (((Lt 0 W).map (PD sg'))))=[]:=rfl;refine Fv func126 rfl ?_;refine Ud [.k cw,.o 6 126 7] rfl ?_;refine Ui (S:=Nat) 4 (λL1 i=>(42,.v (.oi i))::(6,.v (.one (.orow 2 7 none)))::L1) (λi=>[.blk 205 (Hl c (U0 l) r1),.blk 189 (ta a),.row false 126 7 (U8 ((Lt i W).map (PD sg'))),.mpb (A1 (ZN sg' (Lt i W)))]) (λi=>W.length-i) (λi=>i<=W.length) 0 (Qh _) rfl rfl λi hi=>?_
 by_cases hlt:i<W.length
 ·obtain⟨x,hx⟩:=gxE (l:=W) (i:=i) hlt;have xm:=Qc hx;obtain⟨V,hV⟩:=nmE (W.drop (i+1));have hVl:V.length=W.length-(i+1):=by rw[hV,Q7]
  have hVm:∀p∈V,p∈W:=λp hp=>by rw[hV]at hp;exact Qz hp
  have eV:(U0 W).drop (i+1)=U0 V:=by rw[hdr,<-hV]
  rw[<-LM W x i];refine go tt [.T,.x (Ti hx),.r 49 (eI (b:=((i+1:Nat):Int)) (by omega)),.i (i+1),.r 50 (UB eV)] rfl (by simp only[U3];(repeat' apply And.intro) <;> first|omega|exact hel) ?_;have hVr:=G6 V;refine Ui (S:=Nat) 5 (λL1 j=>(52,.v (.oi j))::(6,.v (.one (.orow 2 7 none)))::L1) (λj=>[.blk 205 (Hl c (U0 l) r1),.blk 189 (ta a),.row false 126 7 (U8 ((p3j W x i j).map (PD sg'))),.mpb (A1 (ZN sg' (p3j W x i j))),.blk 41 (Fc x)]) (λj=>V.length-j) (λj=>j<=V.length) 0 (Qh _) rfl rfl λj hj=>?_
  by_cases hltj:j<V.length
  ·obtain⟨y,hy⟩:=gxE (l:=V) (i:=j) hltj;have ym:=hVm y (Qc hy);have hy':(W.drop (i+1))[j]? = some y:=by rw[<-hV];exact hy
   obtain⟨U,hU⟩:=nmE (V.drop (j+1));have hUl:U.length=V.length-(j+1):=by rw[hU,Q7]
   have hUm:∀p∈U,p∈W:=λp hp=>by rw[hU]at hp;exact hVm p (Qz hp)
   have hUW:U=(W.drop (i+1)).drop (j+1):=by rw[hU,hV]
   have eU:(U0 W).drop (i+j+2)=U0 U:=by rw[hdr,hU,hV,Jw];congr 2;omega
   have hUr:=G6 U;rw[<-LC W x y i j];refine go tt [.T,.x (Ti hy),.r 61 (eI (b:=((i+j+2:Nat):Int)) (by omega)),.i (i+j+2),.r 62 (UB eU)] rfl (by simp only[U3];(repeat' apply And.intro) <;> first|omega|exact hel) ?_;refine Ui (S:=Nat) 6 (λL1 k=>(64,.v (.oi k))::(6,.v (.one (.orow 2 7 none)))::L1) (λk=>[.blk 205 (Hl c (U0 l) r1),.blk 189 (ta a),.row false 126 7 (U8 ((qT W x y i j k).map (PD sg'))),.mpb (A1 (ZN sg' (qT W x y i j k))),.blk 41 (Fc x),.blk 41 (Fc y)]) (λk=>U.length-k) (λk=>k<=U.length) 0 (Qh _) rfl rfl λk hk=>?_
   by_cases hltk:k<U.length
   ·obtain⟨z,hz⟩:=gxE (l:=U) (i:=k) hltk;have zm:=hUm z (Qc hz);have hlen:=iL hW6 (k:=k) hx hy';have en:=LN (x:=x) (y:=y) (by rw[<-hUW];exact hz);have et:=dF sg' (qT W x y i j k) (x,y,z);rw[<-en]at et;refine go tt [.T,.x (Ti hz),.k (mR xm ym zm),.s (sz:=7) (s7 _)] rfl (by simp[U3,Po] <;> omega) ?_;exact rd (k+1) (by omega) hltk (by rw[et,en,Yh];simp[U8];rfl)
   ·have e:=yB (x:=x) (k:=k) hy' (by rw[<-hUW];omega);rw[e];refine go tt [.F] rfl (by simp[U3] <;> omega) ?_;exact rd (j+1) (by omega) hltj rfl
  ·have e:=yN (x:=x) (j:=j) hx (by rw[<-hV];omega);rw[e];refine go tt [.F] rfl (by simp[U3] <;> omega) ?_;exact rd (i+1) (by omega) hlt rfl
 rw[Qam (show i=W.length by omega),<-hT];have hiW:¬i<W.length:=hlt;clear hlt;obtain⟨C3,hC3⟩:=nmE ((Rv W).map (PD sg'));have hC3l:C3.length<=20:=by rw[hC3,Q8];exact(VQ hW6).1
 rw[<-hC3];refine Ud [.F] rfl ?_;have eC:U8 C3=U8 (C3++(Ev 0 W).map (HL sg')):=by rw[show Ev 0 W=[] from rfl,X8,Zw]
 rw[eC];refine Ui (S:=Nat) 5 (λL1 i=>(97,.v (.oi i))::(6,.v (.one (.orow 2 7 none)))::L1) (λi=>[.blk 205 (Hl c (U0 l) r1),.blk 189 (ta a),.row false 126 7 (U8 (C3++(Ev i W).map (HL sg'))),.mpb T,.mpb (Od T (VS sg' (Ev i W)))]) (λi=>W.length-i) (λi=>i<=W.length) 0 (Qh _) rfl rfl λi hi=>?_
 by_cases hlt:i<W.length
 ·obtain⟨x,hx⟩:=gxE (l:=W) (i:=i) hlt;have xm:=Qc hx;obtain⟨V,hV⟩:=nmE (W.drop (i+1));have hVl:V.length=W.length-(i+1):=by rw[hV,Q7]
  have hVm:∀p∈V,p∈W:=λp hp=>by rw[hV]at hp;exact Qz hp
  have eV:(U0 W).drop (i+1)=U0 V:=by rw[hdr,<-hV]
  have hVr:=G6 V;rw[<-Qjh W x i];refine go tt [.T,.x (Ti hx),.r 104 (eI (b:=((i+1:Nat):Int)) (by omega)),.i (i+1),.r 105 (UB eV)] rfl (by simp only[U3];(repeat' apply And.intro) <;> first|omega|exact hel) ?_;refine Ui (S:=Nat) 6 (λL1 j=>(107,.v (.oi j))::(6,.v (.one (.orow 2 7 none)))::L1) (λj=>[.blk 205 (Hl c (U0 l) r1),.blk 189 (ta a),.row false 126 7 (U8 (C3++(p4j W x i j).map (HL sg'))),.mpb T,.mpb (Od T (VS sg' (p4j W x i j))),.blk 41 (Fc x)]) (λj=>V.length-j) (λj=>j<=V.length) 0 (Qh _) rfl rfl λj hj=>?_
  by_cases hltj:j<V.length
  ·obtain⟨y,hy⟩:=gxE (l:=V) (i:=j) hltj;have ym:=hVm y (Qc hy);have hy':(W.drop (i+1))[j]? = some y:=by rw[<-hV];exact hy
   obtain⟨U,hU⟩:=nmE (V.drop (j+1));have hUl:U.length=V.length-(j+1):=by rw[hU,Q7]
   have hUm:∀p∈U,p∈W:=λp hp=>by rw[hU]at hp;exact hVm p (Qz hp)
   have hUW:U=(W.drop (i+1)).drop (j+1):=by rw[hU,hV]
   have eU:(U0 W).drop (i+j+2)=U0 U:=by rw[hdr,hU,hV,Jw];congr 2;omega
   have hUr:=G6 U;rw[<-Qji W x y i j];refine go tt [.T,.x (Ti hy),.r 116 (eI (b:=((i+j+2:Nat):Int)) (by omega)),.i (i+j+2),.r 117 (UB eU)] rfl (by simp only[U3];(repeat' apply And.intro) <;> first|omega|exact hel) ?_;refine Ui (S:=Nat) 7 (λL1 k=>(119,.v (.oi k))::(6,.v (.one (.orow 2 7 none)))::L1) (λk=>[.blk 205 (Hl c (U0 l) r1),.blk 189 (ta a),.row false 126 7 (U8 (C3++(p4k W x y i j k).map (HL sg'))),.mpb T,.mpb (Od T (VS sg' (p4k W x y i j k))),.blk 41 (Fc x),.blk 41 (Fc y)]) (λk=>U.length-k) (λk=>k<=U.length) 0 (Qh _) rfl rfl λk hk=>?_
   by_cases hltk:k<U.length
   ·obtain⟨z,hz⟩:=gxE (l:=U) (i:=k) hltk;have zm:=hUm z (Qc hz);have hz':((W.drop (i+1)).drop (j+1))[k]? = some z:=by rw[<-hUW];exact hz
    obtain⟨R,hR⟩:=nmE (U.drop (k+1));have hRl:R.length=U.length-(k+1):=by rw[hR,Q7]
    have hRm:∀p∈R,p∈W:=λp hp=>by rw[hR]at hp;exact hUm p (Qz hp)
    have hRW:R=((W.drop (i+1)).drop (j+1)).drop (k+1):=by rw[hR,hUW]
    have eR:(U0 W).drop (i+j+k+3)=U0 R:=by rw[hdr,hRW,Jw,Jw];congr 2;omega
    have hRr:=G6 R;rw[<-Qjk W x y z i j k];refine go tt [.T,.x (Ti hz),.r 130 (eI (b:=((i+j+k+3:Nat):Int)) (by omega)),.i (i+j+k+3),.r 131 (UB eR)] rfl (by simp only[U3];(repeat' apply And.intro) <;> first|omega|exact hel) ?_;refine Ui (S:=Nat) 8 (λL1 m=>(133,.v (.oi m))::(6,.v (.one (.orow 2 7 none)))::L1) (λm=>[.blk 205 (Hl c (U0 l) r1),.blk 189 (ta a),.row false 126 7 (U8 (C3++(p4m W x y z i j k m).map (HL sg'))),.mpb T,.mpb (Od T (VS sg' (p4m W x y z i j k m))),.blk 41 (Fc x),.blk 41 (Fc y),.blk 41 (Fc z)]) (λm=>R.length-m) (λm=>m<=R.length) 0 (Qh _) rfl rfl λm hm=>?_
    by_cases hltm:m<R.length
    ·obtain⟨u,hu⟩:=gxE (l:=R) (i:=m) hltm;have um:=hRm u (Qc hu);have hlen:=Qpo hW6 (m:=m) hx hy' hz';have en:=Qjj (x:=x) (y:=y) (z:=z) (by rw[<-hRW];exact hu);have et:=nJ sg' T (p4m W x y z i j k m) (x,y,z,u);rw[<-en]at et;have cf:=Qtw (F:=Od T (VS sg' (p4m W x y z i j k m))) (s:=(qK sg' x y z u).want) (n0:=x.id) (n1:=y.id) (n2:=z.id) (n3:=u.id) hTI (hgb _);refine go tt [.T,.x (Ti hu),.k (mC xm ym zm um),.s (sz:=7) (s7 _),.c [4,3] cf] rfl (by simp[U3,Po] <;> omega) ?_;exact rd (m+1) (by omega) hltm (by rw[et,en,Yh,<-Zd];simp[U8];rfl)
    ·have e:=Qpn (x:=x) (y:=y) (m:=m) hz' (by rw[<-hRW];omega);rw[e];refine go tt [.F] rfl (by simp[U3] <;> omega) ?_;exact rd (k+1) (by omega) hltk rfl
   ·have e:=Qpm (x:=x) (k:=k) hy' (by rw[<-hUW];omega);rw[e];refine go tt [.F] rfl (by simp[U3] <;> omega) ?_;exact rd (j+1) (by omega) hltj rfl
  ·have e:=Qpl (x:=x) (j:=j) hx (by rw[<-hV];omega);rw[e];refine go tt [.F] rfl (by simp[U3] <;> omega) ?_;exact rd (i+1) (by omega) hlt rfl
 rw[Qp2 (show i=W.length by omega),<-hG];obtain⟨C4,hC4⟩:=nmE (C3++(O4 W).map (HL sg'));rw[<-hC4];refine Ud [.F] rfl ?_;refine ozM 0 13 101 3 rfl rfl ?_;have eT:([]:Us)=ZJ ((Lt 0 W).filter (jL T G)):=rfl;rw[eT];refine Ui (S:=Nat) 6 (λL1 i=>(174,.v (.oi i))::L1) (λi=>[.blk 205 [.bool true,pl c.now.p,sg c.now.lo.num,mg c.now.lo.num,sg (c.now.lo.den:Int),mg (c.now.lo.den:Int),sg c.now.hi.num,mg c.now.hi.num,sg (c.now.hi.den:Int),mg (c.now.hi.den:Int),.row (Cc c.l),.int .i64 c.ev,.row (U0 l),.orow 5 3 none],.blk 189 (ta a),.row false 126 7 (U8 C4),.mpb T,.mpb G,.row false 101 3 (ZJ ((Lt i W).filter (jL T G)))]) (λi=>W.length-i) (λi=>i<=W.length) 0 (Qh _) rfl rfl λi hi=>?_
 by_cases hlt:i<W.length
 ·obtain⟨x,hx⟩:=gxE (l:=W) (i:=i) hlt;obtain⟨V,hV⟩:=nmE (W.drop (i+1));have hVl:V.length=W.length-(i+1):=by rw[hV,Q7]
  have eV:(U0 W).drop (i+1)=U0 V:=by rw[hdr,<-hV]
  have hVr:=G6 V;rw[<-LM W x i];refine go tt [.T,.x (Ti hx),.r 181 (eI (b:=((i+1:Nat):Int)) (by omega)),.i (i+1),.r 182 (UB eV)] rfl (by simp only[U3];(repeat' apply And.intro) <;> first|omega|exact hel) ?_;refine Ui (S:=Nat) 7 (λL1 j=>(184,.v (.oi j))::L1) (λj=>[.blk 205 [.bool true,pl c.now.p,sg c.now.lo.num,mg c.now.lo.num,sg (c.now.lo.den:Int),mg (c.now.lo.den:Int),sg c.now.hi.num,mg c.now.hi.num,sg (c.now.hi.den:Int),mg (c.now.hi.den:Int),.row (Cc c.l),.int .i64 c.ev,.row (U0 l),.orow 5 3 none],.blk 189 (ta a),.row false 126 7 (U8 C4),.mpb T,.mpb G,.row false 101 3 (ZJ ((p3j W x i j).filter (jL T G))),.blk 41 (Fc x)]) (λj=>V.length-j) (λj=>j<=V.length) 0 (Qh _) rfl rfl λj hj=>?_
  by_cases hltj:j<V.length
  ·obtain⟨y,hy⟩:=gxE (l:=V) (i:=j) hltj;have hy':(W.drop (i+1))[j]? = some y:=by rw[<-hV];exact hy
   obtain⟨U,hU⟩:=nmE (V.drop (j+1));have hUl:U.length=V.length-(j+1):=by rw[hU,Q7]
   have hUW:U=(W.drop (i+1)).drop (j+1):=by rw[hU,hV]
   have eU:(U0 W).drop (i+j+2)=U0 U:=by rw[hdr,hU,hV,Jw];congr 2;omega
   have hUr:=G6 U;rw[<-LC W x y i j];refine go tt [.T,.x (Ti hy),.r 193 (eI (b:=((i+j+2:Nat):Int)) (by omega)),.i (i+j+2),.r 194 (UB eU)] rfl (by simp only[U3];(repeat' apply And.intro) <;> first|omega|exact hel) ?_;refine Ui (S:=Nat) 8 (λL1 k=>(196,.v (.oi k))::L1) (λk=>[.blk 205 [.bool true,pl c.now.p,sg c.now.lo.num,mg c.now.lo.num,sg (c.now.lo.den:Int),mg (c.now.lo.den:Int),sg c.now.hi.num,mg c.now.hi.num,sg (c.now.hi.den:Int),mg (c.now.hi.den:Int),.row (Cc c.l),.int .i64 c.ev,.row (U0 l),.orow 5 3 none],.blk 189 (ta a),.row false 126 7 (U8 C4),.mpb T,.mpb G,.row false 101 3 (ZJ ((qT W x y i j k).filter (jL T G))),.blk 41 (Fc x),.blk 41 (Fc y)]) (λk=>U.length-k) (λk=>k<=U.length) 0 (Qh _) rfl rfl λk hk=>?_
   by_cases hltk:k<U.length
   ·obtain⟨z,hz⟩:=gxE (l:=U) (i:=k) hltk;have hlen:=iL hW6 (k:=k) hx hy';have en:=LN (x:=x) (y:=y) (by rw[<-hUW];exact hz);have hfl:=Y0 (jL T G) (qT W x y i j k);have htl:=sV ((qT W x y i j k).filter (jL T G));by_cases h1:ZP T [x.id,y.id,z.id]≠0
    ·by_cases h2:BJ G [x.id,y.id,z.id]=true
     ·have ef:jL T G (x,y,z)=false:=by unfold jL nR;simp[h2]
      have eF:=Qhp (ps:=qT W x y i j k) ef;rw[<-en]at eF;refine go tt [.T,.x (Ti hz),.g 211 true (decide_eq_true h1),.f (by rw[h2];rfl)] rfl (by simp only[U3];(repeat' apply And.intro) <;> first|exact hTm|exact hGB|omega|(simp only[Q5,Xk];omega)) ?_;exact rd (k+1) (by omega) hltk (by rw[eF];rfl)
     ·have h2:BJ G [x.id,y.id,z.id]=false:=by simpa using h2
      have ef:jL T G (x,y,z)=true:=by unfold jL nR;simp[h2,h1]
      have eF:=Qut (ps:=qT W x y i j k) ef;rw[<-en]at eF;refine go tt [.T,.x (Ti hz),.g 211 true (decide_eq_true h1),.t (by rw[h2];rfl),.s (sz:=3) (s3 (x,y,z))] rfl (by simp only[U3];(repeat' apply And.intro) <;> first|exact hTm|exact hGB|omega|(simp only[Q5,Xk];omega)) ?_;exact rd (k+1) (by omega) hltk (by rw[eF];simp[ZJ];rfl)
    ·have ef:jL T G (x,y,z)=false:=by unfold jL nR;simp[h1]
     have eF:=Qhp (ps:=qT W x y i j k) ef;rw[<-en]at eF;refine go tt [.T,.x (Ti hz),.g 211 false (decide_eq_false h1),.f rfl] rfl (by simp only[U3];(repeat' apply And.intro) <;> first|exact hTm|exact hGB|omega|(simp only[Q5,Xk];omega)) ?_;exact rd (k+1) (by omega) hltk (by rw[eF];rfl)
   ·have e:=yB (x:=x) (k:=k) hy' (by rw[<-hUW];omega);rw[e];refine go tt [.F] rfl (by simp[U3] <;> omega) ?_;exact rd (j+1) (by omega) hltj rfl
  ·have e:=yN (x:=x) (j:=j) hx (by rw[<-hV];omega);rw[e];refine go tt [.F] rfl (by simp[U3] <;> omega) ?_;exact rd (i+1) (by omega) hlt rfl
 rw[Qam (show i=W.length by omega)];rw[hC4,hC3];exact Uh [2,5] [0] [.F] rfl
theorem Qxk{T:Nat}{t:Rat}{Bc:Tm->List Ct}{Br:Tm->Us}{r0:Us}(ht:Qs 1640000 t)(hB:BuildOk Bc)
 (hb:∀a c r1,Va a->CrOk c->U6 prog 126 [.one (.ow 0 0),.agg (ta a)] [.blk T (Hl c r0 r1)] [.one (.row (U8 (Bc a)))] [.blk T (Hl c r0 (Br a))])
 {K:Nat} {c c':Cr} {r1 r1':Us} {n:Int} (hc:CrOk c) (hev:0<=c.ev/\c.ev+K<=1000000000000000000) (h:Fp c.now t<=0) (hg:HJ Bc Br t K c r1 0=some (c',r1',n)) :
 U6 prog 372 [.one (.ow 0 0),.agg (rl t),.one (.ofn 126 [.ow 0 0] [])] [.blk T (Hl c r0 r1)] [.oi n,.oi 0] [.blk T (Hl c' r0 r1')]:=by
 have qt:Qb t:=ht.mono (by decide);have c1:=Dk hc.n.tb qt;refine Fv func372 rfl ?_;refine Ud [.c [0] (QV hc.n),.k c1,.f (by simpa using h)] rfl ?_;refine Ui (S:=Nat×Cr×Us×Int) 2 (λL1 s=>(8,.v (.oi s.2.2.2))::L1) (λs=>[.blk T (Hl s.2.1 r0 s.2.2.1),.blk 43 (rl t)]) (λs=>s.1) (λs=>CrOk s.2.1/\(0<=s.2.1.ev/\s.2.1.ev+s.1<=1000000000000000000)/\(0<=s.2.2.2/\s.2.2.2+s.1<=1000000000000000000)/\HJ Bc Br t s.1 s.2.1 s.2.2.1 s.2.2.2=some (c',r1',n)) (K,c,r1,0) ⟨hc,hev,⟨Int.le_refl 0,by dsimp only;omega⟩,hg⟩ rfl rfl λ⟨k,x,r,m⟩ ⟨j1,j2,j3,j4⟩=>?_
 dsimp only at j1 j2 j3 j4 ⊢;cases k with
 |zero=>cases j4
 |
  succ k =>
  simp only[HJ]at j4;obtain⟨ws,w1,j4⟩:=Qd.1 j4;obtain⟨o,o1,j4⟩:=Qd.1 j4;have cn:=MJ (T:=T) (r0:=r0) (r1:=r) j1 w1 o1;have ca:=VD (U4 t.num) (U4 (t.den:Int)) (Qa ht.1 (by decide)) (Qa ht.2 (by decide)) (by rw[Su];exact ht.mono (by decide));rw[Su]at ca;cases o with
  |
   none =>
   injection j4 with j4;injection j4 with e1 j4;injection j4 with e2 e3;subst e1;subst e2;subst e3;exact Uh [] [0] [.c [0] cn,.g 25 true rfl,.t rfl,.k ca] rfl
  |
   some a =>
   have ha:=LR j1 w1 o1;dsimp only at j4;have cc:=Dk ha.tb qt;by_cases h0:0<Fp a t
   ·rw[if_pos h0]at j4;injection j4 with j4;injection j4 with e1 j4;injection j4 with e2 e3;subst e1;subst e2;subst e3;exact Uh [] [0] [.c [0] cn,.g 25 false rfl,.k cc,.t (by simpa using h0),.k ca] rfl
   ·rw[if_neg h0]at j4;obtain⟨w2,l1,j4⟩:=Qd.1 j4;have j1':=Ep j1 w1;have cl:=Pa (b:=a) (l:=[]) ha.tb (λt ht=>by cases ht) (by decide) rfl;have cb:=hb a { x with l:=ws } r ha j1';have cy:=UJ (T:=T) (r0:=r0) (r1:=Br a) j1' ha (hB.p a ha) (hB.n a ha) l1;have hf:decide (0<Fp a t)=false:=by simpa using h0
    refine Ue [.c [0] cn,.g 25 false rfl,.k cc,.f hf,.k cl,.c [0] cb,.c [0] cy] rfl ?_;exact rd (k,⟨a,w2,x.ev+1⟩,Br a,m+1) (by dsimp only;omega) ⟨lay_ok _ j1' ha (hB.p a ha) (hB.n a ha) l1,by dsimp only;omega,by dsimp only;omega,j4⟩ rfl
theorem Qtc{t:Rat}{l:List Pt}{K:Nat}{c c':Cr}{r1 r1':Us}{n:Int}(ht:Qs 1640000 t)(hl:∀p∈l,Sc p.c)(hn:l.length≤6)(hc:CrOk c)(hev:0≤c.ev/\c.ev+K≤1000000000000000000)(h:Fp c.now t≤0)(hg:HJ (xY l) (pT l) t K c r1 0=some (c',r1',n)) :
 U6 prog 408 [.one (.ow 0 0),.agg (rl t)] [.blk 205 (Hl c (U0 l) r1)] [.oi n,.oi 0] [.blk 205 (Hl c' (U0 l) r1')]:=by
 have cg:=Qxk (T:=205) (r0:=U0 l) ht (pX hl hn) (λa c r1 ha _=>IK (c:=c) (r1:=r1) hl hn ha) hc hev h hg;refine Fv func408 rfl ?_;exact Uh [] [0] [.k (Nx (ht.mono (by decide))),.c [0] cg] rfl
theorem pD{c:Cr}{r0:Us}{ts:List P3}(ht:ts.length<=1000):U6 prog 90 [.one (.ow 0 0)] [.blk 205 (Hl c r0 (ZJ ts))] [.one (.row (ZJ ts))] [.blk 205 (Hl c r0 (ZJ ts))]:=by
 have hl:=sV ts;have h3:∀y∈ZJ ts,y.length=3:=λy hy=>by obtain⟨m,_,rfl⟩:=Za.1 hy;rfl
 refine Fv func90 rfl ?_;exact Uh [1] [0] [.s (sz:=3) h3] rfl (by simp[U3] <;> omega)

theorem BV{c:Cr}{l l':List Pt}{r1:Us}{ws:List Wt}(hc:CrOk c)(hl:∀p∈l',Sc p.c)(hn:l'.length≤6)(h:Tl c.l c.now (Fo (xY l' c.now))=some ws) :
 U6 prog 412 [.one (.ow 0 0),.agg [pts l'],.oi 0] [.blk 205 (Hl c (U0 l) r1)] [.oi 0] [.blk 205 (Hl ⟨c.now,ws,c.ev⟩ (U0 l') (pT l' c.now))]:=by
 have hB:=pX hl hn;have cn:=QV (T:=205) (c:=c) (r0:=U0 l') (r1:=r1) hc.n;have cb:=IK (c:=c) (r1:=r1) hl hn hc.n;have cg:=YJ (T:=205) (r0:=U0 l') (r1:=pT l' c.now) hc hc.n (I4 hc.n) (Yd 0) (hB.p _ hc.n) (hB.n _ hc.n) h;refine Fv func412 rfl ?_;exact Uh [] [0] [.f rfl,.c [0] cn,.c [0] cb,.c [0] cg] rfl
theorem Qmv{lx ly:Us}{px py:Um}{x y:LV}{d id:Int}{c:Cr}{l:List Pt}{r1:Us}{ws:List Wt}(hx:IsInts lx px)(hy:IsInts ly py)(hd:Gd x y d)(hk:Cs 4294967294 1073741824 (Crv.mk px py d))(hll:l.length<=900)
 (he:WF l ⟨Crv.norm (Crv.mk px py d),id⟩=0) (hc:CrOk c) (hl:∀p∈put l ⟨Crv.norm (Crv.mk px py d),id⟩,Sc p.c) (hn:(put l ⟨Crv.norm (Crv.mk px py d),id⟩).length≤6) (h:Tl c.l c.now (Fo (xY (put l ⟨Crv.norm (Crv.mk px py d),id⟩) c.now))=some ws) :
 U6 prog 410 [.one (.ow 0 0),.agg [.row lx,.row ly,x,y,.int .i64 id]] [.blk 205 (Hl c (U0 l) r1)] [.oi 0] [.blk 205 (Hl ⟨c.now,ws,c.ev⟩ (U0 (put l ⟨Crv.norm (Crv.mk px py d),id⟩)) (pT (put l ⟨Crv.norm (Crv.mk px py d),id⟩) c.now))]:=by
 have cp:=wW (l:=l) (id:=id) hx hy hd hk (by omega);rw[if_pos he,he]at cp;have cw:=BV (l:=l) (r1:=r1) hc hl hn h;refine Fv func410 rfl ?_;obtain⟨b,l',rfl,rfl,_⟩:=hd;exact Uh [] [0] [.k cp,.c [0] cw] rfl
theorem Qel{lx ly:Us}{px py:Um}{x y:LV}{d id:Int}{c:Cr}{l l':List Pt}{r1:Us}{ws:List Wt}(hx:IsInts lx px)(hy:IsInts ly py)(hd:Gd x y d)(hk:Cs 4294967294 1073741824 (Crv.mk px py d))(hll:l.length<=6)(h:has l id=true)(hc:CrOk c)
 (hl':l'=l.set (Rw l id) (Pt.mk (Crv.norm (Crv.mk px py d)) id)) (hs:∀p∈l',Sc p.c) (hw:Tl c.l c.now (Fo (xY l' c.now))=some ws) :
 U6 prog 411 [.one (.ow 0 0),.agg [.row lx,.row ly,x,y,.int .i64 id]] [.blk 205 (Hl c (U0 l) r1)] [.oi 0] [.blk 205 (Hl ⟨c.now,ws,c.ev⟩ (U0 l') (pT l' c.now))]:=by
 have ct1:=UW (l:=l) hx hy hd hk (by omega) h;rw[<-hl']at ct1;have cw:=BV (c:=c) (l:=l) (l':=l') (r1:=r1) hc hs (by rw[hl',Xd];omega) hw;obtain⟨b,r,rfl,rfl,_⟩:=hd;refine Fv func411 rfl ?_;exact Uh [] [0] [.k ct1,.c [0] cw] rfl
theorem Qek{id:Int}{c:Cr}{l l':List Pt}{r1:Us}{ws:List Wt}(hll:l.length<=6)(h:has l id=true)(hc:CrOk c)
 (hl':l'=l.take (Rw l id)++l.drop (Rw l id+1)) (hs:∀p∈l',Sc p.c) (hw:Tl c.l c.now (Fo (xY l' c.now))=some ws) :
 U6 prog 409 [.one (.ow 0 0),.oi id] [.blk 205 (Hl c (U0 l) r1)] [.oi 0] [.blk 205 (Hl ⟨c.now,ws,c.ev⟩ (U0 l') (pT l' c.now))]:=by
 have ct1:=UV (l:=l) (id:=id) (by omega) h;rw[<-hl']at ct1;have cw:=BV (c:=c) (l:=l) (l':=l') (r1:=r1) hc hs (by rw[hl',Qu,Qq,Q7];omega) hw;refine Fv func409 rfl ?_;exact Uh [] [0] [.k ct1,.c [0] cw] rfl
theorem Qa8{c:Cr}{r0:Us}{r1:Us}:U6 prog 55 [.one (.ow 0 0)] [.blk 205 (Hl c r0 r1)] [.one (.ow 1 0)] [.blk 205 (Hl c r0 r1),.blk 205 (Hl c r0 r1)]:=by
 refine Fv func55 rfl ?_;exact Uh [] [0,1] [] rfl
theorem Qnc{lx ly:Us}{px py:Um}{x y:LV}{d id:Int}{c:Cr}{l l':List Pt}{r1:Us}{ws:List Wt}(hx:IsInts lx px)(hy:IsInts ly py)(hd:Gd x y d)(hk:Cs 4294967294 1073741824 (Crv.mk px py d))(hll:l.length<=900)(h:has l id=true)(hc:CrOk c)
 (hl':l'=l.set (Rw l id) (Pt.mk (Crv.norm (Crv.mk px py d)) id)) (hs:∀p∈l',Sc p.c) (hw:Tl c.l c.now (Fo (VC l' c.now))=some ws) :
 U6 prog 370 [.one (.ow 0 0),.agg [.row lx,.row ly,x,y,.int .i64 id]] [.blk 196 (Hl c (U0 l) r1)] [.oi 0] [.blk 196 (Hl ⟨c.now,ws,c.ev⟩ (U0 l') (pS l' c.now))]:=by
 have ct1:=UW (l:=l) hx hy hd hk (by omega) h;rw[<-hl']at ct1;have cw:=xT (c:=c) (l:=l) (l':=l') (r1:=r1) hc hs (by rw[hl',Xd];omega) hw;obtain⟨b,r,rfl,rfl,_⟩:=hd;refine Fv func370 rfl ?_;exact Uh [] [0] [.k ct1,.c [0] cw] rfl
theorem Qna{id:Int}{c:Cr}{l l':List Pt}{r1:Us}{ws:List Wt}(hll:l.length<=900)(h:has l id=true)(hc:CrOk c)
 (hl':l'=l.take (Rw l id)++l.drop (Rw l id+1)) (hs:∀p∈l',Sc p.c) (hw:Tl c.l c.now (Fo (VC l' c.now))=some ws) :
 U6 prog 367 [.one (.ow 0 0),.oi id] [.blk 196 (Hl c (U0 l) r1)] [.oi 0] [.blk 196 (Hl ⟨c.now,ws,c.ev⟩ (U0 l') (pS l' c.now))]:=by
 have ct1:=UV (l:=l) (id:=id) (by omega) h;rw[<-hl']at ct1;have cw:=xT (c:=c) (l:=l) (l':=l') (r1:=r1) hc hs (by rw[hl',Qu,Qq,Q7];omega) hw;refine Fv func367 rfl ?_;exact Uh [] [0] [.k ct1,.c [0] cw] rfl
theorem Qxl{T:Nat}{t:Rat}{Bc:Tm->List Ct}{Br:Tm->Us}{r0:Us}(ht:Qs 1640000 t)(hB:BuildOk Bc)
 (hb:∀a c r1,Va a->CrOk c->U6 prog 124 [.one (.ow 0 0),.agg (ta a)] [.blk T (Hl c r0 r1)] [.one (.row (U8 (Bc a)))] [.blk T (Hl c r0 (Br a))])
 {K:Nat} {c c':Cr} {r1 r1':Us} {n:Int} (hc:CrOk c) (hev:0<=c.ev/\c.ev+K<=1000000000000000000) (h:Fp c.now t<=0) (hg:HJ Bc Br t K c r1 0=some (c',r1',n)) :
 U6 prog 372 [.one (.ow 0 0),.agg (rl t),.one (.ofn 124 [.ow 0 0] [])] [.blk T (Hl c r0 r1)] [.oi n,.oi 0] [.blk T (Hl c' r0 r1')]:=by
 have qt:Qb t:=ht.mono (by decide);have c1:=Dk hc.n.tb qt;refine Fv func372 rfl ?_;refine Ud [.c [0] (QV hc.n),.k c1,.f (by simpa using h)] rfl ?_;refine Ui (S:=Nat×Cr×Us×Int) 2 (λL1 s=>(8,.v (.oi s.2.2.2))::L1) (λs=>[.blk T (Hl s.2.1 r0 s.2.2.1),.blk 43 (rl t)]) (λs=>s.1) (λs=>CrOk s.2.1/\(0<=s.2.1.ev/\s.2.1.ev+s.1<=1000000000000000000)/\(0<=s.2.2.2/\s.2.2.2+s.1<=1000000000000000000)/\HJ Bc Br t s.1 s.2.1 s.2.2.1 s.2.2.2=some (c',r1',n)) (K,c,r1,0) ⟨hc,hev,⟨Int.le_refl 0,by dsimp only;omega⟩,hg⟩ rfl rfl λ⟨k,x,r,m⟩ ⟨j1,j2,j3,j4⟩=>?_
 dsimp only at j1 j2 j3 j4 ⊢;cases k with
 |zero=>cases j4
 |
  succ k =>
  simp only[HJ]at j4;obtain⟨ws,w1,j4⟩:=Qd.1 j4;obtain⟨o,o1,j4⟩:=Qd.1 j4;have cn:=MJ (T:=T) (r0:=r0) (r1:=r) j1 w1 o1;have ca:=VD (U4 t.num) (U4 (t.den:Int)) (Qa ht.1 (by decide)) (Qa ht.2 (by decide)) (by rw[Su];exact ht.mono (by decide));rw[Su]at ca;cases o with
  |
   none =>
   injection j4 with j4;injection j4 with e1 j4;injection j4 with e2 e3;subst e1;subst e2;subst e3;exact Uh [] [0] [.c [0] cn,.g 25 true rfl,.t rfl,.k ca] rfl
  |
   some a =>
   have ha:=LR j1 w1 o1;dsimp only at j4;have cc:=Dk ha.tb qt;by_cases h0:0<Fp a t
   ·rw[if_pos h0]at j4;injection j4 with j4;injection j4 with e1 j4;injection j4 with e2 e3;subst e1;subst e2;subst e3;exact Uh [] [0] [.c [0] cn,.g 25 false rfl,.k cc,.t (by simpa using h0),.k ca] rfl
   ·rw[if_neg h0]at j4;obtain⟨w2,l1,j4⟩:=Qd.1 j4;have j1':=Ep j1 w1;have cl:=Pa (b:=a) (l:=[]) ha.tb (λt ht=>by cases ht) (by decide) rfl;have cb:=hb a { x with l:=ws } r ha j1';have cy:=UJ (T:=T) (r0:=r0) (r1:=Br a) j1' ha (hB.p a ha) (hB.n a ha) l1;have hf:decide (0<Fp a t)=false:=by simpa using h0
    refine Ue [.c [0] cn,.g 25 false rfl,.k cc,.f hf,.k cl,.c [0] cb,.c [0] cy] rfl ?_;exact rd (k,⟨a,w2,x.ev+1⟩,Br a,m+1) (by dsimp only;omega) ⟨lay_ok _ j1' ha (hB.p a ha) (hB.n a ha) l1,by dsimp only;omega,by dsimp only;omega,j4⟩ rfl
def Qxe(l:List Pt)(a:Tm):Cr:=⟨a,(Fo (NL l a)).map fresh,0⟩
theorem Qte{t:Rat}{l:List Pt}{K:Nat}{c c':Cr}{r1 r1':Us}{n:Int}(ht:Qs 1640000 t)(hl:∀p∈l,Sc p.c)(hn:l.length≤10)(hc:CrOk c)(hev:0≤c.ev/\c.ev+K≤1000000000000000000)(h:Fp c.now t≤0)(hg:HJ (NL l) (brH l) t K c r1 0=some (c',r1',n)) :
 U6 prog 398 [.one (.ow 0 0),.agg (rl t)] [.blk 201 (Hl c (U0 l) r1)] [.oi n,.oi 0] [.blk 201 (Hl c' (U0 l) r1')]:=by
 have cg:=Qxl (T:=201) (r0:=U0 l) ht (pJ hl hn) (λa c r1 ha _=>IU (c:=c) (r1:=r1) hl hn ha) hc hev h hg;refine Fv func398 rfl ?_;exact Uh [] [0] [.k (Nx (ht.mono (by decide))),.c [0] cg] rfl
theorem Qtf{c:Cr}{l s:List Pt}(hs:s.length<=1000000):U6 prog 89 [.one (.ow 0 0)] [.blk 201 (Hl c (U0 l) (U0 s))] [.one (ids (s.map (·.id)))] [.blk 201 (Hl c (U0 l) (U0 s))]:=by
 have hcl:=G6 s;refine Fv func89 rfl ?_;refine Ud [.o 3 3 1] rfl ?_;refine Ui (S:=Nat) 2 (λL1 i=>(11,.v (.oi i))::(3,.v (.one (.orow 1 1 none)))::L1) (λi=>[.blk 201 (Hl c (U0 l) (U0 s)),.row false 3 1 (((s.take i).map (·.id)).map λ(z:Int)=>[LV.int .i64 z])]) (λi=>s.length-i) (λi=>i<=s.length) 0 (Qh _) rfl rfl λi hi=>?_
 by_cases hlt:i<s.length
 ·obtain⟨p,hp⟩:=gxE (l:=s) (i:=i) hlt;have hg:(((s.take (i+1)).map (·.id)).map λ(z:Int)=>[LV.int .i64 z])=(((s.take i).map (·.id)).map λ(z:Int)=>[LV.int .i64 z])++[[.int .i64 p.id]]:=by
   rw[Zv,hp];simp
  refine Ue [.t (by simp[hcl];omega),.x (S6 hp),.s (sz:=1) (l:=[[.int .i64 p.id]]) (λc hc=>by rw[Qk.1 hc];rfl)] rfl ?_;exact rd (i+1) (by omega) hlt (by rw[hg];rfl)
 ·obtain rfl:i=s.length:=by omega
  rw[Q6];exact Uh [1] [0] [.f (by simp[hcl])] rfl
abbrev ZD(k:Nat)(np nd:Int)(M:List Pt)(q:Rat)(s t h p d:Cr):Ut:=[.blk 88 (uN k q),tB np nd M,bS s M q,bT t M q,bH h M q,bP p M q,bD d M q]
abbrev Qz6(k:Nat):Ur:=[.oif 82 (k+2) 0,.oif 83 (k+3) 0,.oif 84 (k+4) 0,.oif 85 (k+5) 0,.oif 86 (k+6) 0]
theorem IR{np nd:Int}{Mt M:List Pt}{q:Rat}{s t h p d:Cr}:U6 prog 43 [.one (.ow 0 0)] [.blk 88 (uN 0 q),tB np nd Mt,bS s M q,bT t M q,bH h M q,bP p M q,bD d M q] [.agg (Qz6 0)] [.blk 88 (uN 0 q),tB np nd Mt,bS s M q,bT t M q,bH h M q,bP p M q,bD d M q]:=by
 refine Fv func43 rfl ?_;exact Uh [] [0,1,2,3,4,5,6] [] rfl
abbrev zH(k i:Nat)(a b:OB):OB:=match Nat.blt k i with
 |true=>b
 |false=>a
theorem Qeu{np nd id:Int}{M M':List Pt}{q:Rat}{s t h p d s' t' h' p' d':Cr}{lx ly l3:Us}{bn:Bool}{e1 e2 e3 e4 e5:Int}
 (ht:U6 prog 76 [.one (.ow 0 0),.agg [.row lx,.row ly,.bool bn,.row l3,.int .i64 id]] [tB np nd M] [.oi 0] [tB np nd M'])
 (h1:U6 prog 369 [.one (.ow 0 0),.agg [.row lx,.row ly,.bool bn,.row l3,.int .i64 id]] [bS s M q] [.oi e1] [bS s' M' q])
 (h2:U6 prog 395 [.one (.ow 0 0),.agg [.row lx,.row ly,.bool bn,.row l3,.int .i64 id]] [bT t M q] [.oi e2] [bT t' M' q])
 (h3:U6 prog 400 [.one (.ow 0 0),.agg [.row lx,.row ly,.bool bn,.row l3,.int .i64 id]] [bH h M q] [.oi e3] [bH h' M' q])
 (h4:U6 prog 405 [.one (.ow 0 0),.agg [.row lx,.row ly,.bool bn,.row l3,.int .i64 id]] [bP p M q] [.oi e4] [bP p' M' q])
 (h5:U6 prog 410 [.one (.ow 0 0),.agg [.row lx,.row ly,.bool bn,.row l3,.int .i64 id]] [bD d M q] [.oi e5] [bD d' M' q]) :
 U6 prog 27 [.one (.ow 0 0),.oi id,.agg [.row lx,.row ly,.bool bn,.row l3]] (ZD 0 np nd M q s t h p d) [.oi 0] (ZD 0 np nd M' q s' t' h' p' d'):=by
 refine Fv func27 rfl ?_;refine Ud [.c [1] ht,.f rfl,.c Uv IR] rfl ?_;refine Ui (S:=Nat) 9 (λL1 i=>(25,.v (.oi i))::L1) (λi=>[.blk 88 (uN 0 q),tB np nd M',zH 0 i (bS s M q) (bS s' M' q),zH 1 i (bT t M q) (bT t' M' q),zH 2 i (bH h M q) (bH h' M' q),zH 3 i (bP p M q) (bP p' M' q),zH 4 i (bD d M q) (bD d' M' q),.blk 39 [.row lx,.row ly,.bool bn,.row l3],.blk 41 [.row lx,.row ly,.bool bn,.row l3,.int .i64 id]]) (λi=>5-i) (λi=>i<=5) 0 (by decide) rfl rfl λi hi=>?_
 rcases(show i=0\/i=1\/i=2\/i=3\/i=4\/i=5 by omega)with rfl|rfl|rfl|rfl|rfl|rfl
 ·exact go tt [.t rfl,.i 0,.c [2] h1] rfl (by simp[U3]) (rd 1 (by omega) (by omega) rfl)
 ·exact go tt [.t rfl,.i 1,.c [3] h2] rfl (by simp[U3]) (rd 2 (by omega) (by omega) rfl)
 ·exact go tt [.t rfl,.i 2,.c [4] h3] rfl (by simp[U3]) (rd 3 (by omega) (by omega) rfl)
 ·exact go tt [.t rfl,.i 3,.c [5] h4] rfl (by simp[U3]) (rd 4 (by omega) (by omega) rfl)
 ·exact go tt [.t rfl,.i 4,.c [6] h5] rfl (by simp[U3]) (rd 5 (by omega) (by omega) rfl)
 ·exact Uh [] [0,1,2,3,4,5,6] [.f rfl] rfl
theorem Qbe{np nd id:Int}{M:List Pt}{q:Rat}{s t h p d:Cr}{lx ly l3:Us}{bn:Bool}{e:Int}(he:e≠0)
 (ht:U6 prog 76 [.one (.ow 0 0),.agg [.row lx,.row ly,.bool bn,.row l3,.int .i64 id]] [tB np nd M] [.oi e] [tB np nd M]) :
 U6 prog 27 [.one (.ow 0 0),.oi id,.agg [.row lx,.row ly,.bool bn,.row l3]] (ZD 0 np nd M q s t h p d) [.oi e] (ZD 0 np nd M q s t h p d):=by
 refine Fv func27 rfl ?_;exact Uh [] [0,1,2,3,4,5,6] [.c [1] ht,.t (by simpa using he)] rfl
theorem Qfc{np nd id:Int}{M M':List Pt}{q:Rat}{s t h p d s' t' h' p' d':Cr}{lx ly l3:Us}{bn:Bool}{e1 e2 e3 e4 e5:Int}
 (ht:U6 prog 86 [.one (.ow 0 0),.agg [.row lx,.row ly,.bool bn,.row l3,.int .i64 id]] [tB np nd M] [.oi 0] [tB np nd M'])
 (h1:U6 prog 370 [.one (.ow 0 0),.agg [.row lx,.row ly,.bool bn,.row l3,.int .i64 id]] [bS s M q] [.oi e1] [bS s' M' q])
 (h2:U6 prog 396 [.one (.ow 0 0),.agg [.row lx,.row ly,.bool bn,.row l3,.int .i64 id]] [bT t M q] [.oi e2] [bT t' M' q])
 (h3:U6 prog 401 [.one (.ow 0 0),.agg [.row lx,.row ly,.bool bn,.row l3,.int .i64 id]] [bH h M q] [.oi e3] [bH h' M' q])
 (h4:U6 prog 406 [.one (.ow 0 0),.agg [.row lx,.row ly,.bool bn,.row l3,.int .i64 id]] [bP p M q] [.oi e4] [bP p' M' q])
 (h5:U6 prog 411 [.one (.ow 0 0),.agg [.row lx,.row ly,.bool bn,.row l3,.int .i64 id]] [bD d M q] [.oi e5] [bD d' M' q]) :
 U6 prog 36 [.one (.ow 0 0),.oi id,.agg [.row lx,.row ly,.bool bn,.row l3]] (ZD 0 np nd M q s t h p d) [.oi 0] (ZD 0 np nd M' q s' t' h' p' d'):=by
 refine Fv func36 rfl ?_;refine Ud [.c [1] ht,.f rfl,.c Uv IR] rfl ?_;refine Ui (S:=Nat) 9 (λL1 i=>(25,.v (.oi i))::L1) (λi=>[.blk 88 (uN 0 q),tB np nd M',zH 0 i (bS s M q) (bS s' M' q),zH 1 i (bT t M q) (bT t' M' q),zH 2 i (bH h M q) (bH h' M' q),zH 3 i (bP p M q) (bP p' M' q),zH 4 i (bD d M q) (bD d' M' q),.blk 39 [.row lx,.row ly,.bool bn,.row l3],.blk 41 [.row lx,.row ly,.bool bn,.row l3,.int .i64 id]]) (λi=>5-i) (λi=>i<=5) 0 (by decide) rfl rfl λi hi=>?_
 rcases(show i=0\/i=1\/i=2\/i=3\/i=4\/i=5 by omega)with rfl|rfl|rfl|rfl|rfl|rfl
 ·exact go tt [.t rfl,.i 0,.c [2] h1] rfl (by simp[U3]) (rd 1 (by omega) (by omega) rfl)
 ·exact go tt [.t rfl,.i 1,.c [3] h2] rfl (by simp[U3]) (rd 2 (by omega) (by omega) rfl)
 ·exact go tt [.t rfl,.i 2,.c [4] h3] rfl (by simp[U3]) (rd 3 (by omega) (by omega) rfl)
 ·exact go tt [.t rfl,.i 3,.c [5] h4] rfl (by simp[U3]) (rd 4 (by omega) (by omega) rfl)
 ·exact go tt [.t rfl,.i 4,.c [6] h5] rfl (by simp[U3]) (rd 5 (by omega) (by omega) rfl)
 ·exact Uh [] [0,1,2,3,4,5,6] [.f rfl] rfl
theorem Qbi{np nd id:Int}{M:List Pt}{q:Rat}{s t h p d:Cr}{lx ly l3:Us}{bn:Bool}{e:Int}(he:e≠0)
 (ht:U6 prog 86 [.one (.ow 0 0),.agg [.row lx,.row ly,.bool bn,.row l3,.int .i64 id]] [tB np nd M] [.oi e] [tB np nd M]) :
 U6 prog 36 [.one (.ow 0 0),.oi id,.agg [.row lx,.row ly,.bool bn,.row l3]] (ZD 0 np nd M q s t h p d) [.oi e] (ZD 0 np nd M q s t h p d):=by
 refine Fv func36 rfl ?_;exact Uh [] [0,1,2,3,4,5,6] [.c [1] ht,.t (by simpa using he)] rfl
theorem Qem{np nd id:Int}{M M':List Pt}{q:Rat}{s t h p d s' t' h' p' d':Cr}{e1 e2 e3 e4 e5:Int}
 (ht:U6 prog 87 [.one (.ow 0 0),.oi id] [tB np nd M] [.oi 0] [tB np nd M'])
 (h1:U6 prog 367 [.one (.ow 0 0),.oi id] [bS s M q] [.oi e1] [bS s' M' q])
 (h2:U6 prog 394 [.one (.ow 0 0),.oi id] [bT t M q] [.oi e2] [bT t' M' q])
 (h3:U6 prog 399 [.one (.ow 0 0),.oi id] [bH h M q] [.oi e3] [bH h' M' q])
 (h4:U6 prog 404 [.one (.ow 0 0),.oi id] [bP p M q] [.oi e4] [bP p' M' q])
 (h5:U6 prog 409 [.one (.ow 0 0),.oi id] [bD d M q] [.oi e5] [bD d' M' q]) :
 U6 prog 37 [.one (.ow 0 0),.oi id] (ZD 0 np nd M q s t h p d) [.oi 0] (ZD 0 np nd M' q s' t' h' p' d'):=by
 refine Fv func37 rfl ?_;refine Ud [.c [1] ht,.f rfl,.c Uv IR] rfl ?_;refine Ui (S:=Nat) 7 (λL1 i=>(19,.v (.oi i))::L1) (λi=>[.blk 88 (uN 0 q),tB np nd M',zH 0 i (bS s M q) (bS s' M' q),zH 1 i (bT t M q) (bT t' M' q),zH 2 i (bH h M q) (bH h' M' q),zH 3 i (bP p M q) (bP p' M' q),zH 4 i (bD d M q) (bD d' M' q)]) (λi=>5-i) (λi=>i<=5) 0 (by decide) rfl rfl λi hi=>?_
 rcases(show i=0\/i=1\/i=2\/i=3\/i=4\/i=5 by omega)with rfl|rfl|rfl|rfl|rfl|rfl
 ·exact go tt [.t rfl,.i 0,.c [2] h1] rfl (by simp[U3]) (rd 1 (by omega) (by omega) rfl)
 ·exact go tt [.t rfl,.i 1,.c [3] h2] rfl (by simp[U3]) (rd 2 (by omega) (by omega) rfl)
 ·exact go tt [.t rfl,.i 2,.c [4] h3] rfl (by simp[U3]) (rd 3 (by omega) (by omega) rfl)
 ·exact go tt [.t rfl,.i 3,.c [5] h4] rfl (by simp[U3]) (rd 4 (by omega) (by omega) rfl)
 ·exact go tt [.t rfl,.i 4,.c [6] h5] rfl (by simp[U3]) (rd 5 (by omega) (by omega) rfl)
 ·exact Uh [] [0,1,2,3,4,5,6] [.f rfl] rfl
theorem Qa9{np nd id:Int}{M:List Pt}{q:Rat}{s t h p d:Cr}{e:Int}(he:e≠0)
 (ht:U6 prog 87 [.one (.ow 0 0),.oi id] [tB np nd M] [.oi e] [tB np nd M]) :
 U6 prog 37 [.one (.ow 0 0),.oi id] (ZD 0 np nd M q s t h p d) [.oi e] (ZD 0 np nd M q s t h p d):=by
 refine Fv func37 rfl ?_;exact Uh [] [0,1,2,3,4,5,6] [.c [1] ht,.t (by simpa using he)] rfl
theorem Qa7{np nd:Int}{M:List Pt}{q r:Rat}{s t h p d s' t' h' p' d':Cr}{x0 x1 x2 x3:LV}{a b n1 n2 n3 n4 n5:Int}(ha:Gd x0 x1 a)(hb:Gd x2 x3 b)(sa:Fe a<=4294967295)(sb:Fe b<=4294967295)(hr:Gi a b=r)(hs:Qs 128 r)(hq:Qs 128 q)(hqr:q<=r)
 (h1:U6 prog 365 [.one (.ow 0 0),.agg (rl r)] [bS s M q] [.oi n1,.oi 0] [bS s' M r])
 (h2:U6 prog 393 [.one (.ow 0 0),.agg (rl r)] [bT t M q] [.oi n2,.oi 0] [bT t' M r])
 (h3:U6 prog 398 [.one (.ow 0 0),.agg (rl r)] [bH h M q] [.oi n3,.oi 0] [bH h' M r])
 (h4:U6 prog 403 [.one (.ow 0 0),.agg (rl r)] [bP p M q] [.oi n4,.oi 0] [bP p' M r])
 (h5:U6 prog 408 [.one (.ow 0 0),.agg (rl r)] [bD d M q] [.oi n5,.oi 0] [bD d' M r]) :
 U6 prog 21 [.one (.ow 0 0),.agg [x0,x1,x2,x3]] (ZD 0 np nd M q s t h p d) [.oi 0] (ZD 0 np nd M r s' t' h' p' d'):=by
 have cm:=BE ha hb sa sb;rw[hr]at cm;obtain⟨b1,r1,rfl,rfl,_⟩:=ha;obtain⟨b2,r2,rfl,rfl,_⟩:=hb;have cc:=Ci (a:=r) (b:=q) (hs.mono (by decide)) (hq.mono (by decide));have l1:=ZM.2 hs.1;have l2:(Gb r.den).length<=4:=by simpa using ZM.2 hs.2
 have hc:¬He r q<0:=λh=>absurd (Ny.1 h) (Rat.not_lt.2 hqr)
 refine Fv func21 rfl ?_;refine Ud [.k cm,.f (by simp[kU];omega),.f (by simp[kU];omega),.k cc,.f (by simpa using hc),.c Uv IR] rfl ?_;refine Ui (S:=Nat) 8 (λL1 i=>(32,.v (.oi i))::L1) (λi=>[.blk 88 (uN 0 q),tB np nd M,zH 0 i (bS s M q) (bS s' M r),zH 1 i (bT t M q) (bT t' M r),zH 2 i (bH h M q) (bH h' M r),zH 3 i (bP p M q) (bP p' M r),zH 4 i (bD d M q) (bD d' M r),.blk 43 (rl r)]) (λi=>5-i) (λi=>i<=5) 0 (by decide) rfl rfl λi hi=>?_
 rcases(show i=0\/i=1\/i=2\/i=3\/i=4\/i=5 by omega)with rfl|rfl|rfl|rfl|rfl|rfl
 ·exact go tt [.t rfl,.i 0,.c [2] h1] rfl (by simp[U3]) (rd 1 (by omega) (by omega) rfl)
 ·exact go tt [.t rfl,.i 1,.c [3] h2] rfl (by simp[U3]) (rd 2 (by omega) (by omega) rfl)
 ·exact go tt [.t rfl,.i 2,.c [4] h3] rfl (by simp[U3]) (rd 3 (by omega) (by omega) rfl)
 ·exact go tt [.t rfl,.i 3,.c [5] h4] rfl (by simp[U3]) (rd 4 (by omega) (by omega) rfl)
 ·exact go tt [.t rfl,.i 4,.c [6] h5] rfl (by simp[U3]) (rd 5 (by omega) (by omega) rfl)
 ·exact Uh [] [0,1,2,3,4,5,6] [.f rfl] rfl
theorem xF{np nd:Int}{M:List Pt}{q r:Rat}{s t h p d:Cr}{x0 x1 x2 x3:LV}{a b:Int}(ha:Gd x0 x1 a)(hb:Gd x2 x3 b)(sa:Fe a<=4294967295)(sb:Fe b<=4294967295)(hr:Gi a b=r)(hs:¬Qs 128 r) :
 U6 prog 21 [.one (.ow 0 0),.agg [x0,x1,x2,x3]] (ZD 0 np nd M q s t h p d) [.oi 1] (ZD 0 np nd M q s t h p d):=by
 have cm:=BE ha hb sa sb;rw[hr]at cm;obtain⟨b1,r1,rfl,rfl,_⟩:=ha;obtain⟨b2,r2,rfl,rfl,_⟩:=hb;refine Fv func21 rfl ?_;by_cases h1:Fe r.num<=128
 ·have h2:¬Fe (r.den:Int)<=128:=λh=>hs ⟨h1,h⟩
  have l1:=ZM.2 h1;have l2:=mt ZM.1 h2;exact Uh [] [0,1,2,3,4,5,6] [.k cm,.f (by simp[kU];omega),.t (by simp[kU]at l2 ⊢;omega)] rfl
 ·have l1:=mt ZM.1 h1;exact Uh [] [0,1,2,3,4,5,6] [.k cm,.t (by simp[kU];omega),.t rfl] rfl
theorem AP{np nd:Int}{M:List Pt}{q r:Rat}{s t h p d:Cr}{x0 x1 x2 x3:LV}{a b:Int}(ha:Gd x0 x1 a)(hb:Gd x2 x3 b)(sa:Fe a<=4294967295)(sb:Fe b<=4294967295)(hr:Gi a b=r)(hs:Qs 128 r)(hq:Qs 128 q)(hqr:r<q) :
 U6 prog 21 [.one (.ow 0 0),.agg [x0,x1,x2,x3]] (ZD 0 np nd M q s t h p d) [.oi 8] (ZD 0 np nd M q s t h p d):=by
 have cm:=BE ha hb sa sb;rw[hr]at cm;obtain⟨b1,r1,rfl,rfl,_⟩:=ha;obtain⟨b2,r2,rfl,rfl,_⟩:=hb;have cc:=Ci (a:=r) (b:=q) (hs.mono (by decide)) (hq.mono (by decide));have l1:=ZM.2 hs.1;have l2:(Gb r.den).length<=4:=by simpa using ZM.2 hs.2
 have hc:He r q<0:=Ny.2 hqr;refine Fv func21 rfl ?_;exact Uh [] [0,1,2,3,4,5,6] [.k cm,.f (by simp[kU];omega),.f (by simp[kU];omega),.k cc,.t (by simpa using hc)] rfl
theorem BW{c:Cr}{l l':List Pt}{r1:Us}{ws:List Wt}(hc:CrOk c)(hl:∀p∈l',Sc p.c)(hn:l'.length≤10)(h:Tl c.l c.now (Fo (NL l' c.now))=some ws) :
 U6 prog 402 [.one (.ow 0 0),.agg [pts l'],.oi 0] [.blk 201 (Hl c (U0 l) r1)] [.oi 0] [.blk 201 (Hl ⟨c.now,ws,c.ev⟩ (U0 l') (brH l' c.now))]:=by
 have hB:=pJ hl hn;have cn:=QV (T:=201) (c:=c) (r0:=U0 l') (r1:=r1) hc.n;have cb:=IU (c:=c) (r1:=r1) hl hn hc.n;have cg:=YJ (T:=201) (r0:=U0 l') (r1:=brH l' c.now) hc hc.n (I4 hc.n) (Yd 0) (hB.p _ hc.n) (hB.n _ hc.n) h;refine Fv func402 rfl ?_;exact Uh [] [0] [.f rfl,.c [0] cn,.c [0] cb,.c [0] cg] rfl
theorem Qmz{lx ly:Us}{px py:Um}{x y:LV}{d id:Int}{c:Cr}{l:List Pt}{r1:Us}{ws:List Wt}(hx:IsInts lx px)(hy:IsInts ly py)(hd:Gd x y d)(hk:Cs 4294967294 1073741824 (Crv.mk px py d))(hll:l.length<=900)
 (he:WF l ⟨Crv.norm (Crv.mk px py d),id⟩=0) (hc:CrOk c) (hl:∀p∈put l ⟨Crv.norm (Crv.mk px py d),id⟩,Sc p.c) (hn:(put l ⟨Crv.norm (Crv.mk px py d),id⟩).length≤10) (h:Tl c.l c.now (Fo (NL (put l ⟨Crv.norm (Crv.mk px py d),id⟩) c.now))=some ws) :
 U6 prog 400 [.one (.ow 0 0),.agg [.row lx,.row ly,x,y,.int .i64 id]] [.blk 201 (Hl c (U0 l) r1)] [.oi 0] [.blk 201 (Hl ⟨c.now,ws,c.ev⟩ (U0 (put l ⟨Crv.norm (Crv.mk px py d),id⟩)) (brH (put l ⟨Crv.norm (Crv.mk px py d),id⟩) c.now))]:=by
 have cp:=wW (l:=l) (id:=id) hx hy hd hk (by omega);rw[if_pos he,he]at cp;have cw:=BW (l:=l) (r1:=r1) hc hl hn h;refine Fv func400 rfl ?_;obtain⟨b,l',rfl,rfl,_⟩:=hd;exact Uh [] [0] [.k cp,.c [0] cw] rfl
theorem Qes{lx ly:Us}{px py:Um}{x y:LV}{d id:Int}{c:Cr}{l l':List Pt}{r1:Us}{ws:List Wt}(hx:IsInts lx px)(hy:IsInts ly py)(hd:Gd x y d)(hk:Cs 4294967294 1073741824 (Crv.mk px py d))(hll:l.length<=10)(h:has l id=true)(hc:CrOk c)
 (hl':l'=l.set (Rw l id) (Pt.mk (Crv.norm (Crv.mk px py d)) id)) (hs:∀p∈l',Sc p.c) (hw:Tl c.l c.now (Fo (NL l' c.now))=some ws) :
 U6 prog 401 [.one (.ow 0 0),.agg [.row lx,.row ly,x,y,.int .i64 id]] [.blk 201 (Hl c (U0 l) r1)] [.oi 0] [.blk 201 (Hl ⟨c.now,ws,c.ev⟩ (U0 l') (brH l' c.now))]:=by
 have ct1:=UW (l:=l) hx hy hd hk (by omega) h;rw[<-hl']at ct1;have cw:=BW (c:=c) (l:=l) (l':=l') (r1:=r1) hc hs (by rw[hl',Xd];omega) hw;obtain⟨b,r,rfl,rfl,_⟩:=hd;refine Fv func401 rfl ?_;exact Uh [] [0] [.k ct1,.c [0] cw] rfl
theorem Qer{id:Int}{c:Cr}{l l':List Pt}{r1:Us}{ws:List Wt}(hll:l.length<=10)(h:has l id=true)(hc:CrOk c)
 (hl':l'=l.take (Rw l id)++l.drop (Rw l id+1)) (hs:∀p∈l',Sc p.c) (hw:Tl c.l c.now (Fo (NL l' c.now))=some ws) :
 U6 prog 399 [.one (.ow 0 0),.oi id] [.blk 201 (Hl c (U0 l) r1)] [.oi 0] [.blk 201 (Hl ⟨c.now,ws,c.ev⟩ (U0 l') (brH l' c.now))]:=by
 have ct1:=UV (l:=l) (id:=id) (by omega) h;rw[<-hl']at ct1;have cw:=BW (c:=c) (l:=l) (l':=l') (r1:=r1) hc hs (by rw[hl',Qu,Qq,Q7];omega) hw;refine Fv func399 rfl ?_;exact Uh [] [0] [.k ct1,.c [0] cw] rfl
theorem Qbd{c:Cr}{r0:Us}{r1:Us}:U6 prog 53 [.one (.ow 0 0)] [.blk 201 (Hl c r0 r1)] [.one (.ow 1 0)] [.blk 201 (Hl c r0 r1),.blk 201 (Hl c r0 r1)]:=by
 refine Fv func53 rfl ?_;exact Uh [] [0,1] [] rfl
theorem BH{c:Cr}{l l':List Pt}{r1:Us}{ws:List Wt}(hc:CrOk c)(hl:∀p∈l',Sc p.c)(hn:l'.length≤10)(h:Tl c.l c.now (Fo (sN l' c.now))=some ws) :
 U6 prog 407 [.one (.ow 0 0),.agg [pts l'],.oi 0] [.blk 203 (Hl c (U0 l) r1)] [.oi 0] [.blk 203 (Hl ⟨c.now,ws,c.ev⟩ (U0 l') (brP l' c.now))]:=by
 have hB:=Qec hl hn;have cn:=QV (T:=203) (c:=c) (r0:=U0 l') (r1:=r1) hc.n;have cb:=IF (c:=c) (r1:=r1) hl hn hc.n;have cg:=YJ (T:=203) (r0:=U0 l') (r1:=brP l' c.now) hc hc.n (I4 hc.n) (Yd 0) (hB.p _ hc.n) (hB.n _ hc.n) h;refine Fv func407 rfl ?_;exact Uh [] [0] [.f rfl,.c [0] cn,.c [0] cb,.c [0] cg] rfl
theorem Qm7{lx ly:Us}{px py:Um}{x y:LV}{d id:Int}{c:Cr}{l:List Pt}{r1:Us}{ws:List Wt}(hx:IsInts lx px)(hy:IsInts ly py)(hd:Gd x y d)(hk:Cs 4294967294 1073741824 (Crv.mk px py d))(hll:l.length<=900)
 (he:WF l ⟨Crv.norm (Crv.mk px py d),id⟩=0) (hc:CrOk c) (hl:∀p∈put l ⟨Crv.norm (Crv.mk px py d),id⟩,Sc p.c) (hn:(put l ⟨Crv.norm (Crv.mk px py d),id⟩).length≤10) (h:Tl c.l c.now (Fo (sN (put l ⟨Crv.norm (Crv.mk px py d),id⟩) c.now))=some ws) :
 U6 prog 405 [.one (.ow 0 0),.agg [.row lx,.row ly,x,y,.int .i64 id]] [.blk 203 (Hl c (U0 l) r1)] [.oi 0] [.blk 203 (Hl ⟨c.now,ws,c.ev⟩ (U0 (put l ⟨Crv.norm (Crv.mk px py d),id⟩)) (brP (put l ⟨Crv.norm (Crv.mk px py d),id⟩) c.now))]:=by
 have cp:=wW (l:=l) (id:=id) hx hy hd hk (by omega);rw[if_pos he,he]at cp;have cw:=BH (l:=l) (r1:=r1) hc hl hn h;refine Fv func405 rfl ?_;obtain⟨b,l',rfl,rfl,_⟩:=hd;exact Uh [] [0] [.k cp,.c [0] cw] rfl
theorem Qe6{lx ly:Us}{px py:Um}{x y:LV}{d id:Int}{c:Cr}{l l':List Pt}{r1:Us}{ws:List Wt}(hx:IsInts lx px)(hy:IsInts ly py)(hd:Gd x y d)(hk:Cs 4294967294 1073741824 (Crv.mk px py d))(hll:l.length<=10)(h:has l id=true)(hc:CrOk c)
 (hl':l'=l.set (Rw l id) (Pt.mk (Crv.norm (Crv.mk px py d)) id)) (hs:∀p∈l',Sc p.c) (hw:Tl c.l c.now (Fo (sN l' c.now))=some ws) :
 U6 prog 406 [.one (.ow 0 0),.agg [.row lx,.row ly,x,y,.int .i64 id]] [.blk 203 (Hl c (U0 l) r1)] [.oi 0] [.blk 203 (Hl ⟨c.now,ws,c.ev⟩ (U0 l') (brP l' c.now))]:=by
 have ct1:=UW (l:=l) hx hy hd hk (by omega) h;rw[<-hl']at ct1;have cw:=BH (c:=c) (l:=l) (l':=l') (r1:=r1) hc hs (by rw[hl',Xd];omega) hw;obtain⟨b,r,rfl,rfl,_⟩:=hd;refine Fv func406 rfl ?_;exact Uh [] [0] [.k ct1,.c [0] cw] rfl
theorem Qe5{id:Int}{c:Cr}{l l':List Pt}{r1:Us}{ws:List Wt}(hll:l.length<=10)(h:has l id=true)(hc:CrOk c)
 (hl':l'=l.take (Rw l id)++l.drop (Rw l id+1)) (hs:∀p∈l',Sc p.c) (hw:Tl c.l c.now (Fo (sN l' c.now))=some ws) :
 U6 prog 404 [.one (.ow 0 0),.oi id] [.blk 203 (Hl c (U0 l) r1)] [.oi 0] [.blk 203 (Hl ⟨c.now,ws,c.ev⟩ (U0 l') (brP l' c.now))]:=by
 have ct1:=UV (l:=l) (id:=id) (by omega) h;rw[<-hl']at ct1;have cw:=BH (c:=c) (l:=l) (l':=l') (r1:=r1) hc hs (by rw[hl',Qu,Qq,Q7];omega) hw;refine Fv func404 rfl ?_;exact Uh [] [0] [.k ct1,.c [0] cw] rfl
theorem Qbg{c:Cr}{r0:Us}{r1:Us}:U6 prog 54 [.one (.ow 0 0)] [.blk 203 (Hl c r0 r1)] [.one (.ow 1 0)] [.blk 203 (Hl c r0 r1),.blk 203 (Hl c r0 r1)]:=by
 refine Fv func54 rfl ?_;exact Uh [] [0,1] [] rfl
theorem lZ{np nd:Int}{M:List Pt}{q:Rat}{s t h p d:Cr}(hq:Qs 128 q):U6 prog 47 [.one (.ow 0 0)] (ZD 0 np nd M q s t h p d) [.agg (rl q)] (ZD 0 np nd M q s t h p d):=by
 refine Fv func47 rfl ?_;exact Uh [] [0,1,2,3,4,5,6] [.k (Nx (hq.mono (by decide)))] rfl
abbrev en2(np nd:Int)(M:List Pt)(q:Rat)(s t h p d:Cr)(np' nd':Int)(M':List Pt)(q':Rat)(s' t' h' p' d':Cr):Ut:=[.blk 88 (uN 0 q),tB np nd M,bS s M q,bT t M q,bH h M q,bP p M q,bD d M q,.blk 88 (uN 7 q'),tB np' nd' M',bS s' M' q',bT t' M' q',bH h' M' q',bP p' M' q',bD d' M' q']
theorem xG{np nd:Int}{M:List Pt}{q:Rat}{s t h p d:Cr}(hq:Qs 128 q):U6 prog 15 [.one (.ow 0 0)] (ZD 0 np nd M q s t h p d) [.one (.ow 7 0)] (en2 np nd M q s t h p d np nd M q s t h p d):=by
 refine Fv func15 rfl ?_;exact Uh [] [0,1,2,3,4,5,6,13,7,8,9,10,11,12] [.lo,.c [1,7] Qgh,.lo,.c Uv (lZ hq),.lo,.c [2,8] Qff,.lo,.c [3,9] Qbn,.lo,.c [4,10] Qbd,.lo,.c [5,11] Qbg,.lo,.c [6,12] Qa8] rfl
abbrev anw(S W H P:List Pt)(T:List P3):Ur:=[ids (S.map (·.id)),ids (W.map (·.id)),ids (H.map (·.id)),ids (P.map (·.id)),.row (ZJ T)]
theorem Qnk{np nd:Int}{M S W H P:List Pt}{T:List P3}{r2:Us}{q:Rat}{s t h p d:Cr}(hS:S.length<=1000000)(hH:H.length<=1000000)(hT:T.length<=1000)(hW:W=[]\/∃w,W=[w])(hP:P=[]\/∃a b,P=[a,b]) :
 U6 prog 39 [.one (.ow 0 0)] [.blk 88 (uN 0 q),tB np nd M,.blk 196 (Hl s (U0 M) (U0 S)),.blk 199 (Te t (U0 M) (W.map Fc,r2)),.blk 201 (Hl h (U0 M) (U0 H)),.blk 203 (Hl p (U0 M) (U0 P)),.blk 205 (Hl d (U0 M) (ZJ T))]
  [.agg (anw S W H P T)] [.blk 88 (uN 0 q),tB np nd M,.blk 196 (Hl s (U0 M) (U0 S)),.blk 199 (Te t (U0 M) (W.map Fc,r2)),.blk 201 (Hl h (U0 M) (U0 H)),.blk 203 (Hl p (U0 M) (U0 P)),.blk 205 (Hl d (U0 M) (ZJ T))]:=by
 have c1:=Qtq (c:=s) (l:=M) hS;have c2:=Qtf (c:=h) (l:=M) hH;have c3:=pD (c:=d) (r0:=U0 M) hT;rcases hW with rfl|⟨w,rfl⟩
 ·have c4:=Qfo (c:=t) (r0:=U0 M) (r2:=r2);rcases hP with rfl|⟨a,b,rfl⟩
  ·have c5:=wK (c:=p) (r0:=U0 M);refine Fv func39 rfl ?_;exact Uh [] [0,1,2,3,4,5,6] [.c [2] c1,.c [4] c2,.c [6] c3,.c [3] c4,.f rfl,.c [5] c5,.f rfl] rfl
  ·have c5:=lF (c:=p) (r0:=U0 M) (a:=a) (b:=b);refine Fv func39 rfl ?_;exact Uh [] [0,1,2,3,4,5,6] [.c [2] c1,.c [4] c2,.c [6] c3,.c [3] c4,.f rfl,.c [5] c5,.t rfl] rfl
 ·have c4:=Qnn (c:=t) (r0:=U0 M) (r2:=r2) (w:=w);rcases hP with rfl|⟨a,b,rfl⟩
  ·have c5:=wK (c:=p) (r0:=U0 M);refine Fv func39 rfl ?_;exact Uh [] [0,1,2,3,4,5,6] [.c [2] c1,.c [4] c2,.c [6] c3,.c [3] c4,.t rfl,.c [5] c5,.f rfl] rfl
  ·have c5:=lF (c:=p) (r0:=U0 M) (a:=a) (b:=b);refine Fv func39 rfl ?_;exact Uh [] [0,1,2,3,4,5,6] [.c [2] c1,.c [4] c2,.c [6] c3,.c [3] c4,.t rfl,.c [5] c5,.t rfl] rfl
abbrev kC(M:List Pt)(q:Rat):Ur:=anw (Tz (tq q) M) (M9 (Fu (tq q)) M).1 (S7 M (tq q)) (ZH (Fu (tq q)) M) (qY (Fu (tq q)) M)
theorem Qau(sg:Um->Int)(M:List Pt):(M9 sg M).1=[]\/∃w,(M9 sg M).1=[w]:=by
 by_cases h:0<M.length
 ·obtain⟨a,ha,_⟩:=No sg M.length M (Ql _) h;exact .inr ⟨a,ha⟩
 ·obtain rfl:=Qj (by omega:M.length=0);exact .inl rfl
theorem gV(sg:Um->Int)(M:List Pt):ZH sg M=[]\/∃a b,ZH sg M=[a,b]:=by
 match M with
 | []=>exact .inl rfl
 | [_]=>exact .inl rfl
 |_::_::_=>exact .inr ⟨_,_,rfl⟩
theorem xP{np nd:Int}{M:List Pt}{q:Rat}{s t h p d:Cr}(hM:M.length<=6):U6 prog 39 [.one (.ow 0 0)] (ZD 0 np nd M q s t h p d) [.agg (kC M q)] (ZD 0 np nd M q s t h p d) :=
 Qnk (by rw[Ns];omega) (by have:=YW M (tq q);omega) (by have:=qV (Fu (tq q)) hM;omega) (Qau _ _) (gV _ _)
theorem Qbh{np nd:Int}{M:List Pt}{q r:Rat}{s t h p d s' t' h' p' d':Cr}{b1 b2:Bool}{r1 r2:Us}(hq:Qs 128 q)(hM:M.length<=6)
 (ha:U6 prog 21 [.one (.ow 0 0),.agg [.bool b1,.row r1,.bool b2,.row r2]] (ZD 0 np nd M q s t h p d) [.oi 0] (ZD 0 np nd M r s' t' h' p' d')) :
 U6 prog 24 [.one (.ow 0 0),.agg [.bool b1,.row r1,.bool b2,.row r2]] (ZD 0 np nd M q s t h p d) [.agg (kC M r),.oi 0] (ZD 0 np nd M q s t h p d):=by
 refine Fv func24 rfl ?_;exact Uh [] [0,1,2,3,4,5,6] [.c Uz (xG hq),.c Ux ha,.f rfl,.c Ux (xP hM)] rfl
abbrev Qw9:Ur:=[.row [],.row [],.row [],.row [],.row []]
theorem Qfa{np nd:Int}{M:List Pt}{q:Rat}{s t h p d:Cr}{b1 b2:Bool}{r1 r2:Us}{e:Int}(he:e≠0)(hq:Qs 128 q)
 (ha:U6 prog 21 [.one (.ow 0 0),.agg [.bool b1,.row r1,.bool b2,.row r2]] (ZD 0 np nd M q s t h p d) [.oi e] (ZD 0 np nd M q s t h p d)) :
 U6 prog 24 [.one (.ow 0 0),.agg [.bool b1,.row r1,.bool b2,.row r2]] (ZD 0 np nd M q s t h p d) [.agg Qw9,.oi e] (ZD 0 np nd M q s t h p d):=by
 refine Fv func24 rfl ?_;exact Uh [] [0,1,2,3,4,5,6] [.c Uz (xG hq),.c Ux ha,.t (by simpa using he)] rfl
abbrev Qkm(k i:Nat)(e:Int):LV:=match Nat.blt k i with
 |true=>.int .i64 e
 |false=>.int .i64 0
theorem Qei{np nd:Int}{M:List Pt}{q:Rat}{s t h p d:Cr}:U6 prog 10 [.one (.ow 0 0)] (ZD 0 np nd M q s t h p d) [.agg [.int .i64 s.ev,.int .i64 t.ev,.int .i64 h.ev,.int .i64 p.ev,.int .i64 d.ev]] (ZD 0 np nd M q s t h p d):=by
 refine Fv func10 rfl ?_;refine Ud [.c Uv IR] rfl ?_;refine Ui (S:=Nat) 9 (λL1 i=>(8,.v (.oi i))::L1) (λi=>[.blk 88 (uN 0 q),tB np nd M,bS s M q,bT t M q,bH h M q,bP p M q,bD d M q,.blk 29 [.int .i64 0,.int .i64 0,.int .i64 0,.int .i64 0,.int .i64 0],.blk 29 [Qkm 0 i s.ev,Qkm 1 i t.ev,Qkm 2 i h.ev,Qkm 3 i p.ev,Qkm 4 i d.ev]]) (λi=>5-i) (λi=>i<=5) 0 (by decide) rfl rfl λi hi=>?_
 rcases(show i=0\/i=1\/i=2\/i=3\/i=4\/i=5 by omega)with rfl|rfl|rfl|rfl|rfl|rfl
 ·exact go tt [.t rfl,.i 0,.c [2] YY,.i 0] rfl (by simp[U3]) (rd 1 (by omega) (by omega) rfl)
 ·exact go tt [.t rfl,.i 1,.c [3] Qbm,.i 1] rfl (by simp[U3]) (rd 2 (by omega) (by omega) rfl)
 ·exact go tt [.t rfl,.i 2,.c [4] YY,.i 2] rfl (by simp[U3]) (rd 3 (by omega) (by omega) rfl)
 ·exact go tt [.t rfl,.i 3,.c [5] YY,.i 3] rfl (by simp[U3]) (rd 4 (by omega) (by omega) rfl)
 ·exact go tt [.t rfl,.i 4,.c [6] YY,.i 4] rfl (by simp[U3]) (rd 5 (by omega) (by omega) rfl)
 ·exact Uh [] [0,1,2,3,4,5,6] [.f rfl] rfl
abbrev Is(l:List Wt):List Ct:=Fo (l.map (·.c))
def SY(s t h p d:Cr):Nat->Us
 | 0=>[]
 | 1=>[]++U8 (Is s.l)
 | 2=>[]++U8 (Is s.l)++U8 (Is t.l)
 | 3=>[]++U8 (Is s.l)++U8 (Is t.l)++U8 (Is h.l)
 | 4=>[]++U8 (Is s.l)++U8 (Is t.l)++U8 (Is h.l)++U8 (Is p.l)
 |_=>[]++U8 (Is s.l)++U8 (Is t.l)++U8 (Is h.l)++U8 (Is p.l)++U8 (Is d.l)
theorem Qmt{np nd:Int}{M:List Pt}{q:Rat}{s t h p d:Cr}(hs:CrOk s)(ht:CrOk t)(hh:CrOk h)(hp:CrOk p)(hd:CrOk d):U6 prog 18 [.one (.ow 0 0)] (ZD 0 np nd M q s t h p d) [.one (.row (U8 (Is s.l++Is t.l++Is h.l++Is p.l++Is d.l)))] (ZD 0 np nd M q s t h p d):=by
 have e:U8 (Is s.l++Is t.l++Is h.l++Is p.l++Is d.l)=SY s t h p d 5:=by simp[U8,SY]
 rw[e];have ln:∀{c:Cr},CrOk c->(U8 (Is c.l)).length<=1000:=λ{c} hc=>by rw[Po,My,Q8];exact hc.k
 have l1:=ln hs;have l2:=ln ht;have l3:=ln hh;have l4:=ln hp;have l5:=ln hd;have k1:(U8 (Fo (s.l.map (·.c)))).length<=1000:=ln hs;have k2:(U8 (Fo (t.l.map (·.c)))).length<=1000:=ln ht;have k3:(U8 (Fo (h.l.map (·.c)))).length<=1000:=ln hh;have k4:(U8 (Fo (p.l.map (·.c)))).length<=1000:=ln hp;have k5:(U8 (Fo (d.l.map (·.c)))).length<=1000:=ln hd;have m1:(SY s t h p d 1).length<=1000:=by show([]++U8 (Is s.l)).length<=_;simp only[Qu,Xk];omega
 have m2:(SY s t h p d 2).length<=2000:=by show([]++U8 (Is s.l)++U8 (Is t.l)).length<=_;simp only[Qu,Xk];omega
 have m3:(SY s t h p d 3).length<=3000:=by show([]++U8 (Is s.l)++U8 (Is t.l)++U8 (Is h.l)).length<=_;simp only[Qu,Xk];omega
 have m4:(SY s t h p d 4).length<=4000:=by show([]++U8 (Is s.l)++U8 (Is t.l)++U8 (Is h.l)++U8 (Is p.l)).length<=_;simp only[Qu,Xk];omega
 have m0:(SY s t h p d 0).length=0:=rfl;refine Fv func18 rfl ?_;refine Ud [.o 3 126 7,.c Uv IR] rfl ?_;refine Ui (S:=Nat) 8 (λL1 i=>(8,.v (.oi i))::(3,.v (.one (.orow 7 7 none)))::L1) (λi=>[.blk 88 (uN 0 q),tB np nd M,bS s M q,bT t M q,bH h M q,bP p M q,bD d M q,.row false 126 7 (SY s t h p d i)]) (λi=>5-i) (λi=>i<=5) 0 (by decide) rfl rfl λi hi=>?_
 rcases(show i=0\/i=1\/i=2\/i=3\/i=4\/i=5 by omega)with rfl|rfl|rfl|rfl|rfl|rfl
 ·exact go tt [.t rfl,.i 0,.c [2] (UX hs),.s (I7 _)] rfl (by simp only[U3];omega) (rd 1 (by omega) (by omega) rfl)
 ·exact go tt [.t rfl,.i 1,.c [3] (Qfk ht),.s (I7 _)] rfl (by simp only[U3];omega) (rd 2 (by omega) (by omega) rfl)
 ·exact go tt [.t rfl,.i 2,.c [4] (UX hh),.s (I7 _)] rfl (by simp only[U3];omega) (rd 3 (by omega) (by omega) rfl)
 ·exact go tt [.t rfl,.i 3,.c [5] (UX hp),.s (I7 _)] rfl (by simp only[U3];omega) (rd 4 (by omega) (by omega) rfl)
 ·exact go tt [.t rfl,.i 4,.c [6] (UX hd),.s (I7 _)] rfl (by simp only[U3];omega) (rd 5 (by omega) (by omega) rfl)
 ·exact Uh [7] [0,1,2,3,4,5,6] [.f rfl] rfl
theorem Qrf:∀p∈([]:List Pt),Sc p.c:=λ_ h=>by cases h
theorem Ql0:∀x∈([]:List Ct),Cp x.p:=λ_ h=>by cases h
theorem sP:Uj 119 [.one (.row [])] [.agg [.row []],.oi 0]:=by
 refine Fv func119 rfl ?_;refine Ud [.f rfl] rfl ?_;refine nlb 1 rfl rfl rfl ?_;refine Ui (S:=Unit) 2 (λL1 _=>(14,.v (.oi 0))::L1) (λ_=>[.blk 194 [.nils],.blk 194 [.row []]]) (λ_=>0) (λ_=>True) () trivial rfl rfl λ_ _=>?_
 exact Uf [.f rfl] rfl
abbrev zT(r0 r1 r2:LV):OB:=.blk 199 [.bool false,.nils,.bool false,.nils,.bool false,.nils,.bool false,.nils,.bool false,.nils,.nils,.int .i64 0,r0,r1,r2]
theorem Qrd{a:Tm}:U6 prog 166 [.one (.ow 0 0),.agg (ta a),.one (.row [])] [zT (.row []) .nils (.orow 1 10 none),.row false 264 10 []] [.one (.row [])] [zT (.row []) .nils (.orow 1 10 none),.row false 264 10 []]:=by
 refine Fv func166 rfl ?_;exact Uh [] [0,1] [.t rfl] rfl
theorem Qly{a:Tm}:U6 prog 123 [.one (.ow 0 0),.agg (ta a)] [zT (.row []) .nils .nils] [.one (.row [])] [zT (.row []) (.row []) (.row [])]:=by
 refine Fv func123 rfl ?_;refine Ud [] rfl ?_;refine oz 0 14 264 10 rfl rfl ?_;refine Ud [.k (Iq (l:=[])),.c [0,2] (Qrd (a:=a)),.o 5 126 7] rfl ?_;refine Ui (S:=Unit) 4 (λL1 _=>(29,.v (.oi 0))::(5,.v (.one (.orow 3 7 none)))::L1) (λ_=>[zT (.row []) (.row []) (.orow 2 10 none),.blk 189 (ta a),.row false 264 10 [],.row false 126 7 []]) (λ_=>0) (λ_=>True) () trivial rfl rfl λ_ _=>?_
 exact Uh [2,3] [0] [.f rfl] rfl
theorem Qlz:Uj 169 [.agg [.row []]] [.one (.row [])]:=mX (l:=[]) (λ_ h=>by cases h) (by decide)
theorem Qsu{a:Tm}(ha:Va a):Uj 163 [.agg (ta a),.one (.row [])] [.one (.row [])]:=wU (l:=[]) Qrf (by decide) ha
theorem Qlw{a:Tm}(ha:Va a):U6 prog 124 [.one (.ow 0 0),.agg (ta a)] [.blk 201 (mT (.row []) .nils)] [.one (.row [])] [.blk 201 (mT (.row []) (.row []))]:=by
 have cn:Uj 168 [.agg (ta a),.one (.row [])] [.one (.row [])]:=lE (R:=[]) Qrf (by decide) ha;have cc:U6 prog 165 [.agg (ta a),.one (.row [])] [] [.one (.orow 0 7 none)] [.row false 126 7 []]:=SX (l:=[]) Qrf (by decide) ha;refine Fv func124 rfl ?_;exact Uh [2] [0] [.k Qlz,.k (Qsu ha),.k cn,.k (Iq (l:=[])),.k (Qsu ha),.c [2] cc,.t rfl] rfl
theorem Qlx{a:Tm}:U6 prog 125 [.one (.ow 0 0),.agg (ta a)] [.blk 203 (mT (.row []) .nils)] [.one (.row [])] [.blk 203 (mT (.row []) (.row []))]:=by
 refine Fv func125 rfl ?_;refine Ud [.k (Iq (l:=[]))] rfl ?_;refine nlc 0 13 rfl rfl rfl ?_;exact Uh [] [0] [.t rfl] rfl
theorem Qlv{a:Tm}:U6 prog 126 [.one (.ow 0 0),.agg (ta a)] [.blk 205 (mT (.row []) .nils)] [.one (.row [])] [.blk 205 (mT (.row []) (.row []))]:=by
 refine Fv func126 rfl ?_;refine Ud [.k Qlz,.o 6 126 7] rfl ?_;refine Ui (S:=Unit) 4 (λL1 _=>(42,.v (.oi 0))::(6,.v (.one (.orow 2 7 none)))::L1) (λ_=>[.blk 205 (mT (.row []) .nils),.blk 189 (ta a),.row false 126 7 [],.mpb (A1 (ZN (Fu a) []))]) (λ_=>0) (λ_=>True) () trivial rfl rfl λ_ _=>?_
 refine Ud [.f rfl] rfl ?_;refine Ui (S:=Unit) 5 (λL1 _=>(97,.v (.oi 0))::(6,.v (.one (.orow 2 7 none)))::L1) (λ_=>[.blk 205 (mT (.row []) .nils),.blk 189 (ta a),.row false 126 7 [],.mpb (A1 (ZN (Fu a) [])),.mpb (Od (A1 (ZN (Fu a) [])) (VS (Fu a) []))]) (λ_=>0) (λ_=>True) () trivial rfl rfl λ_ _=>?_
 refine Ud [.f rfl] rfl ?_;refine ozM 0 13 101 3 rfl rfl ?_;refine Ui (S:=Unit) 6 (λL1 _=>(174,.v (.oi 0))::L1) (λ_=>[.blk 205 [.bool false,.nils,.bool false,.nils,.bool false,.nils,.bool false,.nils,.bool false,.nils,.nils,.int .i64 0,.row [],.orow 5 3 none],.blk 189 (ta a),.row false 126 7 [],.mpb (A1 (ZN (Fu a) [])),.mpb (Od (A1 (ZN (Fu a) [])) (VS (Fu a) [])),.row false 101 3 []]) (λ_=>0) (λ_=>True) () trivial rfl rfl λ_ _=>?_
 exact Uh [2,5] [0] [.f rfl] rfl
section
variable{x y x' y':LV}{n d:Int}(h1:Gd x y n)(h2:Gd x' y' d)(bn:Fe n<=4294967295)(bd:Fe d<=4294967295)(ht:Qs 1640000 (Gi n d))
include h1 h2 bn bd ht
theorem Qrc:U6 prog 71 [.agg [x,y,x',y'],.one (.row [])] [] [.one (.ow 0 0),.oi 0] [.blk 196 (Hl ⟨tq (Gi n d),[],0⟩ [] [])]:=by
 have co:=VD h1 h2 bn bd (ht.mono (by decide));have cb:U6 prog 122 [.one (.ow 0 0),.agg (ta (tq (Gi n d)))] [.blk 196 (mT (.row []) .nils)] [.one (.row [])] [.blk 196 (mT (.row []) (.row []))]:=Qbj (l:=[]) Qrf (by decide) (IZ ht);have cg:=YX (T:=196) (r0:=[]) (r1:=[]) (IZ ht) Ql0 (by decide);obtain⟨b,l1,rfl,rfl,_⟩:=h1;obtain⟨b',l2,rfl,rfl,_⟩:=h2;refine Fv func71 rfl ?_;exact Uh [] [2] [.k sP,.f rfl,.k co,.c [2] cb,.c [2] cg] rfl
theorem Qre:U6 prog 72 [.agg [x,y,x',y'],.one (.row [])] [] [.one (.ow 0 0),.oi 0] [.blk 199 (Te ⟨tq (Gi n d),[],0⟩ [] ([],[]))]:=by
 have co:=VD h1 h2 bn bd (ht.mono (by decide));have cg:=Qbk (T:=199) (r0:=[]) (r1:=([],[])) (IZ ht) Ql0 (by decide);obtain⟨b,l1,rfl,rfl,_⟩:=h1;obtain⟨b',l2,rfl,rfl,_⟩:=h2;refine Fv func72 rfl ?_;exact Uh [] [2] [.k sP,.f rfl,.k co,.c [2] (Qly (a:=tq (Gi n d))),.c [2] cg] rfl
theorem Qra:U6 prog 73 [.agg [x,y,x',y'],.one (.row [])] [] [.one (.ow 0 0),.oi 0] [.blk 201 (Hl ⟨tq (Gi n d),[],0⟩ [] [])]:=by
 have co:=VD h1 h2 bn bd (ht.mono (by decide));have cg:=YX (T:=201) (r0:=[]) (r1:=[]) (IZ ht) Ql0 (by decide);obtain⟨b,l1,rfl,rfl,_⟩:=h1;obtain⟨b',l2,rfl,rfl,_⟩:=h2;refine Fv func73 rfl ?_;exact Uh [] [2] [.k sP,.f rfl,.k co,.c [2] (Qlw (IZ ht)),.c [2] cg] rfl
theorem Qrb:U6 prog 74 [.agg [x,y,x',y'],.one (.row [])] [] [.one (.ow 0 0),.oi 0] [.blk 203 (Hl ⟨tq (Gi n d),[],0⟩ [] [])]:=by
 have co:=VD h1 h2 bn bd (ht.mono (by decide));have cg:=YX (T:=203) (r0:=[]) (r1:=[]) (IZ ht) Ql0 (by decide);obtain⟨b,l1,rfl,rfl,_⟩:=h1;obtain⟨b',l2,rfl,rfl,_⟩:=h2;refine Fv func74 rfl ?_;exact Uh [] [2] [.k sP,.f rfl,.k co,.c [2] (Qlx (a:=tq (Gi n d))),.c [2] cg] rfl
theorem Qq9:U6 prog 75 [.agg [x,y,x',y'],.one (.row [])] [] [.one (.ow 0 0),.oi 0] [.blk 205 (Hl ⟨tq (Gi n d),[],0⟩ [] [])]:=by
 have co:=VD h1 h2 bn bd (ht.mono (by decide));have cg:=YX (T:=205) (r0:=[]) (r1:=[]) (IZ ht) Ql0 (by decide);obtain⟨b,l1,rfl,rfl,_⟩:=h1;obtain⟨b',l2,rfl,rfl,_⟩:=h2;refine Fv func75 rfl ?_;exact Uh [] [2] [.k sP,.f rfl,.k co,.c [2] (Qlv (a:=tq (Gi n d))),.c [2] cg] rfl
end
end Orr
namespace Orr
open Go Go.Proofs Tryz Orq
set_option maxRecDepth 10000
theorem Qt5{np nd:Int}(h1:1<=np/\np<=6)(h2:0<=nd/\nd<=2):U6 prog 69 [.oi np,.oi nd] [] [.one (.ow 0 0),.oi 0] [.blk 158 [.int .i64 np,.int .i64 nd,.nils]]:=by
 refine Fv func69 rfl ?_;exact Uh [] [0] [.F,.f (by simp;omega),.f (by simp;omega),.f (by simp;omega)] rfl
theorem Qtd{np nd:Int}(h1:1<=np/\np<=6)(h2:0<=nd/\nd<=2):U6 prog 26 [.oi np,.oi nd] [] [.one (.ow 0 0),.oi 0] (ZD 0 np nd [] 0 (Qxg [] (tq 0)) (Qxh [] (tq 0)) (Qxe [] (tq 0)) (Qxf [] (tq 0)) (Qxd [] (tq 0))):=by
 have ez:Gi (0:Rat).num ((0:Rat).den:Int)=0:=by decide
 have hq:Qs 1640000 (Gi (0:Rat).num ((0:Rat).den:Int)):=by rw[ez];exact⟨by decide,by decide⟩
 have i1:=U4 (0:Rat).num;have i2:=U4 ((0:Rat).den:Int);have c1:=Qrc i1 i2 (by decide) (by decide) hq;have c2:=Qre i1 i2 (by decide) (by decide) hq;have c3:=Qra i1 i2 (by decide) (by decide) hq;have c4:=Qrb i1 i2 (by decide) (by decide) hq;have c5:=Qq9 i1 i2 (by decide) (by decide) hq;rw[ez]at c1 c2 c3 c4 c5;have ci:=Qt3 (n:=0) (by decide);rw[show((0:Int):Rat)=0 from rfl,Ll]at ci;refine Fv func26 rfl ?_;refine Ud [.c [0] (Qt5 h1 h2),.f rfl] rfl ?_;refine nlc 0 2 rfl rfl rfl ?_;exact Uh [] [1,0,2,3,4,5,6] [.k ci,.c [2] c1,.c [3] c2,.c [4] c3,.c [5] c4,.c [6] c5] rfl
theorem UU{l:Um}(hl:l.length<=1000000):Uj 58 [.one (ids l),.one (ids l)] [.one (.bool true)]:=by
 have hll:(l.map λ(x:Int)=>[LV.int .i64 x]).length=l.length:=by simp
 refine Fv func58 rfl ?_;refine Ud [.f (by simp)] rfl ?_;refine Ui (S:=Nat) 0 (λL1 i=>(14,.v (.oi i))::L1) (λ_=>[]) (λi=>l.length-i) (λi=>i<=l.length) 0 (Qh _) rfl rfl λi hi=>?_
 by_cases h:i<l.length
 ·have hx:=G5 (f:=λ(x:Int)=>[LV.int .i64 x]) (Qe h);refine Ue [.t (by simp;omega),.x hx,.x hx,.f (by simp)] rfl ?_;exact rd (i+1) (by omega) h rfl
 ·exact Uf [.f (by simp;omega)] rfl
theorem Qfv{l:List P3}(hl:l.length<=1000000):Uj 59 [.one (.row (ZJ l)),.one (.row (ZJ l))] [.one (.bool true)]:=by
 have hll:(ZJ l).length=l.length:=by simp[ZJ]
 refine Fv func59 rfl ?_;refine Ud [.f (by simp)] rfl ?_;refine Ui (S:=Nat) 0 (λL1 i=>(14,.v (.oi i))::L1) (λ_=>[]) (λi=>l.length-i) (λi=>i<=l.length) 0 (Qh _) rfl rfl λi hi=>?_
 by_cases h:i<l.length
 ·have hx:=G5 (f:=trL) (Qe h);refine Ue [.t (by simp;omega),.x hx,.x hx,.f (by simp)] rfl ?_;exact rd (i+1) (by omega) h rfl
 ·exact Uf [.f (by simp;omega)] rfl
theorem Qmw{np nd np' nd':Int}{M:List Pt}{q:Rat}{s t h p d s' t' h' p' d':Cr}(hM:M.length≤6)(hok:∀x∈M,Qax 4294967294 1073741824 x)(hq:Qs 128 q):U6 prog 16 [.one (.ow 0 0),.one (.ow 7 0)] (en2 np nd M q s t h p d np' nd' M q s' t' h' p' d') [.one (.bool true)] (en2 np nd M q s t h p d np' nd' M q s' t' h' p' d'):=by
 have ca:=Qgg (np:=np) (nd:=nd) hok (by omega);have ca':=Qgg (np:=np') (nd:=nd') hok (by omega);have cc:=Ci (a:=q) (b:=q) (hq.mono (by decide)) (hq.mono (by decide));have e0:He q q=0:=by rcases Nc q q with⟨e,h⟩|⟨e,h⟩|⟨e,h⟩ <;> grind
 rw[e0]at cc;have hll:(M.map Fc).length=M.length:=by simp
 have l1:(Tz (tq q) M).length<=6:=by rw[Ns];exact hM
 have l3:=YW M (tq q);have l5:=qV (Fu (tq q)) hM;have s1:=UU (l:=(Tz (tq q) M).map (·.id)) (by rw[Q8];omega);have s2:=UU (l:=(M9 (Fu (tq q)) M).1.map (·.id)) (by rw[Q8];rcases Qau (Fu (tq q)) M with e|⟨w,e⟩ <;> rw[e] <;> simp);have s3:=UU (l:=(S7 M (tq q)).map (·.id)) (by rw[Q8];omega);have s4:=UU (l:=(ZH (Fu (tq q)) M).map (·.id)) (by rw[Q8];rcases gV (Fu (tq q)) M with e|⟨a,b,e⟩ <;> rw[e] <;> simp);have s5:=Qfv (l:=qY (Fu (tq q)) M) (by omega);refine Fv func16 rfl ?_;refine Ud [.lo,.c [1] ca,.lo,.c [8] ca',.k cc,.g 31 false rfl,.f (by simp)] rfl ?_;refine Ui (S:=Nat) 14 (λL1 i=>(40,.v (.oi i))::L1) (λ_=>en2 np nd M q s t h p d np' nd' M q s' t' h' p' d') (λi=>M.length-i) (λi=>i<=M.length) 0 (Qh _) rfl rfl λi hi=>?_
 by_cases h:i<M.length
 ·obtain⟨x,hx⟩:=gxE (l:=M) (i:=i) h;have hxo:=hok x (Qc hx);have cs:=lS hxo.1 hxo.1 hxo.2 hxo.2;rw[show Ee x.c x.c=true by simp[Ee]]at cs;refine Ue [.t (by simp;omega),.x (Ti hx),.x (Ti hx),.g 53 false (by simp),.x (Ti hx),.k cs,.f rfl] rfl ?_;exact rd (i+1) (by omega) h rfl
 ·exact Uh [] [0,1,2,3,4,5,6,7,8,9,10,11,12,13] [.f (by simp;omega),.c Uv (xP hM),.c [7,8,9,10,11,12,13] (xP hM),.k s1,.t rfl,.k s2,.t rfl,.k s3,.t rfl,.k s4,.t rfl,.k s5] rfl
def Em.ins(A:Em)(p:Pt):Em×Int:=(if M7 A.np A.nd A.M p=0 then { A with M:=put A.M p }else A,M7 A.np A.nd A.M p)
def Em.rep(A:Em)(p:Pt):Em×Int:=(if Nb A.nd A.M p=0 then { A with M:=A.M.set (Rw A.M p.id) p }else A,Nb A.nd A.M p)
def Em.del(A:Em)(id:Int):Em×Int:=if has A.M id=true then({ A with M:=A.M.take (Rw A.M id)++A.M.drop (Rw A.M id+1) },0)else(A,5)
open Classical in
noncomputable def Em.adv(A:Em)(t:Rat):Em×Int:=if Qs 128 t then(if t<A.q then(A,8)else({ A with q:=t,s:=A.s+(cnt (VC A.M) A.q t:Nat),t:=A.t+(cnt (AS A.M) A.q t:Nat),h:=A.h+(cnt (NL A.M) A.q t:Nat),p:=A.p+(cnt (sN A.M) A.q t:Nat),d:=A.d+(cnt (xY A.M) A.q t:Nat) },0))else(A,1)
theorem Qsl{np nd:Int}{k:Crv}(hn:ZL k)(hnd:nd<=2)(h1:ZZ k=true)(h2:¬nd<PS k):Sc k:=by
 obtain⟨s1,s2,s3⟩:=EN.1 h1;unfold PS at h2;exact⟨hn,s1,s2,s3,by omega,by omega⟩
theorem Qi0{p:Pt}(h:XI p=true):(0<=p.id/\p.id<=1048576)/\ZZ p.c=true:=by
 simp only[XI,Zn,decide_eq_true_iff]at h;exact⟨⟨h.1,h.2.1⟩,h.2.2⟩
theorem dZ{M:List Pt}(hs:Ce M){p:Pt}(h:has M p.id=true):Ce (M.set (Rw M p.id) p):=by
 have hl:=YL h;have hid:∀(x:Pt),M[Rw M p.id]? = some x->x.id=p.id:=λx hx=>by
  simp only[has,hx]at h;exact of_decide_eq_true h
 unfold Ce;rw[Yc];intro i j hi hj hij;rw[Xd]at hi hj;have hx:=Qe hi;have hy:=Qe hj;have hlt:=Qyw hs hij hx hy;rw[List.getElem_set,List.getElem_set]
 split
 ·rename_i e;subst e;rw[if_neg (by omega)];have:=hid _ hx;omega
 ·split
  ·rename_i e;subst e;have:=hid _ hy;omega
  ·exact hlt
theorem XO{M:List Pt}{i:Nat}{p x:Pt}(h:x∈M.set i p):x=p\/x∈M:=by
 rcases Jp h with h|h
 ·exact .inr h
 ·exact .inl h
theorem LJ{M:List Pt}{i:Nat}{x:Pt}(h:x∈M.take i++M.drop (i+1)):x∈M:=by
 rcases Qr.1 h with h|h
 ·exact Qo h
 ·exact Qz h
theorem tM{M:List Pt}(hs:Ce M)(i:Nat):Ce (M.take i++M.drop (i+1)):=by
 have h:=hs;unfold Ce at h ⊢;rw[<-Zh i M,Xw]at h;refine Xw.2 ⟨h.1,?_,λx hx y hy=>h.2.2 x hx y ?_⟩
 ·have:M.drop (i+1)=(M.drop i).drop 1:=by rw[Jw]
  rw[this];exact h.2.1.sublist (List.drop_sublist _ _)
 ·have:M.drop (i+1)=(M.drop i).drop 1:=by rw[Jw]
  rw[this]at hy;exact Qz hy
abbrev dP(f:Nat)(args:Uu)(E:Es)(res:Uu)(E':Es):Prop:=U6 prog f args (enB 0 E) res (enB 0 E')
theorem UL{E:Es}{b:Int}(h:EOk b E){lx ly:Us}{px py:Um}{x y:LV}{d id:Int}(hx:IsInts lx px)(hy:IsInts ly py)(hd:Gd x y d)(hk:Cs 4294967294 1073741824 (Crv.mk px py d)) :
 ∃E',EOk b E'/\E'.m=(E.m.ins ⟨Crv.norm (Crv.mk px py d),id⟩).1/\dP 27 [.one (.ow 0 0),.oi id,.agg [.row lx,.row ly,x,y]] E [.one (.int .i64 (E.m.ins ⟨Crv.norm (Crv.mk px py d),id⟩).2)] E':=by
 have hM:=h.m.m;have hl6:=hM.ln;have ct:=Qt6 (np:=E.np) (nd:=E.nd) (l:=E.M) (id:=id) hx hy hd hk (by omega);obtain⟨p,hp⟩:=nmE (Pt.mk (Crv.norm (Crv.mk px py d)) id);have hpn:ZL p.c:=by rw[hp];exact Crv.nml _
 by_cases e:M7 E.np E.nd E.M p=0
 ·have e0:XI p=true/\has E.M p.id=false/\¬E.nd<PS p.c/\¬E.np<=(E.M.length:Int):=by
   unfold M7 at e;by_cases a1:XI p=false
   ·rw[if_pos a1]at e;cases e
   rw[if_neg a1]at e;by_cases a2:has E.M p.id=true
   ·rw[if_pos a2]at e;cases e
   rw[if_neg a2]at e;by_cases a3:E.nd<PS p.c
   ·rw[if_pos a3]at e;cases e
   rw[if_neg a3]at e;by_cases a4:E.np<=(E.M.length:Int)
   ·rw[if_pos a4]at e;cases e
   exact⟨by simpa using a1,by simpa using a2,a3,a4⟩
  obtain⟨f1,f2,f3,f4⟩:=e0;obtain⟨g1,g2⟩:=Qi0 f1;have hsc:=Qsl (np:=E.np) hpn h.nd.2 g2 f3;have hpl:(put E.M p).length<=6:=by rw[oP];have:=h.np.2;omega
  have hM':MOk (put E.M p):=⟨λz hz=>by rcases NJ hz with rfl|hz;exact hsc;exact hM.sc z hz,hpl,EF hM.so f2⟩;have hME:MEn E.np E.nd (put E.M p):=⟨hM',by rw[oP];have:=h.np.2;omega,λz hz=>by rcases NJ hz with rfl|hz;omega;exact h.m.deg z hz,λz hz=>by rcases NJ hz with rfl|hz;exact g1;exact h.m.id z hz⟩;have hpe:WF E.M p=0:=by unfold WF;rw[if_neg (by rw[f2];decide),if_neg (by have:=h.np.2;omega)]
  rw[hp]at e hpe hM' hME hpl;rw[e,if_pos rfl]at ct;obtain⟨w1,l1,a1⟩:=h.s.again okS hM';obtain⟨w2,l2,a2⟩:=h.t.again okT hM';obtain⟨w3,l3,a3⟩:=h.h.again okH hM';obtain⟨w4,l4,a4⟩:=h.p.again okP hM';obtain⟨w5,l5,a5⟩:=h.d.again okD hM';have c1:=Qtr (c:=E.s) (l:=E.M) (r1:=pS E.M (tq E.q)) hx hy hd hk (by omega) hpe h.s.st.inv.ok hM'.sc (by omega) l1;have c2:=Qnm (c:=E.t) (l:=E.M) (r1:=pP E.M (tq E.q)) hx hy hd hk (by omega) hpe h.t.st.inv.ok hM'.sc (by omega) l2;have c3:=Qmz (c:=E.h) (l:=E.M) (r1:=brH E.M (tq E.q)) hx hy hd hk (by omega) hpe h.h.st.inv.ok hM'.sc (by omega) l3;have c4:=Qm7 (c:=E.p) (l:=E.M) (r1:=brP E.M (tq E.q)) hx hy hd hk (by omega) hpe h.p.st.inv.ok hM'.sc (by omega) l4;have c5:=Qmv (c:=E.d) (l:=E.M) (r1:=pT E.M (tq E.q)) hx hy hd hk (by omega) hpe h.d.st.inv.ok hM'.sc (by omega) l5;rw[h.s.now]at c1;rw[h.t.now]at c2;rw[h.h.now]at c3;rw[h.p.now]at c4;rw[h.d.now]at c5;obtain⟨b1,r,rfl,rfl,_⟩:=hd;refine⟨⟨E.np,E.nd,put E.M ⟨Crv.norm (Crv.mk px py d),id⟩,E.q,⟨tq E.q,w1,E.s.ev⟩,⟨tq E.q,w2,E.t.ev⟩,⟨tq E.q,w3,E.h.ev⟩,⟨tq E.q,w4,E.p.ev⟩,⟨tq E.q,w5,E.d.ev⟩⟩,⟨h.np,h.nd,hME,h.q,a1,a2,a3,a4,a5,h.es,h.et,h.eh,h.ep,h.ed⟩,?_,?_⟩
  ·unfold Em.ins;show _=if M7 E.np E.nd E.M _=0 then _ else _
   rw[if_pos e];rfl
  ·have e2:(E.m.ins ⟨Crv.norm (Crv.mk px py d),id⟩).2=0:=e;rw[e2];exact Qeu ct c1 c2 c3 c4 c5
 ·rw[hp]at e;rw[if_neg e]at ct;obtain⟨b1,r,rfl,rfl,_⟩:=hd;refine⟨E,h,?_,Qbe e ct⟩;unfold Em.ins;show _=if M7 E.np E.nd E.M _=0 then _ else _
  rw[if_neg e]
theorem uT{E:Es}{b:Int}(h:EOk b E){lx ly:Us}{px py:Um}{x y:LV}{d id:Int}(hx:IsInts lx px)(hy:IsInts ly py)(hd:Gd x y d)(hk:Cs 4294967294 1073741824 (Crv.mk px py d)) :
 ∃E',EOk b E'/\E'.m=(E.m.rep ⟨Crv.norm (Crv.mk px py d),id⟩).1/\dP 36 [.one (.ow 0 0),.oi id,.agg [.row lx,.row ly,x,y]] E [.one (.int .i64 (E.m.rep ⟨Crv.norm (Crv.mk px py d),id⟩).2)] E':=by
 have hM:=h.m.m;have hl6:=hM.ln;have ct:=Qn4 (np:=E.np) (nd:=E.nd) (l:=E.M) (id:=id) hx hy hd hk (by omega);obtain⟨p,hp⟩:=nmE (Pt.mk (Crv.norm (Crv.mk px py d)) id);have hpn:ZL p.c:=by rw[hp];exact Crv.nml _
 have hpi:p.id=id:=by rw[hp]
 by_cases e:Nb E.nd E.M p=0
 ·have e0:XI p=true/\has E.M p.id=true/\¬E.nd<PS p.c:=by
   unfold Nb at e;by_cases a1:XI p=false
   ·rw[if_pos a1]at e;cases e
   rw[if_neg a1]at e;by_cases a2:has E.M p.id=false
   ·rw[if_pos a2]at e;cases e
   rw[if_neg a2]at e;by_cases a3:E.nd<PS p.c
   ·rw[if_pos a3]at e;cases e
   exact⟨by simpa using a1,by simpa using a2,a3⟩
  obtain⟨f1,f2,f3⟩:=e0;obtain⟨g1,g2⟩:=Qi0 f1;have hsc:=Qsl (np:=E.np) hpn h.nd.2 g2 f3;have hM':MOk (E.M.set (Rw E.M p.id) p):=⟨λz hz=>by rcases XO hz with rfl|hz;exact hsc;exact hM.sc z hz,by rw[Xd];exact hl6,dZ hM.so f2⟩;have hME:MEn E.np E.nd (E.M.set (Rw E.M p.id) p):=⟨hM',by rw[Xd];exact h.m.len,λz hz=>by rcases XO hz with rfl|hz;omega;exact h.m.deg z hz,λz hz=>by rcases XO hz with rfl|hz;exact g1;exact h.m.id z hz⟩;rw[hpi]at f2 hM' hME;rw[hp]at e hM' hME;rw[e,if_pos rfl]at ct;obtain⟨w1,l1,a1⟩:=h.s.again okS hM';obtain⟨w2,l2,a2⟩:=h.t.again okT hM';obtain⟨w3,l3,a3⟩:=h.h.again okH hM';obtain⟨w4,l4,a4⟩:=h.p.again okP hM';obtain⟨w5,l5,a5⟩:=h.d.again okD hM';have c1:=Qnc (c:=E.s) (l:=E.M) (r1:=pS E.M (tq E.q)) hx hy hd hk (by omega) f2 h.s.st.inv.ok rfl hM'.sc l1;have c2:=Qfn (c:=E.t) (l:=E.M) (r1:=pP E.M (tq E.q)) hx hy hd hk (by omega) f2 h.t.st.inv.ok rfl hM'.sc l2;have c3:=Qes (c:=E.h) (l:=E.M) (r1:=brH E.M (tq E.q)) hx hy hd hk (by omega) f2 h.h.st.inv.ok rfl hM'.sc l3;have c4:=Qe6 (c:=E.p) (l:=E.M) (r1:=brP E.M (tq E.q)) hx hy hd hk (by omega) f2 h.p.st.inv.ok rfl hM'.sc l4;have c5:=Qel (c:=E.d) (l:=E.M) (r1:=pT E.M (tq E.q)) hx hy hd hk (by omega) f2 h.d.st.inv.ok rfl hM'.sc l5;rw[h.s.now]at c1;rw[h.t.now]at c2;rw[h.h.now]at c3;rw[h.p.now]at c4;rw[h.d.now]at c5;obtain⟨b1,r,rfl,rfl,_⟩:=hd;refine⟨⟨E.np,E.nd,E.M.set (Rw E.M id) ⟨Crv.norm (Crv.mk px py d),id⟩,E.q,⟨tq E.q,w1,E.s.ev⟩,⟨tq E.q,w2,E.t.ev⟩,⟨tq E.q,w3,E.h.ev⟩,⟨tq E.q,w4,E.p.ev⟩,⟨tq E.q,w5,E.d.ev⟩⟩,⟨h.np,h.nd,hME,h.q,a1,a2,a3,a4,a5,h.es,h.et,h.eh,h.ep,h.ed⟩,?_,?_⟩
  ·unfold Em.rep;show _=if Nb E.nd E.M _=0 then _ else _
   rw[if_pos e];rfl
  ·have e2:(E.m.rep ⟨Crv.norm (Crv.mk px py d),id⟩).2=0:=e;rw[e2];exact Qfc ct c1 c2 c3 c4 c5
 ·rw[hp]at e;rw[if_neg e]at ct;obtain⟨b1,r,rfl,rfl,_⟩:=hd;refine⟨E,h,?_,Qbi e ct⟩;unfold Em.rep;show _=if Nb E.nd E.M _=0 then _ else _
  rw[if_neg e]
theorem Qhc{E:Es}{b id:Int}(h:EOk b E) :
 ∃E',EOk b E'/\E'.m=(E.m.del id).1/\dP 37 [.one (.ow 0 0),.oi id] E [.one (.int .i64 (E.m.del id).2)] E':=by
 have hM:=h.m.m;have hl6:=hM.ln;by_cases f2:has E.M id=true
 ·have ct:=Qn3 (np:=E.np) (nd:=E.nd) (l:=E.M) (by omega) f2;have hpl:=YL f2;have hgl:=Qh7 hpl;have hM':MOk (E.M.take (Rw E.M id)++E.M.drop (Rw E.M id+1)):=⟨λz hz=>hM.sc z (LJ hz),by omega,tM hM.so _⟩;have hME:MEn E.np E.nd (E.M.take (Rw E.M id)++E.M.drop (Rw E.M id+1)):=⟨hM',by have:=h.m.len;omega,λz hz=>h.m.deg z (LJ hz),λz hz=>h.m.id z (LJ hz)⟩;obtain⟨w1,l1,a1⟩:=h.s.again okS hM';obtain⟨w2,l2,a2⟩:=h.t.again okT hM';obtain⟨w3,l3,a3⟩:=h.h.again okH hM';obtain⟨w4,l4,a4⟩:=h.p.again okP hM';obtain⟨w5,l5,a5⟩:=h.d.again okD hM';have c1:=Qna (c:=E.s) (l:=E.M) (r1:=pS E.M (tq E.q)) (by omega) f2 h.s.st.inv.ok rfl hM'.sc l1;have c2:=Qfm (c:=E.t) (l:=E.M) (r1:=pP E.M (tq E.q)) (by omega) f2 h.t.st.inv.ok rfl hM'.sc l2;have c3:=Qer (c:=E.h) (l:=E.M) (r1:=brH E.M (tq E.q)) (by omega) f2 h.h.st.inv.ok rfl hM'.sc l3;have c4:=Qe5 (c:=E.p) (l:=E.M) (r1:=brP E.M (tq E.q)) (by omega) f2 h.p.st.inv.ok rfl hM'.sc l4;have c5:=Qek (c:=E.d) (l:=E.M) (r1:=pT E.M (tq E.q)) (by omega) f2 h.d.st.inv.ok rfl hM'.sc l5;rw[h.s.now]at c1;rw[h.t.now]at c2;rw[h.h.now]at c3;rw[h.p.now]at c4;rw[h.d.now]at c5;have e2:E.m.del id=({ E.m with M:=E.M.take (Rw E.M id)++E.M.drop (Rw E.M id+1) },0):=if_pos f2;rw[e2];exact⟨⟨E.np,E.nd,E.M.take (Rw E.M id)++E.M.drop (Rw E.M id+1),E.q,⟨tq E.q,w1,E.s.ev⟩,⟨tq E.q,w2,E.t.ev⟩,⟨tq E.q,w3,E.h.ev⟩,⟨tq E.q,w4,E.p.ev⟩,⟨tq E.q,w5,E.d.ev⟩⟩,⟨h.np,h.nd,hME,h.q,a1,a2,a3,a4,a5,h.es,h.et,h.eh,h.ep,h.ed⟩,rfl,Qem ct c1 c2 c3 c4 c5⟩
 ·have e2:E.m.del id=(E.m,5):=if_neg f2;rw[e2];exact⟨E,h,rfl,Qa9 (show(5:Int)≠0 by decide) (Qgi (by omega) (by simpa using f2))⟩
theorem RZ{E:Es}{b:Int}(h:EOk b E)(hb:b<=900000000000000000){x0 x1 x2 x3:LV}{n m:Int}{t:Rat}(ha:Gd x0 x1 n)(hc:Gd x2 x3 m)(sa:Fe n<=4294967295)(sb:Fe m<=4294967295)(ht:Gi n m=t) :
 ∃E',EOk (b+67000000) E'/\E'.m=(E.m.adv t).1/\((E.m.adv t).2≠0->E'=E)/\dP 21 [.one (.ow 0 0),.agg [x0,x1,x2,x3]] E [.one (.int .i64 (E.m.adv t).2)] E':=by
 have hM:=h.m.m;have hl6:=hM.ln;by_cases hs:Qs 128 t
 ·by_cases hp:t<E.q
  ·have e2:E.m.adv t=(E.m,8):=by unfold Em.adv;rw[if_pos hs];exact if_pos hp
   rw[e2];exact⟨E,h.mono (by omega),rfl,λ_=>rfl,AP ha hc sa sb ht hs h.q hp⟩
  ·have hqt:E.q<=t:=Rat.not_lt.1 hp;have e2:E.m.adv t=(({ E.m with q:=t,s:=E.s.ev+(cnt (VC E.M) E.q t:Nat),t:=E.t.ev+(cnt (AS E.M) E.q t:Nat),h:=E.h.ev+(cnt (NL E.M) E.q t:Nat),p:=E.p.ev+(cnt (sN E.M) E.q t:Nat),d:=E.d.ev+(cnt (xY E.M) E.q t:Nat) }:Em),0):=by unfold Em.adv;rw[if_pos hs];exact if_neg hp
   rw[e2];have hq:Qs 1640000 t:=hs.mono (by decide);obtain⟨K1,d1,k1,g1,a1,v1,u1,_⟩:=h.s.adv okS hM hq hqt;obtain⟨K2,d2,k2,g2,a2,v2,u2,_⟩:=h.t.adv okT hM hq hqt;obtain⟨K3,d3,k3,g3,a3,v3,u3,_⟩:=h.h.adv okH hM hq hqt;obtain⟨K4,d4,k4,g4,a4,v4,u4,_⟩:=h.p.adv okP hM hq hqt;obtain⟨K5,d5,k5,g5,a5,v5,u5,_⟩:=h.d.adv okD hM hq hqt;have hcm:∀{c:Cr},c.now=tq E.q->Fp c.now t<=0:=λ{c} hn=>by
    rw[hn,Qal];exact MR.2 hqt
   have c1:=Qtp hq hM.sc (by omega) h.s.st.inv.ok (by have:=h.es;omega) (hcm h.s.now) g1;have c2:=Qnl hq hM.sc (by omega) h.t.st.inv.ok (by have:=h.et;omega) (hcm h.t.now) g2;have c3:=Qte hq hM.sc (by omega) h.h.st.inv.ok (by have:=h.eh;omega) (hcm h.h.now) g3;have c4:=Qm6 hq hM.sc (by omega) h.p.st.inv.ok (by have:=h.ep;omega) (hcm h.p.now) g4;have c5:=Qtc hq hM.sc (by omega) h.d.st.inv.ok (by have:=h.ed;omega) (hcm h.d.now) g5;refine⟨⟨E.np,E.nd,E.M,t,d1,d2,d3,d4,d5⟩,⟨h.np,h.nd,h.m,hs,a1,a2,a3,a4,a5,?_,?_,?_,?_,?_⟩,?_,λh=>absurd rfl h,Qa7 ha hc sa sb ht hs h.q hqt c1 c2 c3 c4 c5⟩
   ·have:=h.es;show 0<=d1.ev/\d1.ev<=_;omega
   ·have:=h.et;show 0<=d2.ev/\d2.ev<=_;omega
   ·have:=h.eh;show 0<=d3.ev/\d3.ev<=_;omega
   ·have:=h.ep;show 0<=d4.ev/\d4.ev<=_;omega
   ·have:=h.ed;show 0<=d5.ev/\d5.ev<=_;omega
   ·unfold Es.m;simp only[v1,v2,v3,v4,v5]
 ·have e2:E.m.adv t=(E.m,1):=by unfold Em.adv;exact if_neg hs
  rw[e2];exact⟨E,h.mono (by omega),rfl,λ_=>rfl,xF ha hc sa sb ht hs⟩
noncomputable def Em.ans(A:Em)(t:Rat):Ur:=if (A.adv t).2=0 then kC A.M t else Qw9
theorem jU{E:Es}{b:Int}(h:EOk b E)(hb:b<=900000000000000000){x0 x1 x2 x3:LV}{n m:Int}{t:Rat}(ha:Gd x0 x1 n)(hc:Gd x2 x3 m)(sa:Fe n<=4294967295)(sb:Fe m<=4294967295)(ht:Gi n m=t) :
 dP 24 [.one (.ow 0 0),.agg [x0,x1,x2,x3]] E [.agg (E.m.ans t),.one (.int .i64 (E.m.adv t).2)] E:=by
 obtain⟨E',h1,h2,h3,h4⟩:=RZ h hb ha hc sa sb ht;obtain⟨b1,r1,rfl,rfl,_⟩:=ha;obtain⟨b2,r2,rfl,rfl,_⟩:=hc;unfold Em.ans;by_cases e:(E.m.adv t).2=0
 ·rw[if_pos e];rw[e]at h4 ⊢;have hs:Qs 128 t/\¬t<E.q:=by
   unfold Em.adv at e;by_cases a:Qs 128 t
   ·rw[if_pos a]at e;by_cases a':t<E.m.q
    ·rw[if_pos a']at e;cases e
    ·exact⟨a,a'⟩
   ·rw[if_neg a]at e;cases e
  have e2:E.m.adv t=(({ E.m with q:=t,s:=E.s.ev+(cnt (VC E.M) E.q t:Nat),t:=E.t.ev+(cnt (AS E.M) E.q t:Nat),h:=E.h.ev+(cnt (NL E.M) E.q t:Nat),p:=E.p.ev+(cnt (sN E.M) E.q t:Nat),d:=E.d.ev+(cnt (xY E.M) E.q t:Nat) }:Em),0):=by unfold Em.adv;rw[if_pos hs.1];exact if_neg hs.2
  rw[e2]at h2;obtain⟨np,nd,M,q,s,u,v,p,d⟩:=E';unfold Es.m at h2;injection h2 with i1 i2 i3 i4;dsimp only at i1 i2 i3 i4;subst i1 i2 i3 i4;exact Qbh h.q h.m.m.ln h4
 ·rw[if_neg e];rw[h3 e]at h4;exact Qfa e h.q h4
end Orr
namespace Orr
open Go Go.Proofs Tryz Orq
set_option maxRecDepth 10000
theorem kE{b:Int}(h:0<=b):0<=(0:Int)/\(0:Int)<=b:=⟨Yd _,h⟩
def LG(np nd:Int):Es:=⟨np,nd,[],0,Qxg [] (tq 0),Qxh [] (tq 0),Qxe [] (tq 0),Qxf [] (tq 0),Qxd [] (tq 0)⟩
theorem YC:MOk []:=⟨λp h=>(by cases h),by decide,List.Pairwise.nil⟩
theorem Qi8{np nd:Int}(h1:1<=np/\np<=6)(h2:0<=nd/\nd<=2):EOk 0 (LG np nd):=by
 have hq:Qs 1640000 (0:Rat):=⟨by decide,by decide⟩;exact⟨h1,h2,⟨YC,by show((0:Nat):Int)<=np;omega,λp h=>(by cases h),λp h=>(by cases h)⟩,(show Qs 128 (0:Rat) from⟨by decide,by decide⟩),At.begin okS YC hq,At.begin okT YC hq,At.begin okH YC hq,At.begin okP YC hq,At.begin okD YC hq,kE (Yd _),kE (Yd _),kE (Yd _),kE (Yd _),kE (Yd _)⟩
theorem Qe1{np nd:Int}(h1:1<=np/\np<=6)(h2:0<=nd/\nd<=2):U6 prog 26 [.oi np,.oi nd] [] [.one (.ow 0 0),.oi 0] (enB 0 (LG np nd)):=Qtd h1 h2
theorem Qiv{E:Es}{A:Em}(h:E.m=A):E.np=A.np/\E.nd=A.nd/\E.M=A.M/\E.q=A.q/\E.s.ev=A.s/\E.t.ev=A.t/\E.h.ev=A.h/\E.p.ev=A.p/\E.d.ev=A.d:=by subst h;exact⟨rfl,rfl,rfl,rfl,rfl,rfl,rfl,rfl,rfl⟩
theorem Qd5{A:Em}{t:Rat}(h1:Qs 128 t)(h2:¬t<A.q):A.adv t=(({ A with q:=t,s:=A.s+(cnt (VC A.M) A.q t:Nat),t:=A.t+(cnt (AS A.M) A.q t:Nat),h:=A.h+(cnt (NL A.M) A.q t:Nat),p:=A.p+(cnt (sN A.M) A.q t:Nat),d:=A.d+(cnt (xY A.M) A.q t:Nat) }:Em),0):=by
 unfold Em.adv;rw[if_pos h1];exact if_neg h2
theorem kL{β:Type}{k:Knd β}{M:List Pt}{q:Rat}{c:Cr}(h:At k M q c):Is c.l=Fo (Fo (k.bc M (tq q))):=by
 unfold Is;rw[h.st.cs,h.now]
def IS(M:List Pt)(q:Rat):List Ct:=Fo (Fo (VC M (tq q)))++Fo (Fo (AS M (tq q)))++Fo (Fo (NL M (tq q)))++Fo (Fo (sN M (tq q)))++Fo (Fo (xY M (tq q)))
theorem uR{E:Es}{b:Int}(h:EOk b E):dP 18 [.one (.ow 0 0)] E [.one (.row (U8 (IS E.M E.q)))] E:=by
 have hc:=Qmt (np:=E.np) (nd:=E.nd) (M:=E.M) (q:=E.q) h.s.st.inv.ok h.t.st.inv.ok h.h.st.inv.ok h.p.st.inv.ok h.d.st.inv.ok;have e:Is E.s.l++Is E.t.l++Is E.h.l++Is E.p.l++Is E.d.l=IS E.M E.q:=by
  rw[kL h.s,kL h.t,kL h.h,kL h.p,kL h.d];rfl
 rw[e]at hc;exact hc
theorem Qgo{E:Es}{b:Int}(h:EOk b E):(∀c∈IS E.M E.q,Cp c.p)/\(IS E.M E.q).length≤1000000:=by
 have hv:Va (tq E.q):=IZ (h.q.mono (by decide));have S1:=okS.st _ h.m.m;have S2:=okT.st _ h.m.m;have S3:=okH.st _ h.m.m;have S4:=okP.st _ h.m.m;have S5:=okD.st _ h.m.m;constructor
 ·intro c hc;unfold IS at hc;simp only[Qr]at hc;rcases hc with (((hc|hc)|hc)|hc)|hc
  ·exact S1.ok.p _ hv c (Tc (Tc hc))
  ·exact S2.ok.p _ hv c (Tc (Tc hc))
  ·exact S3.ok.p _ hv c (Tc (Tc hc))
  ·exact S4.ok.p _ hv c (Tc (Tc hc))
  ·exact S5.ok.p _ hv c (Tc (Tc hc))
 ·unfold IS;simp only[Qu,My];have:=S1.ok.n _ hv;have:=S2.ok.n _ hv;have:=S3.ok.n _ hv;have:=S4.ok.n _ hv;have:=S5.ok.n _ hv;have e1:(kS.bc E.M (tq E.q)).length=(VC E.M (tq E.q)).length:=rfl;have e2:(kT.bc E.M (tq E.q)).length=(AS E.M (tq E.q)).length:=rfl;have e3:(kH.bc E.M (tq E.q)).length=(NL E.M (tq E.q)).length:=rfl;have e4:(kP.bc E.M (tq E.q)).length=(sN E.M (tq E.q)).length:=rfl;have e5:(kD.bc E.M (tq E.q)).length=(xY E.M (tq E.q)).length:=rfl;omega
abbrev Quo(E F:Es):Ut:=en2 E.np E.nd E.M E.q E.s E.t E.h E.p E.d F.np F.nd F.M F.q F.s F.t F.h F.p F.d
theorem Qvs{E:Es}{b:Int}(h:EOk b E):∀x∈E.M,Qax 4294967294 1073741824 x:=λx hx=>by
 have:=h.m.m.sc x hx;exact⟨this.n,this.c.mono (by decide) (by decide)⟩
theorem Qhe{E F:Es}{b:Int}(h:EOk b E)(hM:F.M=E.M)(hq:F.q=E.q):U6 prog 16 [.one (.ow 0 0),.one (.ow 7 0)] (Quo E F) [.one (.bool true)] (Quo E F):=by
 obtain⟨np,nd,M,q,s,t,v,p,d⟩:=F;dsimp only at hM hq;subst hM hq;exact Qmw h.m.m.ln (Qvs h) h.q
theorem Qol{E:Es}{b:Int}(h:EOk b E):U6 prog 15 [.one (.ow 0 0)] (enB 0 E) [.one (.ow 7 0)] (Quo E E):=xG h.q
abbrev Q0b(A:Em):Ur:=[.int .i64 A.s,.int .i64 A.t,.int .i64 A.h,.int .i64 A.p,.int .i64 A.d]
theorem UD{E:Es}:dP 10 [.one (.ow 0 0)] E [.agg (Q0b E.m)] E:=Qei
theorem Qum{E:Es}{b:Int}(h:EOk b E):dP 39 [.one (.ow 0 0)] E [.agg (kC E.M E.q)] E:=xP h.m.m.ln
def run2:Crv:=⟨[0,1],[1],1⟩
theorem gK:ZL run2:=⟨rfl,rfl,by decide,by decide⟩
theorem cs_run2:Cs 1 2 run2:=⟨λz hz=>by simp only[run2,Qm,X2,or_false]at hz;rcases hz with rfl|rfl <;> decide,λz hz=>by simp only[run2,Qm,X2,or_false]at hz;subst hz;decide,by decide,by decide,by decide⟩
abbrev wtP:List Pt:=[⟨Td 0 0,5⟩,⟨Td 4 0,6⟩,⟨run2,7⟩]
theorem Qq2:(Tz (tq 0) wtP).map (·.id)=[5,7,6]:=by decide +kernel
theorem Qq3:(Tz (tq 9) wtP).map (·.id)=[5,6,7]:=by decide +kernel
theorem Qq4:(M9 (Fu (tq 9)) wtP).1.map (·.id)=[7]:=by decide +kernel
theorem Qlm:((S7 wtP (tq 9)).map (·.id)).length=3:=by decide +kernel
theorem Qcx:Crv.norm (Crv.mk [0,1] [1] 0)=run2:=by
 have e:Crv.norm (Crv.mk [0,1] [1] 1)=Crv.norm (Crv.mk [0,1] [1] 0):=by simp only[Crv.norm,Crv.g,Crv.d'];rfl
 rw[<-e];exact Crv.norm_of gK
theorem Qt4:Uj 35 [.one (.row [[.bool false,.row []],[.bool false,.row [[.int .u32 1]]]]),.one (.row [[.bool false,.row [[.int .u32 1]]]])] [.agg (cl run2)]:=by
 have i1:IsInts [[.bool false,.row [[.int .u32 1]]]] [1]:=⟨⟨_,_,rfl,false,[1],rfl,rfl,(λx hx=>by rw[Qk.1 hx];decide),rfl⟩,trivial⟩;have i01:IsInts [[.bool false,.row []],[.bool false,.row [[.int .u32 1]]]] [0,1]:=⟨⟨_,_,rfl,false,[],rfl,rfl,(λx hx=>by cases hx),rfl⟩,i1⟩;have h:=Qrr (px:=[0,1]) (py:=[1]) i01 i1 ⟨U5 cs_run2.x (by decide),U5 cs_run2.y (by decide),by show Fe 0<=_;decide,by show 2<=1073741824;decide,by show 1<=1073741824;decide⟩;rw[Qcx]at h;exact h
theorem Qwr:M7 3 1 [] ⟨Td 0 0,5⟩=0:=by decide +kernel
theorem Qws:M7 3 1 [⟨Td 0 0,5⟩] ⟨Td 4 0,6⟩=0:=by decide +kernel
theorem Qwt:M7 3 1 [⟨Td 0 0,5⟩,⟨Td 4 0,6⟩] ⟨run2,7⟩=0:=by decide +kernel
theorem Qln:∃E1 E2 E3:Es,EOk 0 E3/\E3.m=⟨3,1,wtP,0,0,0,0,0,0⟩/\dP 27 [.one (.ow 0 0),.oi 5,.agg (cl (Td 0 0))] (LG 3 1) [.oi 0] E1/\dP 27 [.one (.ow 0 0),.oi 6,.agg (cl (Td 4 0))] E1 [.oi 0] E2/\dP 27 [.one (.ow 0 0),.oi 7,.agg (cl run2)] E2 [.oi 0] E3:=by
 have h0:=Qi8 (np:=3) (nd:=1) (by decide) (by decide);have s1:=tU (x:=0) (y:=0) (by decide) (by decide);have s2:=tU (x:=4) (y:=0) (by decide) (by decide);have e1:Crv.norm (Crv.mk (Td 0 0).x (Td 0 0).y (Td 0 0).d)=Td 0 0:=Crv.norm_of s1.n;have e2:Crv.norm (Crv.mk (Td 4 0).x (Td 4 0).y (Td 4 0).d)=Td 4 0:=Crv.norm_of s2.n;have e3:Crv.norm (Crv.mk run2.x run2.y run2.d)=run2:=Crv.norm_of gK;obtain⟨E1,a1,a2,a3⟩:=UL h0 (id:=5) (Gg (Td 0 0).x) (Gg (Td 0 0).y) (U4 (Td 0 0).d) (s1.c.mono (by decide) (by decide));rw[e1]at a2 a3;have i1:(LG 3 1).m.ins ⟨Td 0 0,5⟩=((⟨3,1,[⟨Td 0 0,5⟩],0,0,0,0,0,0⟩:Em),0):=by
  unfold Em.ins;rw[show M7 (LG 3 1).m.np (LG 3 1).m.nd (LG 3 1).m.M ⟨Td 0 0,5⟩=0 from Qwr,if_pos rfl];rfl
 rw[i1]at a2 a3;obtain⟨E2,b1,b2,b3⟩:=UL a1 (id:=6) (Gg (Td 4 0).x) (Gg (Td 4 0).y) (U4 (Td 4 0).d) (s2.c.mono (by decide) (by decide));rw[e2,a2]at b2 b3;have i2:((⟨3,1,[⟨Td 0 0,5⟩],0,0,0,0,0,0⟩:Em),(0:Int)).1.ins ⟨Td 4 0,6⟩=((⟨3,1,[⟨Td 0 0,5⟩,⟨Td 4 0,6⟩],0,0,0,0,0,0⟩:Em),0):=by
  unfold Em.ins;dsimp only;rw[Qws,if_pos rfl];rfl
 rw[i2]at b2 b3;obtain⟨E3,c1,c2,c3⟩:=UL b1 (id:=7) (Gg run2.x) (Gg run2.y) (U4 run2.d) (cs_run2.up (by decide) (by decide));rw[e3,b2]at c2 c3;have i3:((⟨3,1,[⟨Td 0 0,5⟩,⟨Td 4 0,6⟩],0,0,0,0,0,0⟩:Em),(0:Int)).1.ins ⟨run2,7⟩=((⟨3,1,wtP,0,0,0,0,0,0⟩:Em),0):=by
  unfold Em.ins;dsimp only;rw[Qwt,if_pos rfl];rfl
 rw[i3]at c2 c3;exact⟨E1,E2,E3,c1,c2,a3,b3,c3⟩
theorem mM:Uj 14 [] [.one (.bool true)]:=by
 obtain⟨E1,E2,E3,h3,m3,i1,i2,i3⟩:=Qln;have ht:Qs 128 (9:Rat):=⟨by decide,by decide⟩;have gq:=jU h3 (by decide) (U4 (9:Rat).num) (U4 ((9:Rat).den:Int)) (by decide) (by decide) (Su 9);have ea:=Qd5 (A:=E3.m) ht (by rw[m3];show ¬(9:Rat)<0;decide);have en9:E3.m.ans 9=kC E3.m.M 9:=if_pos (by rw[ea]);have er9:(E3.m.adv 9).2=0:=by rw[ea]
 rw[en9,er9,m3]at gq;have gq:dP 24 [.one (.ow 0 0),.agg (rl 9)] E3 [.agg (kC wtP 9),.oi 0] E3:=gq;obtain⟨_,_,e1,e2,_⟩:=Qiv m3;dsimp only at e1 e2;have t3:=Qum h3;rw[e1,e2]at t3;obtain⟨A0,hA0⟩:=nmE (kC wtP 0);obtain⟨A9,hA9⟩:=nmE (kC wtP 9);rw[<-hA0]at t3;rw[<-hA9]at gq;have g0:∃a b c d,A0=[ids [5,7,6],.row a,.row b,.row c,.row d]:=by
  rw[hA0];show ∃a b c d,[ids ((Tz (tq 0) wtP).map (·.id)),_,_,_,_]=_;rw[Qq2];exact⟨_,_,_,_,rfl⟩
 have g9:∃h c d,h.length=3/\A9=[ids [5,6,7],ids [7],ids h,.row c,.row d]:=by
  rw[hA9];show ∃h c d,_/\[ids ((Tz (tq 9) wtP).map (·.id)),ids ((M9 (Fu (tq 9)) wtP).1.map (·.id)),ids ((S7 wtP (tq 9)).map (·.id)),_,_]=_;rw[Qq3,Qq4];exact⟨_,_,_,Qlm,rfl⟩
 obtain⟨a,b,c,d,rfl⟩:=g0;obtain⟨h,c',d',hh,rfl⟩:=g9;have q1:=pI (a:=[5,7,6]) (b:=[5,7,6]) (by decide) (by decide);have q2:=pI (a:=[5,6,7]) (b:=[5,6,7]) (by decide) (by decide);have q3:=pI (a:=[7]) (b:=[7]) (by decide) (by decide);have hhl:(idl h).length=3:=by simp[idl,hh]
 have co:=KF (n:=9) (by decide);have ct:=wF (q:=9) ⟨by decide,by decide⟩;have k0:=lH (x:=0) (y:=0) (by decide) (by decide);have k4:=lH (x:=4) (y:=0) (by decide) (by decide);refine Fv func14 rfl ?_;exact Uf [.c Uv (Qe1 (np:=3) (nd:=1) (by decide) (by decide)),.f rfl,.f rfl,.k k0,.c Uv i1,.f rfl,.k k4,.c Uv i2,.f rfl,.z 29,.k Qt4,.c Uv i3,.f rfl,.k co,.k ct,.c Uv gq,.t rfl,.c Uv t3,.k q1,.t rfl,.k q2,.t rfl,.k q3,.t rfl,.r 71 (eI (b:=3) (by rw[Q8];omega))] rfl rfl (by simp[U3])
def vI(z:RawInt):Int:=Fb z.b (val z.l)
def RawInt.cutN(z:RawInt)(n:Nat):RawInt:=⟨z.b,z.l.take n⟩
theorem RawInt.Ok.cutN_ok{z:RawInt}(h:z.Ok)(n:Nat):(z.cutN n).Ok:=⟨λu hu=>h.u u (Qo hu)⟩
theorem YP{z:RawInt}(h:z.Ok):Gd (.bool z.b) (.row (lm z.l)) (vI z):=⟨z.b,z.l,rfl,rfl,h.u,rfl⟩
theorem MD{z:RawInt}(h:z.Ok){n:Nat}(hl:z.l.length<=n):Fe (vI z)<=32*n:=by
 have h1:=Bv z.l h.u;have e:(vI z).natAbs=val z.l:=by unfold vI Fb;split <;> simp
 refine Sw.2 ?_;rw[e,Ks];exact Z6 h1 (Zs (by decide) hl)
theorem XZ(z:RawInt)(n:Nat):(z.cutN n).l.length<=n:=by show(z.l.take n).length<=n;rw[Qq];omega
theorem MK{z:RawInt}{n:Nat}(hn:n<=1000):Uj 151 [.agg (Ea z),.oi n] [.agg (Ea (z.cutN n))] :=
 Ug func151 rfl [.k (Qtx (l:=z.l) hn)] rfl
theorem Qnr{t u:RawInt}:Uj 97 [.agg (Ea t++Ea u),.oi 6] [.agg (Ea (t.cutN 6)++Ea (u.cutN 6))] :=
 Ug func97 rfl [.k (MK (z:=t) (n:=6) (by decide)),.k (MK (z:=u) (n:=6) (by decide))] rfl
theorem wH{l:List RawInt}:Uj 150 [.one (.row (Io l)),.oi 4,.oi 1] [.one (.row (Io ((l.take 4).map (·.cutN 1))))]:=by
 have hll:=O5 l;refine Fv func150 rfl (ln 0 rfl rfl λhzl=>?_);rw[hll]at hzl;refine Ud [.o 7 37 2] rfl ?_;refine Ui (S:=Nat) 1 (λL1 i=>(8,.v (.oi i))::(7,.v (.one (.orow 0 2 none)))::L1) (λi=>[.row false 37 2 (Io ((l.take i).map (·.cutN 1)))]) (λi=>4-i) (λi=>i<=4/\i<=l.length) 0 ⟨by decide,Qh _⟩ rfl rfl λi ⟨hi,hi2⟩=>?_
 have hil:(Io ((l.take i).map (·.cutN 1))).length=i:=by rw[O5,Q8,Qq];omega
 by_cases h1:i<l.length
 ·by_cases h2:i<4
  ·obtain⟨z,hz⟩:=gxE (l:=l) (i:=i) h1;have hm:∀y∈[Ea (z.cutN 1)],y.length=2:=λy hy=>by rw[Qk.1 hy];rfl
   refine go tt [.g 13 true Ul,.T,.x (G5 (f:=Ea) hz),.k (MK (n:=1) (by decide)),.s (sz:=2) hm] rfl (by simp[U3,hil,-List.map_take];omega) ?_;exact rd (i+1) (by omega) ⟨h2,h1⟩ (by rw[Zv,hz];simp[Io];rfl)
  ·have e:i=4:=by omega
   have e2:l.take 4=l.take i:=by rw[e]
   rw[e2];exact Uf [.g 13 true Ul,.F] rfl
 ·have e:l.take i=l.take 4:=by rw[Qn (by omega),Qn (by omega)]
  rw[e];exact Uf [.g 13 false Uk,.f rfl] rfl
theorem Qtb{z:RawPt}:Uj 95 [.agg (rcw z),.oi 4,.oi 1] [.agg [.row (Io ((z.x.take 4).map (·.cutN 1))),.row (Io ((z.y.take 4).map (·.cutN 1))),.bool z.d.b,.row (lm (z.d.l.take 1))]] :=
 Ug func95 rfl [.k (wH (l:=z.x)),.k (wH (l:=z.y)),.k (MK (z:=z.d) (n:=1) (by decide))] rfl
theorem KI:∀{l:List RawInt},(∀z∈l,z.Ok)->IsInts (Io l) (l.map vI)
 | [],_=>trivial
 |z::l,h=>⟨⟨_,_,rfl,YP (h z (Qy ..))⟩,KI λy hy=>h y (Qg _ hy)⟩
theorem IW{x y:LV}{z:Int}(h:Gd x y z)(hl:∀l,y=.row (lm l)->l.length<=1000):Uj 67 [.agg [x,y]] [.agg (ri z)]:=by
 obtain⟨b,l,rfl,rfl,hs,rfl⟩:=h;have hl:=hl l rfl;have hv:=Bv l hs;have hsz:sz (val l)<=100000000:=by
  refine Qa ((Nt (k:=32*l.length)).2 ?_) (by omega);rw[Ks];exact hv
 exact Ug func67 rfl [.k (Qmx hs (by omega) hsz),.k (Nw b (val l))] rfl
theorem xH{x y x' y':LV}{a b:Int}(h:Gd x y a)(h':Gd x' y' b)(hl:∀l,y=.row (lm l)->l.length<=1000)(hl':∀l,y'=.row (lm l)->l.length<=1000)(sa:Fe a<=90000000)(sb:Fe b<=90000000):Uj 23 [.agg [x,y,x',y']] [.agg (fr (Gi a b))]:=by
 have c1:=IW h hl;have c2:=IW h' hl';have c3:=YV sa sb;obtain⟨b1,l1,rfl,rfl,_⟩:=h;obtain⟨b2,l2,rfl,rfl,_⟩:=h';exact Ug func23 rfl [.k c1,.k c2,.k c3] rfl
theorem Qir{a b:Uo}(h:LV.row (lm a)=.row (lm b)):a.length=b.length:=by
 injection h with h;have:=congrArg List.length h;simpa[lm]using this
theorem Qeo{q:Rat}(hq:Qs 30000 q):Uj 23 [.agg (rl q)] [.agg (fr q)]:=by
 have e:Gi q.num (q.den:Int)=q:=by
  unfold Gi;rw[if_neg (by have:=q.den_pos;omega)];exact Z5 q
 have ln:∀{z:Int},Fe z<=30000->∀l,mg z=.row (lm l)->l.length<=1000:=λ{z} hz l h=>by
  have h1:=Rm (x:=z.natAbs) (k:=30000) hz;have:=Qir h;omega
 have h:=xH (U4 q.num) (U4 (q.den:Int)) (ln hq.1) (ln hq.2) (Qa hq.1 (by decide)) (Qa hq.2 (by decide));rw[e]at h;exact h
theorem Qi7{m b:Nat}(hb:0<b)(h:0<m % b):(-(m:Int)) % (b:Int)=-((m % b:Nat):Int)+(b:Int):=by
 have h1:=Z4 m hb;have h2:=We m b;have e:-(m:Int)=(-((m % b:Nat):Int)+(b:Int))+(b:Int)*(-((m / b:Nat):Int)-1):=by
  have:(m:Int)=((m % b:Nat):Int)+(b:Int)*((m / b:Nat):Int):=by
   have:=congrArg (λ(n:Nat)=>(n:Int)) h2
   push_cast at this ⊢
   omega
  rw[Int.mul_sub,V7];omega
 rw[e,Int.add_mul_emod_self_left];exact Int.emod_eq_of_lt (by omega) (by omega)
theorem Qbp{a:Int}{b:Nat}(ha:Fe a<=90000000)(hb:Fe (b:Int)<=90000000)(h0:0<b):∃x,Uj 98 [.agg (ri a),.agg (ri (b:Int))] [.agg (ri x),.agg (ri (a % (b:Int)))]:=by
 have cd:=pE (x:=a.natAbs) (y:=(b:Int).natAbs) ha hb (by omega);have eb:(b:Int).natAbs=b:=rfl;have sb:sg (b:Int)=.bool false:=by unfold sg;rw[decide_eq_false (by omega)]
 rw[eb]at cd;have hml:=Z4 a.natAbs h0;rcases Kd a 0 with hn|hn
 ·have sa:sg a=.bool true:=by unfold sg;rw[decide_eq_true hn]
  have m1:=Nw true (a.natAbs / b);have m2:=Nw true (a.natAbs % b);have ea:a=-(a.natAbs:Int):=by omega
  by_cases hr:a.natAbs % b=0
  ·have e:a % (b:Int)=0:=by
    rw[ea];exact Jx ((Int.dvd_neg).2 (Int.ofNat_dvd.2 (Nat.dvd_of_mod_eq_zero hr)))
   rw[e];refine⟨Fb true (a.natAbs / b),?_⟩;rw[hr]at m2 cd;rw[show Fb true 0=0 from rfl]at m2;show Uj 98 [.agg [nd a.natAbs,sg a],.agg [nd (b:Int).natAbs,sg (b:Int)]] _;rw[sa,sb,eb];exact Ug func98 rfl [.k cd,.k m1,.k m2,.t rfl] rfl
  ·have e:=Qi7 h0 (by omega:0<a.natAbs % b);rw[<-ea]at e;have os:Fb true (a.natAbs % b)=-((a.natAbs % b:Nat):Int):=rfl;have ng:decide (Fb true (a.natAbs % b)<0)=true:=by rw[os];exact decide_eq_true (by omega)
   have hsm:Fe (Fb true (a.natAbs % b))<=200000000:=by
    rw[os,Hm];exact Qa (Rh (Nat.mod_le _ _)) (Qa ha (by decide))
   have hsd:Fe (Fb true (a.natAbs / b))<=200000000:=by
    show Fe (-((a.natAbs / b:Nat):Int))<=_;rw[Hm];exact Qa (Rh (Jq _ _)) (Qa ha (by decide))
   have c1:=ZA (n:=1) (by decide);have c2:=Qfx (a:=Fb true (a.natAbs / b)) (b:=1) hsd (by decide);have c3:=mJ (a:=Fb true (a.natAbs % b)) (b:=(b:Int)) hsm (Qa hb (by decide));rw[os,<-e]at c3;rw[os]at m2 ng;refine⟨Fb true (a.natAbs / b)-1,?_⟩;show Uj 98 [.agg [nd a.natAbs,sg a],.agg [nd (b:Int).natAbs,sg (b:Int)]] _;have c3':Uj 68 [.agg (ri (-((a.natAbs % b:Nat):Int))),.agg [nd b,.bool false]] [.agg (ri (a % (b:Int)))]:=by rw[<-sb];exact c3
   rw[sa,sb,eb];exact Ug func98 rfl [.k cd,.k m1,.k m2,.f (show(!decide (-((a.natAbs % b:Nat):Int)<0))=false by rw[ng];rfl),.f rfl,.k c1,.k c2,.k c3'] rfl
 ·have sa:sg a=.bool false:=by unfold sg;rw[decide_eq_false (by omega)]
  have m1:=Nw false (a.natAbs / b);have m2:=Nw false (a.natAbs % b);have ea:a=(a.natAbs:Int):=by omega
  have e:a % (b:Int)=((a.natAbs % b:Nat):Int):=by rw[ea];rfl
  have os:Fb false (a.natAbs % b)=((a.natAbs % b:Nat):Int):=rfl;have ng:decide (((a.natAbs % b:Nat):Int)<0)=false:=decide_eq_false (by omega);rw[e];rw[os]at m2;refine⟨Fb false (a.natAbs / b),?_⟩;show Uj 98 [.agg [nd a.natAbs,sg a],.agg [nd (b:Int).natAbs,sg (b:Int)]] _;rw[sa,sb,eb];exact Ug func98 rfl [.k cd,.k m1,.k m2,.t (show(!decide (((a.natAbs % b:Nat):Int)<0))=true by rw[ng];rfl)] rfl
def SL(x:Rat):Rat:=Gi (x.num % (x.den:Int)) (x.den:Int)
theorem oD{x:Rat}(h:Qs 128 x):Qs 128 (SL x):=by
 have h0:=x.den_pos;have h1:=Ye x.num (b:=(x.den:Int)) (by omega);have h2:=Js x.num (b:=(x.den:Int)) (by omega);unfold SL Gi;rw[if_neg (by omega)];refine⟨Pf (Qa (Rh (by omega)) h.2),Pe h.2 (by decide)⟩
theorem Qnw{x y x' y':LV}{a b:Int}(h:Gd x y a)(h':Gd x' y' b)(hl:∀l,y=.row (lm l)->l.length<=1000)(hl':∀l,y'=.row (lm l)->l.length<=1000)(sa:Fe a<=90000000)(sb:Fe b<=90000000)(hq:Qs 128 (Gi a b)):Uj 48 [.agg [x,y,x',y']] [.agg (rl (SL (Gi a b)))]:=by
 have c1:=xH h h' hl hl' sa sb;obtain⟨q,hqe⟩:=nmE (Gi a b);rw[<-hqe]at c1 hq ⊢;have c2:=wF (q:=q) (hq.mono (by decide));obtain⟨z,c3⟩:=Qbp (a:=q.num) (b:=q.den) (Qa hq.1 (by decide)) (Qa hq.2 (by decide)) q.den_pos;have h2:=Js q.num (b:=(q.den:Int)) (by have:=q.den_pos;omega);have h1:=Ye q.num (b:=(q.den:Int)) (by have:=q.den_pos;omega);have c4:=YV (a:=q.num % (q.den:Int)) (b:=(q.den:Int)) (Qa (Rh (by omega)) (Qa hq.2 (by decide))) (Qa hq.2 (by decide));have c5:=wF (q:=SL q) ((oD hq).mono (by decide));have l1:=ZM.2 hq.1;have l2:(Gb q.den).length<=4:=by simpa using ZM.2 hq.2
 obtain⟨b1,r1,rfl,rfl,_⟩:=h;obtain⟨b2,r2,rfl,rfl,_⟩:=h';exact Ug func48 rfl [.k c1,.k c2,.f (by simp[kU];omega),.f (by simp[kU];omega),.k c3,.k c4,.k c5] rfl
theorem Qnv{x y x' y':LV}{a b:Int}(h:Gd x y a)(h':Gd x' y' b)(hl:∀l,y=.row (lm l)->l.length<=1000)(hl':∀l,y'=.row (lm l)->l.length<=1000)(sa:Fe a<=32000)(sb:Fe b<=32000)(hq:¬Qs 128 (Gi a b)):Uj 48 [.agg [x,y,x',y']] [.agg [x,y,x',y']]:=by
 have c1:=xH h h' hl hl' (Qa sa (by decide)) (Qa sb (by decide));have hs:Qs 32000 (Gi a b):=by
  unfold Gi
  split
  ·exact⟨Pf sa,Pe (by decide) (by decide)⟩
  ·exact⟨Pf sa,Pe sb (by decide)⟩
 obtain⟨q,hqe⟩:=nmE (Gi a b);rw[<-hqe]at c1 hq hs;have c2:=wF (q:=q) (hs.mono (by decide));obtain⟨b1,r1,rfl,rfl,_⟩:=h;obtain⟨b2,r2,rfl,rfl,_⟩:=h';by_cases h1:Fe q.num<=128
 ·have h2:¬Fe (q.den:Int)<=128:=λh=>hq ⟨h1,h⟩
  have l1:=ZM.2 h1;have l2:¬(Gb q.den).length<=4:=by simpa using mt ZM.1 h2
  exact Ug func48 rfl [.k c1,.k c2,.f (by simp[kU];omega),.t (by simp[kU];omega)] rfl
 ·have l1:=mt ZM.1 h1;exact Ug func48 rfl [.k c1,.k c2,.t (by simp[kU];omega),.t rfl] rfl
theorem XN(a:Int):∀i,Fe (a^i)<=Fe a*i+1
 | 0=>by rw[Wy];show Fe 1<=_;exact Qa (by decide) (Wd 1 _)
 |
  i+1=>by
  rw[Wx];have h1:=Ga (a^i) a;have h2:=XN a i;rw[W4];omega
theorem Qe7{a:Int}{n:Nat}(ha:Fe a<=1000)(hn:n<=256):Uj 133 [.agg (G8 a),.oi n] [.agg (G8 (a^n))]:=by
 refine Fv func133 rfl ?_;refine Ud [.k (BF (z:=1) (by decide)),.r 8 (v:=.oi n) (by simp;omega),.r 9 (v:=.oi n) (by simp)] rfl ?_;refine lp (S:=Nat) 3 (λL1 i=>(10,.v (.oi i))::L1) (λi=>[.blk 37 (G8 a),.blk 37 [.bool false,.nils],.blk 37 (G8 (a^i))]) (λi=>n-i) (λi=>i<=n) 0 (Qh _) rfl (λ_ _=>rfl) (by rw[Wy];rfl) λi hi=>?_
 by_cases h:i<n
 ·have h1:=XN a i;have h2:Fe a*i<=1000*256:=Zc ha (by omega);have cm:=P5 (U4 (a^i)) (U4 a) (by omega) (by omega);rw[<-Wx]at cm;refine Ue [.t (by simp;omega),.k cm] rfl ?_;exact rd (i+1) (by omega) h rfl
 ·obtain rfl:i=n:=by omega
  exact Uf [.f (by simp)] rfl
def Rr(n d:Int):Um->Um×Int
 | []=>([],1)
 |x::l=>(A5 (Gl (Rr n d l).1 [n,d]) [x*(Rr n d l).2],(Rr n d l).2*d)
theorem nO(n d:Int):∀l,Ff (Rr n d l).1
 | []=>rfl
 |_::_=>Fy _ _
theorem pU{n d:Int}(hn:Fe n<=130)(hd:Fe d<=130):Bd 130 [n,d]:=λz hz=>by
 rcases Qm.1 hz with rfl|hz
 ·exact hn
 ·rw[Qk.1 hz];exact hd
theorem FS{n d:Int}(hn:Fe n<=130)(hd:Fe d<=130){s:Nat}:∀{l:Um},Bd s l->l.length<=8->Bd (s+140*l.length) (Rr n d l).1/\(Rr n d l).1.length<=l.length/\Fe (Rr n d l).2<=130*l.length+1
 | [],_,_=>⟨KV,Ql _,by show Fe 1<=_;exact Qa (by decide) (Wd 1 _)⟩
 |
  x::l,h,hl=>by
  rw[Q5]at hl ⊢;obtain⟨h1,h2,h3⟩:=FS hn hd (λz hz=>h z (Qg _ hz)) (by omega:l.length<=8);have hx:=h x (Qy ..);have b1:=Pm (u:=4) h1 (pU hn hd) (by omega);have b2:Bd (s+(130*l.length+1)) [x*(Rr n d l).2]:=λz hz=>by
   rw[Qk.1 hz];have:=Ga x (Rr n d l).2;omega
  refine⟨U5 (YZ b1 b2) (by omega),?_,?_⟩
  ·have h4:=Of (Gl (Rr n d l).1 [n,d]) [x*(Rr n d l).2];have h5:=Tw (Rr n d l).1 [n,d];simp only[Q5,Xk]at h4 h5;show(A5 _ _).length<=_;omega
  ·have:=Ga (Rr n d l).2 d;show Fe ((Rr n d l).2*d)<=_;omega
theorem Qb7{a:Um}{j:Nat}{x:Int}(h:a[j]? = some x):a.drop j=x::a.drop (j+1):=by
 obtain⟨h1,h2⟩:=Qf.1 h;rw[Zp h1,h2]
theorem Qex{a:Um}{n d:Int}{s:Nat}(ta:Ff a)(ha:Bd s a)(hs:s<=1000)(hl:a.length<=8)(hn:Fe n<=130)(hd:Fe d<=130)(h0:d≠0):Uj 130 [pr a,.agg (G8 n),.agg (G8 d)] [pr (Rr n d a).1,.oi 0]:=by
 have nn:=Mn (U4 n) (by omega);have nd:=Mn (U4 d) (by omega);have cn:=Ht (p:=a) ta (by omega) (U5 ha (by omega));have td:Ff [n,d]:=by simp[Ff,trim,h0]
 refine Fv func130 rfl ?_;refine Ue [.k nd,.k (Dl (z:=d)),.f (by simpa using h0),.k cn,.z 8,.k nn,.k nd,.k (BF (z:=1) (by decide)),.r 25 (eI (b:=(a.length:Int)-1) (by simp))] rfl ?_;refine lp (S:=Nat) 3 (λL1 j=>(11,.v (.oi ((j:Int)-1)))::(8,.v (pr (Rr n d (a.drop j)).1))::L1) (λj=>[.blk 37 (G8 n),.blk 37 (G8 d),.blk 37 (G8 (Rr n d (a.drop j)).2)]) (λj=>j) (λj=>j<=a.length) a.length (Ql _) rfl (λ_ _=>rfl) (by rw[Yt];rfl) λj hj=>?_
 cases j with
 |zero=>exact Uf [.f (by simp)] rfl
 |
  succ j =>
  obtain⟨x,hx⟩:=gxE (l:=a) (i:=j) (by omega);obtain⟨b1,b2,b3⟩:=FS hn hd (l:=a.drop (j+1)) (λz hz=>ha z (Qz hz)) (by rw[Q7];omega);have hdl:(a.drop (j+1)).length<=8:=by rw[Q7];omega
  have e:Rr n d (a.drop j)=(A5 (Gl (Rr n d (a.drop (j+1))).1 [n,d]) [x*(Rr n d (a.drop (j+1))).2],(Rr n d (a.drop (j+1))).2*d):=by rw[Qb7 hx];rfl
  have e1:(Rr n d (a.drop j)).1=A5 (Gl (Rr n d (a.drop (j+1))).1 [n,d]) [x*(Rr n d (a.drop (j+1))).2]:=by rw[e]
  have e2:(Rr n d (a.drop j)).2=(Rr n d (a.drop (j+1))).2*d:=by rw[e]
  have tm:=nO n d (a.drop (j+1));obtain⟨P,hP⟩:=nmE ((Rr n d (a.drop (j+1))).1);obtain⟨W,hW⟩:=nmE ((Rr n d (a.drop (j+1))).2);rw[<-hP,<-hW]at e1;rw[<-hW]at e2;rw[<-hP]at b1 b2 tm;rw[<-hW]at b3;have hxs:=ha x (Qc hx);have c1:=KG tm td (by omega) (by show 2<137438953472;decide) b1 (pU hn hd) (by omega);have c2:=P5 (U4 x) (U4 W) (by omega) (by omega);have bm:=Pm (u:=4) b1 (pU hn hd) (by omega);have hm:=Ga x W;have hlm:=Tw P [n,d];simp only[Q5,Xk]at hlm;have c3:=BG (p:=Gl P [n,d]) (q:=[x*W]) (by omega) (by show 1<274877906944;decide) (U5 bm (by omega)) (λz hz=>by rw[Qk.1 hz];omega);rw[<-e1]at c3;have c4:=P5 (U4 W) (U4 d) (by omega) (by omega);rw[<-e2]at c4;rw[show((j+1:Nat):Int)-1=(j:Int) by omega,<-hP,<-hW];refine Ue [.t (by simp),.k c1,.x (Pg hx),.k c2,.k c3,.k c4] rfl ?_;exact rd j (by omega) (by omega) rfl
def rO(px py:Um)(q:Rat):Crv:=⟨Fw (Rr (-q).num ((-q).den:Int) (trim px)).1 (((-q).den:Int)^(max ((trim px).length-1) ((trim py).length-1)-((trim px).length-1))),Fw (Rr (-q).num ((-q).den:Int) (trim py)).1 (((-q).den:Int)^(max ((trim px).length-1) ((trim py).length-1)-((trim py).length-1))),((-q).den:Int)^(max ((trim px).length-1) ((trim py).length-1))⟩
theorem Qfb{lx ly:Us}{px py:Um}{q:Rat}{s:Nat}(hx:IsInts lx px)(hy:IsInts ly py)(hq:Qs 128 q)(bx:Bd s px)(by_:Bd s py)(hs:s<=1000)(llx:px.length<=8)(lly:py.length<=8) :
 Cs 4294967294 1073741824 (rO px py q)/\Uj 77 [.one (.row lx),.one (.row ly),.agg (rl q)] [.agg (cl (Crv.norm (rO px py q)))]:=by
 have cx:=Ch hx (by omega) (U5 bx (by omega));have cy:=Ch hy (by omega) (U5 by_ (by omega));have cg:=Qgc (q:=q) (hq.mono (by decide));have hnq:Qs 128 (-q):=by
  refine⟨?_,?_⟩
  ·rw[Rat.neg_num,Hm];exact hq.1
  ·rw[Rat.neg_den];exact hq.2
 have hX:Bd s (trim px):=Tx bx;have hY:Bd s (trim py):=Tx by_;have lX:(trim px).length<=8:=Qa (H7 px) llx;have lY:(trim py).length<=8:=Qa (H7 py) lly;have h0:((-q).den:Int)≠0:=by have:=(-q).den_pos;omega
 have hn1:Fe (-q).num<=130:=Qa hnq.1 (by decide);have hd1:Fe ((-q).den:Int)<=130:=Qa hnq.2 (by decide);have m1:=Qex (Rq px) hX hs (by omega) hn1 hd1 h0;have m2:=Qex (Rq py) hY hs (by omega) hn1 hd1 h0;obtain⟨p1,p2,_⟩:=FS hn1 hd1 hX (by omega);obtain⟨q1,q2,_⟩:=FS hn1 hd1 hY (by omega);unfold rO;obtain⟨D,hD⟩:=nmE (((-q).den:Int));obtain⟨N,hN⟩:=nmE ((-q).num);have hgl:rl (-q)=[sg N,mg N,sg D,mg D]:=by rw[hN,hD]
 rw[hgl]at cg;rw[<-hD,<-hN]at m1 m2 p1 p2 q1 q2 ⊢;rw[<-hD]at hd1;obtain⟨X,hXe⟩:=nmE (trim px);obtain⟨Y,hYe⟩:=nmE (trim py);rw[<-hXe]at cx hX lX m1 p1 p2 ⊢;rw[<-hYe]at cy hY lY m2 q1 q2 ⊢;obtain⟨a,ha⟩:=nmE (X.length-1);obtain⟨b,hb⟩:=nmE (Y.length-1);rw[<-ha,<-hb];obtain⟨k,hk⟩:=nmE (max a b);rw[<-hk];have w1:=Qe7 (a:=D) (n:=k-a) (by omega) (by omega);have w2:=Qe7 (a:=D) (n:=k-b) (by omega) (by omega);have w3:=Qe7 (a:=D) (n:=k) (by omega) (by omega);have z1:=XN D (k-a);have z2:=XN D (k-b);have z3:=XN D k;have y1:Fe D*(k-a)<=130*8:=Zc hd1 (by omega);have y2:Fe D*(k-b)<=130*8:=Zc hd1 (by omega);have y3:Fe D*k<=130*8:=Zc hd1 (by omega);have s1:=Pu (p:=(Rr N D X).1) (c:=D^(k-a)) (by omega) (U5 p1 (by omega)) (by omega);have s2:=Pu (p:=(Rr N D Y).1) (c:=D^(k-b)) (by omega) (U5 q1 (by omega)) (by omega);have e1:=Ge p1 (c:=D^(k-a)) (Ql _);have e2:=Ge q1 (c:=D^(k-b)) (Ql _);have f1:=Fx (Rr N D X).1 (D^(k-a));have f2:=Fx (Rr N D Y).1 (D^(k-b));have hcs:Cs 4294967294 1073741824 ⟨Fw (Rr N D X).1 (D^(k-a)),Fw (Rr N D Y).1 (D^(k-b)),D^k⟩:=⟨U5 e1 (by omega),U5 e2 (by omega),by show Fe (D^k)<=_;omega,by show(Fw _ _).length<=_;omega,by show(Fw _ _).length<=_;omega⟩;refine⟨hcs,?_⟩;have cn:=MV (Gg _) (Gg _) (U4 _) hcs;have ek:((max a b:Nat):Int)=(k:Int):=by rw[hk]
 exact Ug func77 rfl [.k cx,.k cy,.k cg,.k m1,.k m2,.k (Mb X),.r 40 (eI (b:=(a:Int)) (by omega)),.k (Mb Y),.r 43 (eI (b:=(b:Int)) (by omega)),.r 46 (eI (b:=(k:Int)) (by omega)),.r 52 (eI (b:=((k-a:Nat):Int)) (by omega)),.k w1,.k s1,.r 60 (eI (b:=((k-b:Nat):Int)) (by omega)),.k w2,.k s2,.k w3,.k cn] rfl rfl (by simp[U3];omega)
theorem Qui{E:Es}{b:Int}(h:EOk b E){lx ly:Us}{px py:Um}{s:Nat}{id:Int}(hx:IsInts lx px)(hy:IsInts ly py)(bx:Bd s px)(by_:Bd s py)(hs:s<=1000)(llx:px.length<=8)(lly:py.length<=8) :
 ∃E',EOk b E'/\E'.m=(E.m.rep ⟨Crv.norm (rO px py E.q),id⟩).1/\dP 29 [.one (.ow 0 0),.oi id,.one (.row lx),.one (.row ly)] E [.one (.int .i64 (E.m.rep ⟨Crv.norm (rO px py E.q),id⟩).2)] E':=by
 obtain⟨hc,cr⟩:=Qfb hx hy h.q bx by_ hs llx lly;have hcn:=hc.norm (by omega);have hnm:=Crv.nml (rO px py E.q);obtain⟨C,hC⟩:=nmE (Crv.norm (rO px py E.q));rw[<-hC]at cr hcn hnm ⊢;obtain⟨E',h1,h2,h3⟩:=uT h (id:=id) (Gg C.x) (Gg C.y) (U4 C.d) hcn;have eC:Crv.norm (Crv.mk C.x C.y C.d)=C:=Crv.norm_of hnm;rw[eC]at h2 h3;refine⟨E',h1,h2,?_⟩;refine Fv func29 rfl ?_;exact Uh [] [0,1,2,3,4,5,6] [.k cr,.c Uv h3] rfl
end Orr
namespace Orr
open Go
structure RawOp where
 k:Int
 n:Int
 d:Int
 p:RawPt
 t:RawInt
 u:RawInt
structure RawOp.Ok(o:RawOp):Prop where
 k:-9223372036854775808<=o.k/\o.k<=9223372036854775807
 n:-9223372036854775808<=o.n/\o.n<=9223372036854775807
 d:-9223372036854775808<=o.d/\o.d<=9223372036854775807
 p:o.p.Ok
 t:o.t.Ok
 u:o.u.Ok
abbrev rwo(o:RawOp):Ur:=[.int .i64 o.k,.int .i64 o.n,.int .i64 o.d]++rwq o.p++Ea o.t++Ea o.u
def qH(l:List RawOp):Us:=l.map rwo
theorem Qc1(l:List RawOp):(qH l).length=l.length:=by simp[qH]
theorem TZ{l:List RawOp}{i:Nat}{o:RawOp}(h:l[i]? = some o):(qH l)[i]? = some (rwo o):=by rw[qH,Q9,h];rfl
end Orr
namespace Orr
open Go Go.Proofs Tryz Orq
set_option maxRecDepth 10000
def Oi(N:Int):Int:=if N=2 then 999 else if N=3 then 99 else 20
theorem gX(N:Int):0<=Oi N/\Oi N<=999:=by unfold Oi;split;decide;split;decide;decide
def UP(N:Int)(z:RawPt):Crv:=if 1<N then ⟨Gp (Oi N) z.x++(if 3<z.x.length then [1]else []),Gp (Oi N) z.y,H5 3 z.d⟩else ⟨((z.x.take 4).map (·.cutN 1)).map vI,((z.y.take 4).map (·.cutN 1)).map vI,vI (z.d.cutN 1)⟩
theorem Qj6{l:List RawInt}(h:∀a∈l,a.Ok):∀z∈(l.take 4).map (·.cutN 1),z.Ok:=λz hz=>by
 obtain⟨y,hy,rfl⟩:=Za.1 hz;exact(h y (Qo hy)).cutN_ok 1
theorem Qj5{l:List RawInt}(h:∀a∈l,a.Ok):Bd 40 (((l.take 4).map (·.cutN 1)).map vI):=λz hz=>by
 obtain⟨y,hy,rfl⟩:=Za.1 hz;obtain⟨x,hx,rfl⟩:=Za.1 hy;exact Qa (MD ((h x (Qo hx)).cutN_ok 1) (XZ x 1)) (by decide)
theorem Qoa{N:Int}{z:RawPt}(hz:z.Ok):Cs 40 4 (UP N z):=by
 unfold UP
 split
 ·have h:=Qb1 (gX N) z.x z.y z.d;refine⟨λy hy=>?_,U5 h.y (by decide),Qa h.d (by decide),?_,Qa h.ly (by decide)⟩
  ·rcases Qr.1 hy with hy|hy
   ·exact Qa (h.x y hy) (by decide)
   ·split at hy
    ·rw[Qk.1 hy];decide
    ·cases hy
  ·have:=h.lx;have h2:(Gp (Oi N) z.x).length<=3:=this;show(_++_:Um).length<=4;rw[Qu]
   split <;> simp <;> omega
 ·exact⟨Qj5 hz.x,Qj5 hz.y,Qa (MD (hz.d.cutN_ok 1) (XZ z.d 1)) (by decide),by show(List.map _ _).length<=4;rw[Q8,Q8,Qq];omega,by show(List.map _ _).length<=4;rw[Q8,Q8,Qq];omega⟩
def sD(o:RawOp):Int:=if Pj o.k 12<10 then Pj o.p.id 6 else o.p.id
abbrev Qub(o:RawOp)(lx ly:Us)(bb:Bool)(l3:Us):Ur:=[.int .i64 o.k,.int .i64 o.n,.int .i64 o.d,.row lx,.row ly,.bool bb,.row l3,.int .i64 (sD o)]++Ea (o.t.cutN 6)++Ea (o.u.cutN 6)
abbrev iE(ms:Ur)(N:Int):Ur:=[.ow 0 0,.sh ms,.int .i64 N]
theorem yX{most:Int}{l:List RawInt}(h:3<l.length):(Gp most l).length=3:=by unfold Gp;rw[List.length_map,List.length_take];omega
abbrev Qsf:Ur:=[.bool false,.row [[.int .u32 1]]]
theorem nG{p:Um}:IsInts (p.map G8++[Qsf]) (p++[1]):=(Gg p).append ⟨⟨_,_,rfl,false,[1],rfl,rfl,(λx hx=>by rw[Qk.1 hx];decide),rfl⟩,trivial⟩
theorem Qbf{z:RawPt}(hz:z.Ok){most:Int}(hm:0<=most/\most<=999):U6 prog 96 [.agg (rcw z),.oi most] [] [.agg [.orow 0 2 none,.row (Ap (Gp most z.y)),sg (H5 3 z.d),mg (H5 3 z.d)]] [.row false 37 2 (Ap (Gp most z.x))]:=by
 have hxl:=O5 z.x;have hyl:=O5 z.y;obtain⟨D,hD⟩:=nmE (H5 3 z.d);have cd:=UF hz.d (most:=3) (by decide);have hx0:∀{i:Nat},z.x.length<=i\/3<=i->Gp most (z.x.take i)=Gp most z.x:=SB most;have hy0:∀{i:Nat},z.y.length<=i\/3<=i->Gp most (z.y.take i)=Gp most z.y:=SB most;rw[<-hD]at cd ⊢;refine Fv func96 rfl ?_;refine Ud [.k cd] rfl ?_;refine oz2 5 0 37 2 rfl rfl ?_;refine Ui (S:=Nat) 4 (λL1 i=>(6,.v (.oi i))::L1) (λi=>[.blk 39 (rcw z),.blk 39 [.nils,.nils,.bool false,.nils],.blk 39 [.orow 3 2 none,.nils,sg D,mg D],.row false 37 2 (Ap (Gp most (z.x.take i)))]) (λi=>3-i) (λi=>i<=3/\i<=z.x.length) 0 ⟨by decide,Qh _⟩ rfl rfl λi ⟨hi,hi2⟩=>?_
 have hll:=yZ (most:=most) hi hi2;by_cases hr:i<z.x.length/\i<3
 ·obtain⟨a,ha⟩:=gxE (l:=z.x) (i:=i) hr.1;have hs:∀y∈[G8 (H5 most a)],y.length=2:=λy hy=>by rw[Qk.1 hy];rfl
  refine go tt [.g 17 true Ul,.T,.x (G5 (f:=Ea) ha),.k (UF (hz.x a (Qc ha)) hm),.s (sz:=2) hs] rfl (by simp[U3,hll];omega) ?_;exact rd (i+1) (by omega) ⟨hr.2,hr.1⟩ (by rw[RA hr.2 ha];rfl)
 have hg1:decide ((i:Int)<((Io z.x).length:Int))=true->i<z.x.length:=λh=>by have:=of_decide_eq_true h;omega
 rw[hx0 (by omega)];clear hll;have hfin:∀{j:Nat},j<=3/\j<=z.y.length->¬(j<z.y.length/\j<3)->Ap (Gp most (z.y.take j))=Ap (Gp most z.y):=λh1 h2=>by rw[hy0 (by omega)]
 by_cases hxx:i<z.x.length
 ·refine Ud [.g 17 true Ul,.F] rfl ?_;refine oz2 5 1 37 2 rfl rfl ?_;refine Ui (S:=Nat) 5 (λL1 j=>(7,.v (.oi j))::L1) (λj=>[.blk 39 (rcw z),.blk 39 [.nils,.nils,.bool false,.nils],.blk 39 [.orow 3 2 none,.orow 4 2 none,sg D,mg D],.row false 37 2 (Ap (Gp most z.x)),.row false 37 2 (Ap (Gp most (z.y.take j)))]) (λj=>3-j) (λj=>j<=3/\j<=z.y.length) 0 ⟨by decide,Qh _⟩ rfl rfl λj ⟨hj,hj2⟩=>?_
  have hll:=yZ (most:=most) hj hj2;by_cases hr:j<z.y.length/\j<3
  ·obtain⟨a,ha⟩:=gxE (l:=z.y) (i:=j) hr.1;have hs:∀y∈[G8 (H5 most a)],y.length=2:=λy hy=>by rw[Qk.1 hy];rfl
   refine go tt [.g 40 true Ul,.T,.x (G5 (f:=Ea) ha),.k (UF (hz.y a (Qc ha)) hm),.s (sz:=2) hs] rfl (by simp[U3,hll];omega) ?_;exact rd (j+1) (by omega) ⟨hr.2,hr.1⟩ (by rw[RA hr.2 ha];rfl)
  rw[hfin ⟨hj,hj2⟩ hr];by_cases hyy:j<z.y.length
  ·exact Uh [4] [3] [.g 40 true Ul,.F] rfl
  ·exact Uh [4] [3] [.g 40 false Uk,.f rfl] rfl
 ·refine Ud [.g 17 false Uk,.f rfl] rfl ?_;refine oz2 5 1 37 2 rfl rfl ?_;refine Ui (S:=Nat) 5 (λL1 j=>(7,.v (.oi j))::L1) (λj=>[.blk 39 (rcw z),.blk 39 [.nils,.nils,.bool false,.nils],.blk 39 [.orow 3 2 none,.orow 4 2 none,sg D,mg D],.row false 37 2 (Ap (Gp most z.x)),.row false 37 2 (Ap (Gp most (z.y.take j)))]) (λj=>3-j) (λj=>j<=3/\j<=z.y.length) 0 ⟨by decide,Qh _⟩ rfl rfl λj ⟨hj,hj2⟩=>?_
  have hll:=yZ (most:=most) hj hj2;by_cases hr:j<z.y.length/\j<3
  ·obtain⟨a,ha⟩:=gxE (l:=z.y) (i:=j) hr.1;have hs:∀y∈[G8 (H5 most a)],y.length=2:=λy hy=>by rw[Qk.1 hy];rfl
   refine go tt [.g 40 true Ul,.T,.x (G5 (f:=Ea) ha),.k (UF (hz.y a (Qc ha)) hm),.s (sz:=2) hs] rfl (by simp[U3,hll];omega) ?_;exact rd (j+1) (by omega) ⟨hr.2,hr.1⟩ (by rw[RA hr.2 ha];rfl)
  rw[hfin ⟨hj,hj2⟩ hr];by_cases hyy:j<z.y.length
  ·exact Uh [4] [3] [.g 40 true Ul,.F] rfl
  ·exact Uh [4] [3] [.g 40 false Uk,.f rfl] rfl
set_option maxHeartbeats 4000000 in
theorem Qto{E:Es}{N:Int}{o:RawOp}{ms:Ur}(hN:1<=N/\N<=4)(ho:o.Ok):∃lx ly bb l3,IsInts lx (UP N o.p).x/\IsInts ly (UP N o.p).y/\Gd (.bool bb) (.row l3) (UP N o.p).d /\
 U6 prog 45 [.agg (iE ms N),.agg (rwo o)] (enB 0 E) [.agg (Qub o lx ly bb l3)] (enB 0 E):=by
 have c4:=Qtb (z:=o.p);have wk:=Ad (v:=o.k) (n:=12) ho.k (by decide);have wi:=Ad (v:=o.p.id) (n:=6) ho.p.id (by decide);have cr:=Qnr (t:=o.t) (u:=o.u);have cl:=Qbf ho.p (most:=Oi N) (gX N);obtain⟨i,hi⟩:=nmE (sD o);have hln:(Io o.p.x).length=o.p.x.length:=O5 _;unfold Qub;rw[<-hi];by_cases h1:1<N
 ·have e1:UP N o.p=⟨Gp (Oi N) o.p.x++(if 3<o.p.x.length then [1]else []),Gp (Oi N) o.p.y,H5 3 o.p.d⟩:=if_pos h1;rw[e1];dsimp only;obtain⟨X,hX⟩:=nmE (Gp (Oi N) o.p.x);obtain⟨Y,hY⟩:=nmE (Gp (Oi N) o.p.y);obtain⟨D,hD⟩:=nmE (H5 3 o.p.d);have hX3:=yX (most:=Oi N) (l:=o.p.x);rw[<-hX]at hX3;rw[<-hX,<-hY,<-hD]at cl ⊢;have e3:∃k:Nat,(k:Int)=min N 4/\[[LV.int .i64 0],[.int .i64 0],[.int .i64 999],[.int .i64 99],[.int .i64 20]][k]? = some [.int .i64 (Oi N)]:=by
   rcases(show N=2\/N=3\/N=4 by omega)with rfl|rfl|rfl
   ·exact⟨2,rfl,rfl⟩
   ·exact⟨3,rfl,rfl⟩
   ·exact⟨4,rfl,rfl⟩
  obtain⟨k,k1,k2⟩:=e3;by_cases h3:3<o.p.x.length
  ·rw[if_pos h3];have hX3:=hX3 h3;have hml:(X.map G8).length=3:=by rw[Q8];exact hX3
   refine⟨_,_,_,_,nG,Gg Y,U4 D,?_⟩;refine Fv func45 rfl ?_;refine go tt [.k c4,.t (by simpa using h1),.r 19 (eI k1.symm),.x k2,.c [11] cl,.t (by simp;omega)] rfl (by simp only[U3,qJ];omega) ?_;refine Ui (S:=Unit) 12 (λL1 _=>L1) (λ_=>enB 0 E++[.blk 26 (iE ms N),.blk 45 (rwo o),.blk 45 [.int .i64 0,.int .i64 0,.int .i64 0,.nils,.nils,.bool false,.nils,.int .i64 0,.bool false,.nils,.bool false,.nils],.blk 39 [.orow 11 2 none,pl Y,sg D,mg D],.row false 37 2 (X.map G8++[Qsf])]) (λ_=>0) (λ_=>True) () trivial rfl rfl λ_ _=>?_
   by_cases hk:Pj o.k 12<10
   ·rw[hi,show sD o=Pj o.p.id 6 from if_pos hk];exact Uh [11] [0,1,2,3,4,5,6] [.f (by simp;omega),.k wk,.t (by simpa using hk),.k wi,.k cr] rfl
   ·rw[hi,show sD o=o.p.id from if_neg hk];exact Uh [11] [0,1,2,3,4,5,6] [.f (by simp;omega),.k wk,.f (by simpa using hk),.k cr] rfl
  ·rw[if_neg h3,Zw];refine⟨_,_,_,_,Gg X,Gg Y,U4 D,?_⟩;refine Fv func45 rfl ?_;by_cases hk:Pj o.k 12<10
   ·rw[hi,show sD o=Pj o.p.id 6 from if_pos hk];exact Uh [11] [0,1,2,3,4,5,6] [.k c4,.t (by simpa using h1),.r 19 (eI k1.symm),.x k2,.c [11] cl,.f (by simp;omega),.k wk,.t (by simpa using hk),.k wi,.k cr] rfl
   ·rw[hi,show sD o=o.p.id from if_neg hk];exact Uh [11] [0,1,2,3,4,5,6] [.k c4,.t (by simpa using h1),.r 19 (eI k1.symm),.x k2,.c [11] cl,.f (by simp;omega),.k wk,.f (by simpa using hk),.k cr] rfl
 ·have e1:UP N o.p=⟨((o.p.x.take 4).map (·.cutN 1)).map vI,((o.p.y.take 4).map (·.cutN 1)).map vI,vI (o.p.d.cutN 1)⟩:=if_neg h1;rw[e1];refine⟨_,_,_,_,KI (Qj6 ho.p.x),KI (Qj6 ho.p.y),YP (ho.p.d.cutN_ok 1),?_⟩;refine Fv func45 rfl ?_;by_cases hk:Pj o.k 12<10
  ·rw[hi,show sD o=Pj o.p.id 6 from if_pos hk];exact Uh [] [0,1,2,3,4,5,6] [.k c4,.f (by simpa using h1),.k wk,.t (by simpa using hk),.k wi,.k cr] rfl
  ·rw[hi,show sD o=o.p.id from if_neg hk];exact Uh [] [0,1,2,3,4,5,6] [.k c4,.f (by simpa using h1),.k wk,.f (by simpa using hk),.k cr] rfl
def Iw(o:RawOp)(q:Rat):Rat:=q+Gi (Pj o.n 5-1) (1+Pj o.d 4)
theorem ZW{v n:Int}(h:0<n):0<=Pj v n/\Pj v n<n:=by
 unfold Pj;rw[if_neg (by omega)];exact⟨Ye _ (by omega),Js _ h⟩
theorem rD{a b:Int}(ha:-10<=a/\a<=10)(hb:-10<=b/\b<=10):Qs 4 (Gi a b):=by
 have sz4:∀z:Int,-10<=z/\z<=10->Fe z<=4:=λz hz=>by
  have h16:(2:Nat)^4=16:=by decide
  exact Sw.2 (by omega)
 unfold Gi
 split
 ·exact⟨Pf (sz4 a ha),Pe (by decide) (by decide)⟩
 ·exact⟨Pf (sz4 a ha),Pe (sz4 b hb) (by decide)⟩
theorem rC{o:RawOp}{q:Rat}(h:Qs 128 q):Qs 257 (Iw o q):=by
 have h1:=ZW (v:=o.n) (n:=5) (by decide);have h2:=ZW (v:=o.d) (n:=4) (by decide);have:=Qvv h ((rD (a:=Pj o.n 5-1) (b:=1+Pj o.d 4) (by omega) (by omega)).mono (by decide));exact this
abbrev enP(E:Es)(ms:Ur)(N:Int)(o:RawOp)(lx ly:Us)(bb:Bool)(l3:Us):Ut:=[.blk 88 (uN 0 E.q),tB E.np E.nd E.M,bS E.s E.M E.q,bT E.t E.M E.q,bH E.h E.M E.q,bP E.p E.M E.q,bD E.d E.M E.q,.blk 26 (iE ms N),.blk 45 (Qub o lx ly bb l3)]
set_option maxHeartbeats 4000000 in
theorem Qns{E:Es}{N:Int}{o:RawOp}{ms:Ur}{lx ly:Us}{bb:Bool}{l3:Us}(ho:o.Ok)(hq:Qs 128 E.q):U6 prog 46 [.one (.ow 7 0),.one (.ow 8 0)] (enP E ms N o lx ly bb l3) [.agg (rl (Iw o E.q))] (enP E ms N o lx ly bb l3):=by
 have wn:=Ad (v:=o.n) (n:=5) ho.n (by decide);have wd:=Ad (v:=o.d) (n:=4) ho.d (by decide);have b1:=ZW (v:=o.n) (n:=5) (by decide);have b2:=ZW (v:=o.d) (n:=4) (by decide);have co:=Qxp (n:=Pj o.n 5-1) (d:=1+Pj o.d 4) (by omega) (by omega);have cf:=Qeo (q:=E.q) (hq.mono (by decide));have ca:=pN (a:=E.q) (b:=Gi (Pj o.n 5-1) (1+Pj o.d 4)) (hq.mono (by decide)) ((rD (by omega) (by omega)).mono (by decide));have ct:=wF (q:=Iw o E.q) ((rC hq).mono (by decide));have cc:=lZ (np:=E.np) (nd:=E.nd) (M:=E.M) (s:=E.s) (t:=E.t) (h:=E.h) (p:=E.p) (d:=E.d) hq;refine Fv func46 rfl ?_;exact Uh [] [0,1,2,3,4,5,6,7,8] [.lo,.c Uv cc,.k cf,.k wn,.k wd,.k co,.k ca,.k ct] rfl (by simp[U3];omega)
def PH(o:RawOp):Rat:=Gi (vI (o.t.cutN 6)) (vI (o.u.cutN 6))
open Classical in
noncomputable def nearT(o:RawOp):Rat:=if Qs 128 (PH o)then SL (PH o)else PH o
noncomputable def aloneF(N:Int)(o:RawOp)(A:Em):Em×Int :=
 if Pj o.k 12<3 then A.ins ⟨Crv.norm (UP N o.p),sD o⟩
 else if Pj o.k 12=3 then A.del (sD o)
 else if Pj o.k 12=4 then A.rep ⟨Crv.norm (UP N o.p),sD o⟩
 else if Pj o.k 12=5 then A.rep ⟨Crv.norm (rO (UP N o.p).x (UP N o.p).y A.q),sD o⟩
 else if Pj o.k 12<9 then A.adv (Iw o A.q)
 else if Pj o.k 12=9 then(A,(A.adv (Iw o A.q)).2)
 else if Pj o.k 12=10 then A.adv (nearT o)
 else(A,(A.adv (nearT o)).2)
theorem Qnu{o:RawOp}(ho:o.Ok):∃x0 x1 x2 x3 n m,Gd x0 x1 n/\Gd x2 x3 m/\Fe n<=4294967295/\Fe m<=4294967295/\Gi n m=nearT o/\Uj 48 [.agg (Ea (o.t.cutN 6)++Ea (o.u.cutN 6))] [.agg [x0,x1,x2,x3]]:=by
 have i1:=YP (ho.t.cutN_ok 6);have i2:=YP (ho.u.cutN_ok 6);have s1:=MD (ho.t.cutN_ok 6) (XZ o.t 6);have s2:=MD (ho.u.cutN_ok 6) (XZ o.u 6);have ln:∀(z:RawInt) l,LV.row (lm (z.cutN 6).l)=.row (lm l)->l.length<=1000:=λz l h=>by
  have:=Qir h;have:=XZ z 6;omega
 by_cases hq:Qs 128 (PH o)
 ·have e:nearT o=SL (PH o):=if_pos hq;have hn:=oD hq;rw[e];exact⟨_,_,_,_,_,_,U4 (SL (PH o)).num,U4 ((SL (PH o)).den:Int),Qa hn.1 (by decide),Qa hn.2 (by decide),Su _,Qnw i1 i2 (ln o.t) (ln o.u) (by omega) (by omega) hq⟩
 ·have e:nearT o=PH o:=if_neg hq;rw[e];exact⟨_,_,_,_,_,_,i1,i2,by omega,by omega,rfl,Qnv i1 i2 (ln o.t) (ln o.u) (by omega) (by omega) hq⟩
set_option maxHeartbeats 8000000 in
theorem aX{E:Es}{b N:Int}{o:RawOp}{ms:Ur}(h:EOk b E)(hb:b<=900000000000000000)(hN:1<=N/\N<=4)(ho:o.Ok) :
 ∃E',EOk (b+67000000) E'/\E'.m=(aloneF N o E.m).1/\dP 12 [.agg (iE ms N),.agg (rwo o)] E [.one (.int .i64 (aloneF N o E.m).2)] E':=by
 obtain⟨lx,ly,bb,l3,i1,i2,i3,cp⟩:=Qto (E:=E) (ms:=ms) hN ho;have wk:=Ad (v:=o.k) (n:=12) ho.k (by decide);have hW:=ZW (v:=o.k) (n:=12) (by decide);have hcs:=Qoa (N:=N) ho.p;have hk:Cs 4294967294 1073741824 (Crv.mk (UP N o.p).x (UP N o.p).y (UP N o.p).d):=hcs.mono (by decide) (by decide);have cla:=Qns (E:=E) (N:=N) (ms:=ms) (lx:=lx) (ly:=ly) (bb:=bb) (l3:=l3) ho h.q;have hla:=rC (o:=o) h.q;obtain⟨x0,x1,x2,x3,n,m,n1,n2,n3,n4,n5,cnr⟩:=Qnu ho;have eq_:E.m.q=E.q:=rfl;unfold aloneF;rw[eq_];obtain⟨W,hWe⟩:=nmE (Pj o.k 12);rw[<-hWe]at wk hW ⊢;by_cases w0:W<3
 ·rw[if_pos w0];obtain⟨E',g1,g2,g3⟩:=UL h (id:=sD o) i1 i2 i3 hk;refine⟨E',g1.mono (by omega),g2,?_⟩;refine Fv func12 rfl ?_;exact Uh [] [0,1,2,3,4,5,6] [.c Uv cp,.k wk,.T,.c Uv g3] rfl
 rw[if_neg w0];by_cases w1:W=3
 ·rw[if_pos w1];obtain⟨E',g1,g2,g3⟩:=Qhc h (id:=sD o);refine⟨E',g1.mono (by omega),g2,?_⟩;refine Fv func12 rfl ?_;exact Uh [] [0,1,2,3,4,5,6] [.c Uv cp,.k wk,.F,.T,.c Uv g3] rfl
 rw[if_neg w1];by_cases w2:W=4
 ·rw[if_pos w2];obtain⟨E',g1,g2,g3⟩:=uT h (id:=sD o) i1 i2 i3 hk;refine⟨E',g1.mono (by omega),g2,?_⟩;refine Fv func12 rfl ?_;exact Uh [] [0,1,2,3,4,5,6] [.c Uv cp,.k wk,.F,.F,.T,.c Uv g3] rfl
 rw[if_neg w2];by_cases w3:W=5
 ·rw[if_pos w3];obtain⟨E',g1,g2,g3⟩:=Qui h (id:=sD o) i1 i2 hcs.x hcs.y (by decide) (Qa hcs.lx (by decide)) (Qa hcs.ly (by decide));refine⟨E',g1.mono (by omega),g2,?_⟩;refine Fv func12 rfl ?_;exact Uh [] [0,1,2,3,4,5,6] [.c Uv cp,.k wk,.F,.F,.F,.T,.c Uv g3] rfl
 rw[if_neg w3];by_cases w4:W<9
 ·rw[if_pos w4];obtain⟨E',g1,g2,_,g3⟩:=RZ h hb (U4 (Iw o E.q).num) (U4 ((Iw o E.q).den:Int)) (Qa hla.1 (by decide)) (Qa hla.2 (by decide)) (Su _);refine⟨E',g1,g2,?_⟩;refine Fv func12 rfl ?_;exact Uh [] [0,1,2,3,4,5,6] [.c Uv cp,.k wk,.F,.F,.F,.F,.T,.lo,.c [0,1,2,3,4,5,6,7,8] cla,.c Uv g3] rfl
 rw[if_neg w4];by_cases w5:W=9
 ·rw[if_pos w5];have g3:=jU h hb (U4 (Iw o E.q).num) (U4 ((Iw o E.q).den:Int)) (Qa hla.1 (by decide)) (Qa hla.2 (by decide)) (Su _);refine⟨E,h.mono (by omega),rfl,?_⟩;obtain⟨a,ha,hal⟩:∃a,a=E.m.ans (Iw o E.q)/\∃a0 a1 a2 a3 a4,a=[LV.row a0,.row a1,.row a2,.row a3,.row a4]:=⟨_,rfl,by unfold Em.ans;split <;> exact⟨_,_,_,_,_,rfl⟩⟩;rw[<-ha]at g3;obtain⟨a0,a1,a2,a3,a4,rfl⟩:=hal;refine Fv func12 rfl ?_;exact Uh [] [0,1,2,3,4,5,6] [.c Uv cp,.k wk,.F,.F,.F,.F,.F,.T,.lo,.c [0,1,2,3,4,5,6,7,8] cla,.c Uv g3] rfl
 rw[if_neg w5];by_cases w6:W=10
 ·rw[if_pos w6];obtain⟨E',g1,g2,_,g3⟩:=RZ h hb n1 n2 n3 n4 n5;refine⟨E',g1,g2,?_⟩;obtain⟨b1,r1,rfl,rfl,_⟩:=n1;obtain⟨b2,r2,rfl,rfl,_⟩:=n2;refine Fv func12 rfl ?_;exact Uh [] [0,1,2,3,4,5,6] [.c Uv cp,.k wk,.F,.F,.F,.F,.F,.F,.T,.k cnr,.c Uv g3] rfl
 ·rw[if_neg w6];have g3:=jU h hb n1 n2 n3 n4 n5;refine⟨E,h.mono (by omega),rfl,?_⟩;obtain⟨b1,r1,rfl,rfl,_⟩:=n1;obtain⟨b2,r2,rfl,rfl,_⟩:=n2;obtain⟨a,ha,hal⟩:∃a,a=E.m.ans (nearT o)/\∃a0 a1 a2 a3 a4,a=[LV.row a0,.row a1,.row a2,.row a3,.row a4]:=⟨_,rfl,by unfold Em.ans;split <;> exact⟨_,_,_,_,_,rfl⟩⟩;rw[<-ha]at g3;obtain⟨a0,a1,a2,a3,a4,rfl⟩:=hal;refine Fv func12 rfl ?_;exact Uh [] [0,1,2,3,4,5,6] [.c Uv cp,.k wk,.F,.F,.F,.F,.F,.F,.F,.k cnr,.c Uv g3] rfl
end Orr
namespace Orr
open Go Go.Proofs Tryz Orq
set_option maxRecDepth 10000
theorem Qaz{N:Int}{o:RawOp}{A:Em}(h:(aloneF N o A).2≠0):(aloneF N o A).1=A:=by
 have hi:∀p,(A.ins p).2≠0->(A.ins p).1=A:=λp h=>if_neg h
 have hr:∀p,(A.rep p).2≠0->(A.rep p).1=A:=λp h=>if_neg h
 have hd:∀id,(A.del id).2≠0->(A.del id).1=A:=λid h=>by
  unfold Em.del at h ⊢;by_cases e:has A.M id=true
  ·rw[if_pos e]at h;exact absurd rfl h
  ·rw[if_neg e]
 have ha:∀t,(A.adv t).2≠0->(A.adv t).1=A:=λt h=>by
  unfold Em.adv at h ⊢;by_cases a:Qs 128 t
  ·rw[if_pos a]at h ⊢;by_cases b:t<A.q
   ·rw[if_pos b]
   ·rw[if_neg b]at h;exact absurd rfl h
  ·rw[if_neg a]
 unfold aloneF at h ⊢;by_cases w0:Pj o.k 12<3
 ·rw[if_pos w0]at h ⊢;exact hi _ h
 rw[if_neg w0]at h ⊢;by_cases w1:Pj o.k 12=3
 ·rw[if_pos w1]at h ⊢;exact hd _ h
 rw[if_neg w1]at h ⊢;by_cases w2:Pj o.k 12=4
 ·rw[if_pos w2]at h ⊢;exact hr _ h
 rw[if_neg w2]at h ⊢;by_cases w3:Pj o.k 12=5
 ·rw[if_pos w3]at h ⊢;exact hr _ h
 rw[if_neg w3]at h ⊢;by_cases w4:Pj o.k 12<9
 ·rw[if_pos w4]at h ⊢;exact ha _ h
 rw[if_neg w4]at h ⊢;by_cases w5:Pj o.k 12=9
 ·rw[if_pos w5]
 rw[if_neg w5]at h ⊢;by_cases w6:Pj o.k 12=10
 ·rw[if_pos w6]at h ⊢;exact ha _ h
 ·rw[if_neg w6]
end Orr
namespace Orr
theorem bz1:Bd 9000000 [1]:=λz hz=>by obtain rfl:=Qk.1 hz;decide
theorem bz2:Bd 9000000 [0,1]:=λz hz=>by
 simp only[Qm,X2,or_false]at hz;rcases hz with rfl|rfl <;> decide
theorem Q0a:∀z∈([0,1]:Um),Fe z≤1:=by
 intro z hz;simp only[Qm,X2,or_false]at hz;rcases hz with rfl|rfl <;> decide
theorem rz:RRun [1] 1 [0,1] []:=by
 refine .step (by decide) (by decide) bz2 bz1 ?_;rw[show tK [0,1] [1]=[] by decide];exact .stop (by decide)
theorem dz2:DOk [0,1] [1] [0,1]:=by
 refine⟨by decide,by decide,by decide,bz1,[0,1],[],1,bz2,by decide,?_,by decide⟩;refine .step (by decide) (by decide) bz2 (by decide) (by decide) (by decide) ?_;exact .stop (by decide)
theorem dz1:DOk [1] [1] [1]:=by
 refine⟨by decide,by decide,by decide,bz1,[1],[],1,bz1,by decide,?_,by decide⟩;refine .step (by decide) (by decide) bz1 (by decide) (by decide) (by decide) ?_;exact .stop (by decide)
theorem Qvx:Qd2 0 [[-(0:Rat).num,((0:Rat).den:Int)],[1]]:=by
 show Qd2 0 [[0,1],[1]];refine⟨[0,1],?_⟩;show ChRun [0,1] [0,1] [[0,1],[1]];have e1:To [0,1]=[0,1]:=by decide
 have e2:Gw [0,1]=[1]:=by decide
 have e3:To [1]=[1]:=by decide
 have e4:Bn [1]=[1]:=by decide
 refine⟨⟨1,λ_=>[0,1],⟨⟨1,[[0,1],[1]],?_,rfl,λk hk=>?_⟩,by decide⟩,λi hi=>?_,by decide⟩,⟨1,?_⟩,λz hz=>Qa (Q0a z hz) (by decide),by decide,by decide⟩
 ·rw[e1];refine .step (by decide) (by decide) (by show trim _=_;decide) bz2 (by show Bd _ (Gw [0,1]);rw[e2];exact bz1) (m:=1) (g:=[1]) ?_ (by decide) (.stop (by decide));show GRun 1 (To [0,1]) (To (Gw [0,1])) [1];rw[e1,e2,e3];refine .step (by decide) (by decide) bz1 rz (by decide) (λz hz=>by cases hz) rfl ?_;rw[show To []=[] by decide];exact .stop _
 ·obtain rfl:k=0:=by omega
  exact⟨[0,1],[1],[0,1],dz2,dz1,by rw[e1,e3];exact dz2,e1.symm⟩
 ·obtain rfl:i=0:=by omega
  exact⟨bz1,by decide,bz2,by decide⟩
 ·rw[e2,e4];refine .step (by decide) (by decide) bz1 (m:=1) (r:=[]) rz rfl (λz hz=>by cases hz) (by decide) (by decide) (by decide) ?_;exact .stop (by decide)
end Orr
namespace Orr
open Go Go.Proofs Tryz Orq
set_option maxRecDepth 10000
theorem Qhf{q:Rat}{c:Un}:Uj 266 [.one (.row []),.agg (aq q c)] [.one (.row [])]:=by
 refine Fv func266 rfl ?_;refine Ud [.z 5] rfl ?_;refine Ui (S:=Unit) 1 (λL1 _=>(10,.v (.oi 0))::(5,.v (.one (.row [])))::L1) (λ_=>[.blk 174 (aq q c)]) (λ_=>0) (λ_=>True) () trivial rfl rfl λ_ _=>?_
 exact Uf [.f rfl] rfl
theorem mL:Uj 268 [.one (.row [])] [.one (.row [])]:=by
 refine Fv func268 rfl ?_;refine Ud [.z 3] rfl ?_;refine Ui (S:=Unit) 0 (λL1 _=>(8,.v (.oi 0))::(3,.v (.one (.row [])))::L1) (λ_=>[]) (λ_=>0) (λ_=>True) () trivial rfl rfl λ_ _=>?_
 exact Uf [.f rfl] rfl
theorem Qhb:Uj 270 [.one (.row [])] [.one (.row [])]:=by
 refine Fv func270 rfl ?_;refine Ud [.z 3] rfl ?_;refine Ui (S:=Unit) 0 (λL1 _=>(8,.v (.oi 0))::(3,.v (.one (.row [])))::L1) (λ_=>[]) (λ_=>0) (λ_=>True) () trivial rfl rfl λ_ _=>?_
 exact Uf [.f rfl] rfl
theorem Qhg:Uj 273 [.one (.row [])] [.one (.row [])]:=by
 refine Fv func273 rfl ?_;refine Ud [.z 3,.k Qhb] rfl ?_;refine Ui (S:=Unit) 0 (λL1 _=>(11,.v (.oi 0))::(3,.v (.one (.row [])))::L1) (λ_=>[]) (λ_=>0) (λ_=>True) () trivial rfl rfl λ_ _=>?_
 exact Uf [.f rfl] rfl
section
variable{q:Rat}{c:Un}
theorem Qhd:Uj 233 [.one (.row []),.agg (aq q c)] [.one (.row [])]:=by
 refine Fv func233 rfl ?_;refine Ud [.k Qhf,.z 6] rfl ?_;refine Ui (S:=Unit) 1 (λL1 _=>(7,.v (.oi 0))::(6,.v (.one (.row [])))::L1) (λ_=>[.blk 174 (aq q c)]) (λ_=>0) (λ_=>True) () trivial rfl rfl λ_ _=>?_
 exact Uf [.f rfl,.k mL] rfl rfl (by simp[U3])
theorem Qun:Uj 234 [.one (.row []),.agg (aq q c)] [.one (.row [])]:=Ug func234 rfl [.t rfl,.z 4] rfl
theorem Qcb:Uj 271 [.one (.row []),.agg (aq q c)] [.one (.row [])]:=Ug func271 rfl [.k Qhg,.t rfl] rfl
theorem Quj:Uj 235 [.one (.row []),.agg (aq q c)] [.one (.row [])]:=by
 refine Fv func235 rfl ?_;refine Ud [.k Qhd,.k Qcb] rfl ?_;refine Ui (S:=Unit) 1 (λL1 _=>(7,.v (.oi 0))::(5,.v (.one (.row [])))::L1) (λ_=>[.blk 174 (aq q c)]) (λ_=>0) (λ_=>True) () trivial rfl rfl λ_ _=>?_
 exact Uf [.f rfl,.f rfl,.k mL] rfl
abbrev zPq:Ur:=[.row [],.row [],.row [],.row [],.bool false,.row [],.int .i64 0]
theorem Qca:Uj 272 [.one (.row []),.agg (aq q c)] [.agg zPq,.agg zPq,.one (.bool false)]:=Ug func272 rfl [.k Qhb,.t rfl] rfl
theorem Qul:Uj 236 [.one (.row []),.agg (aq q c)] [.one (.row [])]:=Ug func236 rfl [.k Qca,.t rfl,.z 4] rfl
theorem Quk:Uj 237 [.one (.row []),.agg (aq q c)] [.one (.row [])]:=by
 refine Fv func237 rfl ?_;refine Ud [.k Qhg,.z 6] rfl ?_;refine Ui (S:=Unit) 1 (λL1 _=>(15,.v (.oi 0))::(6,.v (.one (.row [])))::L1) (λ_=>[.blk 174 (aq q c)]) (λ_=>0) (λ_=>True) () trivial rfl rfl λ_ _=>?_
 exact Uf [.f rfl,.k mL] rfl
theorem UC(k:Nat)(hk:k<5):Uj 149 [.oi k,.one (.row []),.agg (aq q c)] [.one (.row [])]:=by
 refine(?_:Uj 189 [.oi k,.one (.row []),.agg (aq q c)] [.one (.row [])]->_) ?_
 ·intro h;exact Ug func149 rfl [.k h] rfl
 ·rcases(show k=0\/k=1\/k=2\/k=3\/k=4 by omega)with rfl|rfl|rfl|rfl|rfl
  ·exact Ug func189 rfl [.t rfl,.k Qhd] rfl
  ·exact Ug func189 rfl [.f rfl,.t rfl,.k Qun] rfl
  ·exact Ug func189 rfl [.f rfl,.f rfl,.t rfl,.k Quj] rfl
  ·exact Ug func189 rfl [.f rfl,.f rfl,.f rfl,.t rfl,.k Qul] rfl
  ·exact Ug func189 rfl [.f rfl,.f rfl,.f rfl,.f rfl,.k Quk] rfl
end
theorem CE:Uj 148 [.one (.row []),.one (.row [])] [.one (.row [])]:=by
 refine Fv func148 rfl ?_;refine Ud [] rfl ?_;refine Ui (S:=Unit) 0 (λL1 _=>(9,.v (.oi 0))::L1) (λ_=>[]) (λ_=>0) (λ_=>True) () trivial rfl rfl λ_ _=>?_
 exact Uf [.f rfl] rfl
end Orr
namespace Orr
open Go Go.Proofs Tryz Orq
set_option maxRecDepth 10000
abbrev cC:Un:=[[-(0:Rat).num,((0:Rat).den:Int)],[1]]
abbrev Qxz:Ur:=[.nils,.nils,.nils,.bool false,.nils,.bool false,.nils,.bool false,.nils,.bool false,.nils,.int .i64 0,.nils]
abbrev Qx0:Ur:=aq 0 cC++[.row [],.int .i64 0,.nils]
abbrev Qkl(k i:Nat):Ur:=match Nat.blt k i with
 |true=>Qx0
 |false=>Qxz
abbrev mdl(np nd:Int)(i:Nat):Ur:=[.int .i64 np,.int .i64 nd,.nils]++fr 0++Qkl 0 i++Qkl 1 i++Qkl 2 i++Qkl 3 i++Qkl 4 i
set_option maxHeartbeats 4000000 in
theorem Qew{np nd:Int}:U6 prog 93 [.one (.ow 0 0)] [.blk 181 (mdl np nd 0)] [] [.blk 181 (mdl np nd 5)]:=by
 have hq:Qs 2000000 (0:Rat):=⟨by decide,by decide⟩;have cr:=wS hq Qvx;refine Fv func93 rfl ?_;refine Ud [.k cr] rfl ?_;refine Ui (S:=Nat) 2 (λL1 i=>(9,.v (.oi i))::L1) (λi=>[.blk 181 (mdl np nd i),.blk 174 (aq 0 cC)]) (λi=>5-i) (λi=>i<=5) 0 (by decide) rfl rfl λi hi=>?_
 rcases(show i=0\/i=1\/i=2\/i=3\/i=4\/i=5 by omega)with rfl|rfl|rfl|rfl|rfl|rfl
 ·exact go tt [.t rfl,.i 0,.i 0,.i 0,.k (UC 0 (by decide)),.k CE,.i 0] rfl (by simp[U3]) (rd 1 (by omega) (by omega) rfl)
 ·exact go tt [.t rfl,.i 1,.i 1,.i 1,.k (UC 1 (by decide)),.k CE,.i 1] rfl (by simp[U3]) (rd 2 (by omega) (by omega) rfl)
 ·exact go tt [.t rfl,.i 2,.i 2,.i 2,.k (UC 2 (by decide)),.k CE,.i 2] rfl (by simp[U3]) (rd 3 (by omega) (by omega) rfl)
 ·exact go tt [.t rfl,.i 3,.i 3,.i 3,.k (UC 3 (by decide)),.k CE,.i 3] rfl (by simp[U3]) (rd 4 (by omega) (by omega) rfl)
 ·exact go tt [.t rfl,.i 4,.i 4,.i 4,.k (UC 4 (by decide)),.k CE,.i 4] rfl (by simp[U3]) (rd 5 (by omega) (by omega) rfl)
 ·exact Uh [] [0] [.f rfl] rfl
theorem Qtj{np nd:Int}(h1:1<=np/\np<=6)(h2:0<=nd/\nd<=2):U6 prog 42 [.oi np,.oi nd] [] [.one (.ow 0 0),.oi 0] [.blk 181 (mdl np nd 5)]:=by
 have co:=KF (n:=0) (by decide);rw[show((0:Int):Rat)=0 from rfl]at co;refine Fv func42 rfl ?_;exact Uh [] [0] [.F,.f (by simp;omega),.f (by simp;omega),.f (by simp;omega),.k co,.c [0] Qew] rfl
theorem dO{a b:Int}(ha:-9223372036854775808<=a/\a<=9223372036854775807)(hb:-9223372036854775808<=b/\b<=9223372036854775807):∃(N nd:Int) (ms:Ur),(1<=N/\N<=4)/\(0<=nd/\nd<=2)/\EOk 0 (LG N nd)/\N=1+Pj a 4/\nd=Pj b 3 /\
 U6 prog 9 [.oi a,.oi b] [] [.agg [.ow 0 0,.sh ms,.int .i64 N],.one (.bool true)] (enB 0 (LG N nd)):=by
 have w1:=ZW (v:=a) (n:=4) (by decide);have w2:=ZW (v:=b) (n:=3) (by decide);have c1:=Ad (v:=a) (n:=4) ha (by decide);have c2:=Ad (v:=b) (n:=3) hb (by decide);obtain⟨N,hN⟩:=nmE (1+Pj a 4);obtain⟨nd,hnd⟩:=nmE (Pj b 3);have hN4:1<=N/\N<=4:=by omega
 have hd2:0<=nd/\nd<=2:=by omega
 have cn:=Qe1 (np:=N) (nd:=nd) (by omega) hd2;have cm:=Qtj (np:=N) (nd:=nd) (by omega) hd2;refine⟨N,nd,mdl N nd 5,hN4,hd2,Qi8 (by omega) hd2,hN,hnd,?_⟩;refine Fv func9 rfl ?_;exact Uh [8] [1,2,3,4,5,6,7] [.k c1,.r 12 (eI hN.symm),.k c2,.r 14 (eI hnd.symm),.c [1,2,3,4,5,6,7] cn,.c [8] cm,.t rfl,.t rfl] rfl (by simp[U3];omega)
abbrev enL(E:Es)(ms:Ur)(N:Int):Ut:=[.blk 88 (uN 0 E.q),tB E.np E.nd E.M,bS E.s E.M E.q,bT E.t E.M E.q,bH E.h E.M E.q,bP E.p E.M E.q,bD E.d E.M E.q,.blk 26 [.ow 0 0,.sh ms,.int .i64 N]]
abbrev enM(E:Es)(ms:Ur)(N:Int):Ut:=[.blk 88 (uN 8 E.q),tB E.np E.nd E.M,bS E.s E.M E.q,bT E.t E.M E.q,bH E.h E.M E.q,bP E.p E.M E.q,bD E.d E.M E.q,.blk 26 [.ow 8 0,.sh ms,.int .i64 N]]
set_option maxHeartbeats 8000000 in
theorem jX{a b:Int}{l:List RawOp}(ha:-9223372036854775808≤a/\a≤9223372036854775807)(hb:-9223372036854775808≤b/\b≤9223372036854775807)(hl:∀x∈l,x.Ok):Uj 4 [.oi a,.oi b,.one (.row (qH l))] [.one (.bool true)]:=by
 obtain⟨N,nd,ms,hN,hnd,h0,n1,n2,cb⟩:=dO ha hb;obtain⟨N',nd',ms',hN',hnd',h0',n1',n2',cb'⟩:=dO ha hb;obtain rfl:N'=N:=by rw[n1,n1']
 obtain rfl:nd'=nd:=by rw[n2,n2']
 have hll:=Qc1 l;refine Fv func4 rfl (ln 2 rfl rfl λhcl=>?_);rw[hll]at hcl;refine Ud [.c Uv cb,.c Uw cb',.f rfl,.f rfl] rfl ?_;refine Ui (S:=Nat×Es×Es) 16 (λL1 s=>(11,.v (.oi (s.1:Int)))::L1) (λs=>enL s.2.1 ms N'++enM s.2.2 ms' N') (λs=>9-s.1) (λs=>s.1<=9/\s.1<=l.length/\EOk (67000000*s.1) s.2.1/\EOk (67000000*s.1) s.2.2/\s.2.2.m=s.2.1.m) (0,LG N' nd',LG N' nd') ⟨by show 0<=9;decide,Qh _,h0.mono (show(0:Int)<=67000000*((0:Nat):Int) by decide),h0.mono (show(0:Int)<=67000000*((0:Nat):Int) by decide),rfl⟩ rfl rfl λ⟨i,E,F⟩ ⟨hi,hi2,hE,hF,hm⟩=>?_
 dsimp only at hi hi2 hE hF hm ⊢;by_cases hr:i<l.length/\i<9
 ·obtain⟨x,hx⟩:=gxE (l:=l) (i:=i) hr.1;have ho:=hl x (Qc hx);obtain⟨E',e1,e2,e3⟩:=aX (ms:=ms) hE (by omega) hN ho;obtain⟨F',f1,f2,f3⟩:=aX (ms:=ms') hF (by omega) hN ho;rw[hm]at f2 f3;have ccl:=Qol hE;have e:67000000*(i:Int)+67000000=67000000*((i+1:Nat):Int):=by omega
  rw[e]at e1 f1;obtain⟨err,herr⟩:=nmE ((aloneF N' x E.m).2);rw[<-herr]at e3 f3;by_cases he:err=0
  ·rw[he]at e3 f3;refine Ue [.T,.T,.c Uy ccl,.f rfl,.x (TZ hx),.c Uv e3,.f rfl,.x (TZ hx),.c Uw f3,.f rfl] rfl ?_;exact rd (i+1,E',F') (by dsimp only;omega) ⟨hr.2,hr.1,e1,f1,by rw[e2,f2]⟩ rfl
  ·have hme:E'.m=E.m:=by rw[e2];exact Qaz (by rw[<-herr];exact he)
   obtain⟨_,_,q1,q2,_⟩:=Qiv hme;have csm:=Qhe (E:=E') (F:=E) e1 (show E.M=E'.M from q1.symm) (show E.q=E'.q from q2.symm);have cE1:=UD (E:=E');have cE2:=UD (E:=E);rw[hme]at cE1;refine Ue [.T,.T,.c Uy ccl,.f rfl,.x (TZ hx),.c Uv e3,.t (decide_eq_true he),.c Uy csm,.f rfl,.c Uv cE1,.c [16,17,18,19,20,21,22] cE2,.f (by simp)] rfl ?_;exact rd (i+1,E',F) (by dsimp only;omega) ⟨hr.2,hr.1,e1,hF.mono (by omega),by rw[hme];exact hm⟩ rfl
 obtain⟨_,_,q1,q2,_⟩:=Qiv hm;have q1:F.M=E.M:=q1;have q2:F.q=E.q:=q2;have csm:=Qhe (E:=E) (F:=F) hE q1 q2;have cE1:=UD (E:=E);have cE2:=UD (E:=F);rw[hm]at cE2;have cC1:=uR hE;have cC2:=uR hF;rw[q1,q2]at cC2;obtain⟨hcp,hcn⟩:=Qgo hE;have csc:=Qfh hcp hcn;by_cases hj:i<l.length
 all_goals
  first
  |refine Ud [.T,.F] rfl ?_
  |refine Ud [.F,.f rfl] rfl ?_
  exact Uf [.lo,.c [0,1,2,3,4,5,6,8,9,10,11,12,13,14] csm,.g 80 true rfl,.lo,.c Uv cE1,.lo,.c Uw cE2,.g 89 true (by simp),.lo,.c Uv cC1,.lo,.c Uw cC2,.k csc,.g 98 true (by simp),.k mM] rfl
end Orr
namespace Orr
open Go Go.Proofs Tryz
variable{H:Type}{enc:TypeId×Value->H}{w:World}{base:Nat}{spare:Nat->Bool}{held:Bool}
theorem So{α:Type}{l:List α}{n i:Nat}(h:l.length=n)(hi:i<n):∃x,l[i]? = some x:=⟨l[i]'(by omega),Qe (by omega)⟩
end Orr
namespace Orr
open Go Go.Proofs Tryz Go.ChangeShapes Go.WideShapes Go.ChangeAt Go.RowKit Go.WideElems
theorem Qn6{w:World}{a:Addr}{v:Value}(h:w.cell? a=some v):a.spot=none/\a.block<w.heap.size:=by
 simp only[World.cell?]at h
 split at h
 ·rename_i c t fr hc
  split at h
  ·cases h
  ·rename_i hs;refine⟨by cases e:a.spot with|none=>rfl|some _=>simp[e]at hs,?_⟩;exact(Array.getElem?_eq_some_iff.1 hc).1
 ·cases h
theorem Qmg{a:Addr}(h:a.spot=none)(n m:Nat):(a.add n).add m=⟨a.block,a.off+n+m,none⟩:=by
 obtain⟨b,o,s⟩:=a;simp only at h;subst h;simp only[Addr.add]
 split
 ·rename_i h;subst h
  split
  ·rename_i h;subst h;simp
  ·simp
 ·split
  ·rename_i h;subst h;simp
  ·simp
def fr0(w:World):Fr:=⟨λb=>b<w.heap.size,λ_=>False,w,λ_=>False,λ_=>none⟩
theorem AU(w:World):HS (fr0 w) (ob []) (nw []) (λ_=>none) (λ_=>False) w where
 size:=Ql _
 kept:=λb hb=>⟨hb,rfl,Iff.rfl⟩
 ids:=λi h=>h.elim
 nj:=λi h=>by rw[yT]at h;cases h
 io:=⟨rfl,rfl⟩
 blk:=λi=>by rw[yT];trivial
 nk:=λi g c m h _=>by rw[yT]at h;cases h
 inj:=λi j g c m c' m' h _ _ _=>by rw[yT]at h;cases h
 mlt:=λb h=>h.elim
 m0:=λb _ h=>h.elim
 un:=λi _=>⟨rfl,rfl⟩
 uj:=λi _ h=>h.elim
theorem Qqe{w w':World}{bl:Nat->OB}{U:Nat->Prop}{E:Ca}{M:Nat->Prop}(h:HS (fr0 w) bl U E M w'){p:MemPlace}(hp:p.block<w.heap.size):w.sameAt w' p:=by
 cases p with
 |cell b off=>simp only[World.sameAt,World.cell?];rw[(h.kept b hp).2.1];rfl
 |map b=>exact(h.kept b hp).2.1
theorem Qoy{w w':World}{bl:Nat->OB}{U:Nat->Prop}{E:Ca}{M:Nat->Prop}(h:HS (fr0 w) bl U E M w')(may:MemPlace->Prop):w.keptBut w' may:=by
 refine⟨h.io.1,h.io.2,λi hi=>?_⟩;have e:w'.heap[i]? = w.heap[i]? := (h.kept i hi).2.1;rw[e];cases w.heap[i]? with
 |none=>rfl
 |some o=>cases o <;> simp
theorem JI{H:Type}{P:Program}{e:TypeId}:∀{l:List (DataW H)} {i:Nat} {d:DataW H},l[i]? = some d->∀n∈d.weights P e,n∈DataW.weightsAll P e l
 | [],i,d,h,_,_=>by simp at h
 |
  x::l,0,d,h,n,hn=>by
  simp at h;subst h;simp only[DataW.weightsAll,Qr];exact .inl hn
 |
  x::l,i+1,d,h,n,hn=>by
  simp only[DataW.weightsAll,Qr];exact .inr (JI (i:=i) (by simpa using h) n hn)
theorem Mm{H:Type}{P:Program}{t:TypeId}{fs:Array Field}{parts:List (DataW H)}(hu:P.underlying t=some (.struct fs))(hz:((DataW.agg parts).weights P t).all (· <= reachBytes)=true){i:Nat}{f:Field}{d:DataW H}(hf:fs[i]? = some f)(hd:parts[i]? = some d) :
 (d.weights P f.type).all (· <= reachBytes)=true:=by
 rw[Jt]at hz ⊢;intro n hn;refine hz n ?_;simp only[DataW.weights,hu];exact DataW.weights_mem_each (j:=i) (by rw[Q9];simp[hf]) hd n hn
variable{H:Type}{enc:TypeId×Value->H}{w:World}
abbrev O0:Nat->Prop:=λ_=>False
def kW(w:World)(cs:List Value)(ls:Ur):Prop:=cs.length=ls.length/\∀(j:Nat) (u:LV),ls[j]? = some u->∃v,cs[j]? = some v/\LRep w O0 v u
theorem GU{α:Type}{rw_:α->Ur}{Ok:α->Prop}{t e sz:Nat}(hu:prog.underlying t=some (.slice e))(hc:prog.cellsOf e=sz)(hsz:0<sz)(hb:1<=prog.bytesOf e)(hw:∀z,(rw_ z).length=sz)
 (elem:∀fuel cs x,DataW.trod enc prog w 0 (λ_=>true) true fuel e cs=some x->(x.1.weights prog e).all (· <= reachBytes)=true->∃z,Ok z/\kW w cs (rw_ z))
 {fuel:Nat} {cs:List Value} {x:DataW H×List MemPlace} (h:DataW.trod enc prog w 0 (λ_=>true) true fuel t cs=some x) (hz:(x.1.weights prog t).all (· <= reachBytes)=true) :
 ∃(v:Value) (l:List α),cs=[v]/\(∀z∈l,Ok z)/\l.length<2^47/\LRep w O0 v (.row (l.map rw_)):=by
 rcases Go.Deep.open_slice hu h with⟨rfl,_⟩|⟨a',len,cap,m,n,D,Pl,rfl,_,hlc,hcap,hm,rfl,hr⟩
 ·refine⟨_,[],rfl,by simp,Nat.two_pow_pos 47,?_⟩;exact LRep.row none 0 0 0 0 [] (λ_ _=>.bool true) (Ql _) (by decide) (by simp) (by simp) (by simp) (by simp)
 ·simp only[if_true]at hm;subst hm;rw[Jt]at hz;have hlen:len<2^47:=by
   have h0:=hz ((len+(m-len))*prog.bytesOf e) (by simp[DataW.weights,hu]);have h1:len<=(len+(m-len))*prog.bytesOf e:=by
    have:=Zc (Kw len (m-len)) hb;omega
   have h2:(len+(m-len))*prog.bytesOf e<=reachBytes:=by simpa using h0
   exact Z3 (Qa h1 h2) reachBytes_lt
  have hel:∀i,i<len->((D i).weights prog e).all (· <= reachBytes)=true:=λi hi=>by
   rw[Jt];intro k hk;refine hz k ?_;simp only[DataW.weights,hu];refine Qg _ (Qr.2 (.inl (JI (i:=i) ?_ k hk)));rw[Q9,X3 hi];rfl
  have hone:∀i,i<len->∃z cs',Ok z/\kW w cs' (rw_ z)/\∀j,j<sz->w.cell? ((a'.add (i*sz)).add j)=cs'[j]? := λi hi=>by
   obtain⟨cs',hcs,htr⟩:=hr i (by omega);rw[hc]at hcs;obtain⟨_,hl,hcell⟩:=World.cells?_some hcs;obtain⟨z,hz1,hz2⟩:=elem _ _ _ htr (hel i hi);refine⟨z,cs',hz1,hz2,λj hj=>?_⟩;rw[hcell j (by omega)]
  have hspot:0<len->a'.spot=none/\a'.block<w.heap.size:=λh0=>by
   obtain⟨z,cs',_,⟨hl,_⟩,h3⟩:=hone 0 h0;have h4:=h3 0 hsz;have:(a'.add (0*sz)).add 0=a':=by simp[Addr.add]
   rw[this,Qe (by rw[hl,hw];exact hsz)]at h4;exact Qn6 h4
  obtain⟨l,hll,hl⟩:∃l:List α,l.length=len/\∀i z,l[i]? = some z->Ok z/\∃cs',kW w cs' (rw_ z)/\∀j,j<sz->w.cell? ((a'.add (i*sz)).add j)=cs'[j]? := by
   have:∀k,k<=len->∃l:List α,l.length=k/\∀i z,l[i]? = some z->Ok z/\∃cs',kW w cs' (rw_ z)/\∀j,j<sz->w.cell? ((a'.add (i*sz)).add j)=cs'[j]? := by
    intro k
    induction k with
    |zero=>intro _;exact⟨[],rfl,λi z h=>by simp at h⟩
    |
     succ k ih =>
     intro hk;obtain⟨l,h1,h2⟩:=ih (by omega);obtain⟨z,cs',h3,h4,h5⟩:=hone k (by omega);refine⟨l++[z],by simp[h1],λi y hy=>?_⟩;rcases Zb i l.length with hi|hi
     ·rw[Zi hi]at hy;exact h2 i y hy
     ·rw[Z8 hi]at hy;have:i-l.length=0:=by
       rcases Q3 (i-l.length)with h|h
       ·exact h
       ·rw[Qw (by rw[Vr];exact h)]at hy;cases hy
      rw[this]at hy;simp at hy;subst hy;have:i=k:=by omega
      subst this;exact⟨h3,cs',h4,h5⟩
   exact this len (Ql _)
  refine⟨_,l,rfl,λz hz=>?_,by rw[hll];exact hlen,?_⟩
  ·obtain⟨i,hi⟩:=Zk.1 hz;exact(hl i z hi).1
  ·have key:LRep w O0 (.slice (some a') (l.map rw_).length m) (.row (l.map rw_)):=by
    have hgl:∀i c,(l.map rw_)[i]? = some c->∃z,l[i]? = some z/\c=rw_ z/\i<len:=λi c h=>by
     rw[Q9]at h;cases e:l[i]? with
     |none=>rw[e]at h;cases h
     |some z=>rw[e]at h;simp at h;exact⟨z,rfl,h.symm,by have:=(Qf.1 e).1;omega⟩
    have hcl:∀i c,(l.map rw_)[i]? = some c->∃cs':List Value,kW w cs' c/\∀j,j<sz->w.cell? ⟨a'.block,a'.off+i*sz+j,none⟩=cs'[j]? := λi c h=>by
     obtain⟨z,hz,rfl,hi⟩:=hgl i c h;obtain⟨_,cs',h1,h2⟩:=hl i z hz;refine⟨cs',h1,λj hj=>?_⟩;rw[<-h2 j hj,Qmg (hspot (by omega)).1]
    refine LRep.row (some a') m sz a'.block a'.off (l.map rw_) (λi j=>(w.cell? ⟨a'.block,a'.off+i*sz+j,none⟩).getD (.bool true)) (by rw[Q8];omega) ?_ ?_ ?_ ?_ ?_
    ·have:maxLen=2^63-1:=by rfl
     omega
    ·intro c hc2;obtain⟨z,_,rfl⟩:=Za.1 hc2;exact hw z
    ·intro h0;rw[Q8,hll]at h0;obtain⟨hs,hb⟩:=hspot h0;refine⟨?_,hb,by simp[O0]⟩;obtain⟨b,o,s⟩:=a';simp only at hs;rw[hs]
    ·intro i c hi j hj;obtain⟨z,_,rfl,_⟩:=hgl i c hi;obtain⟨cs',⟨h1,_⟩,h2⟩:=hcl i _ hi;have hjs:j<sz:=by rw[<-hw z];exact hj
     rw[h2 j hjs,Qe (by rw[h1];exact hj)];rfl
    ·intro i c hi j u hu2;obtain⟨z,_,rfl,_⟩:=hgl i c hi;obtain⟨cs',⟨h1,h3⟩,h2⟩:=hcl i _ hi;obtain⟨v,hv,hr2⟩:=h3 j u hu2;have hjs:j<sz:=by rw[<-hw z];exact(Qf.1 hu2).1
     show LRep w O0 ((w.cell? ⟨a'.block,a'.off+i*sz+j,none⟩).getD (.bool true)) u;rw[h2 j hjs,hv];exact hr2
   rw[Q8,hll]at key;exact key
abbrev Qza(x:Nat):Ur:=[.int .u32 (x:Int)]
theorem Qlh:∀fuel cs x,DataW.trod enc prog w 0 (λ_=>true) true fuel 111 cs=some x->(x.1.weights prog 111).all (· <= reachBytes)=true->∃z:Nat,z<4294967296/\kW w cs (Qza z):=by
 intro fuel cs x h _;obtain⟨n,rfl,_,hwf⟩:=DataW.trod_int underlying111 h;have hn:0<=n/\n<4294967296:=by
  have:0<=n/\n<=4294967295:=by simpa[Lit.wf,IntKind.min,IntKind.max,IntKind.signed,IntKind.bits]using hwf
  omega
 refine⟨n.toNat,by omega,rfl,λj u hu=>?_⟩
 match j,hu with
 |
  0,hu =>
  simp at hu;subst hu;refine⟨_,rfl,?_⟩;rw[show max n 0=n by omega];exact .int _ _
 |j+1,hu=>simp at hu
set_option maxRecDepth 20000 in
theorem XS:∀fuel cs x,DataW.trod enc prog w 0 (λ_=>true) true fuel 37 cs=some x->(x.1.weights prog 37).all (· <= reachBytes)=true->∃z:RawInt,z.Ok/\kW w cs (Ea z):=by
 intro fuel cs x h hz;obtain⟨xs,n,_,rfl,hl,hxs,hf⟩:=DataW.trod_struct underlying37 h;have hl:cs.length=2:=hl
 match cs,hl with
 |
  [v0,v1],_ =>
  obtain⟨z0,hz0⟩:=So (i:=0) hxs (by decide);obtain⟨z1,hz1⟩:=So (i:=1) hxs (by decide);have h0:=hf 0 _ rfl;have h1:=hf 1 _ rfl;rw[hz0]at h0;rw[hz1]at h1;obtain⟨b,e0,_⟩:=DataW.trod_bool underlying4 h0;have f0:v0=.bool b:=(List.cons.inj (show [v0]=[Value.bool b] from e0)).1;have hw1:=Mm underlying37 hz (i:=1) rfl (d:=z1.1) (by rw[Q9,hz1];rfl);obtain⟨v,l,e1,hlo,_,hrep⟩:=GU (sz:=1) (Ok:=λu:Nat=>u<4294967296) (rw_:=Qza) underlying35 (by kernel_rfl) (by decide) (of_decide_eq_true (by kernel_rfl)) (λ_=>rfl) Qlh h1 hw1;have f1:v1=v:=(List.cons.inj (show [v1]=[v] from e1)).1;subst f0 f1;refine⟨⟨b,l⟩,⟨hlo⟩,rfl,λj u hu=>?_⟩
  match j,hu with
  | 0,hu=>simp at hu;subst hu;exact⟨_,rfl,.bool _⟩
  | 1,hu=>simp at hu;subst hu;exact⟨_,rfl,hrep⟩
  |j+2,hu=>simp at hu
set_option maxRecDepth 20000 in
theorem bN:∀fuel cs x,DataW.trod enc prog w 0 (λ_=>true) true fuel 41 cs=some x->(x.1.weights prog 41).all (· <= reachBytes)=true->∃z:RawPt,z.Ok/\kW w cs (rwq z):=by
 intro fuel cs x h hz;obtain⟨xs,n,_,rfl,hl,hxs,hf⟩:=DataW.trod_struct underlying41 h;have hl:cs.length=5:=hl
 match cs,hl with
 |
  [v0,v1,v2,v3,v4],_ =>
  obtain⟨z0,hz0⟩:=So (i:=0) hxs (by decide);obtain⟨z1,hz1⟩:=So (i:=1) hxs (by decide);have h0:=hf 0 _ rfl;have h1:=hf 1 _ rfl;rw[hz0]at h0;rw[hz1]at h1;obtain⟨id,e4,_,hwf⟩:=DataW.trod_int underlying3 h1;have f4:v4=.int .i64 id:=(List.cons.inj (show [v4]=[Value.int .i64 id] from e4)).1;have hw0:=Mm underlying41 hz (i:=0) rfl (d:=z0.1) (by rw[Q9,hz0];rfl);obtain⟨ys,n2,_,e5,_,hys,hg⟩:=DataW.trod_struct underlying39 h0;rw[e5]at hw0;obtain⟨y0,hy0⟩:=So (i:=0) hys (by decide);obtain⟨y1,hy1⟩:=So (i:=1) hys (by decide);obtain⟨y2,hy2⟩:=So (i:=2) hys (by decide);have g0:=hg 0 _ rfl;have g1:=hg 1 _ rfl;have g2:=hg 2 _ rfl;rw[hy0]at g0;rw[hy1]at g1;rw[hy2]at g2;have w0:=Mm underlying39 hw0 (i:=0) rfl (d:=y0.1) (by rw[Q9,hy0];rfl);have w1:=Mm underlying39 hw0 (i:=1) rfl (d:=y1.1) (by rw[Q9,hy1];rfl);have w2:=Mm underlying39 hw0 (i:=2) rfl (d:=y2.1) (by rw[Q9,hy2];rfl);obtain⟨u0,lx,e0,hx,_,rx⟩:=GU (sz:=2) (Ok:=RawInt.Ok) (rw_:=Ea) underlying34 (by kernel_rfl) (by decide) (of_decide_eq_true (by kernel_rfl)) (λ_=>rfl) XS g0 w0;obtain⟨u1,ly,e1,hy,_,ry⟩:=GU (sz:=2) (Ok:=RawInt.Ok) (rw_:=Ea) underlying34 (by kernel_rfl) (by decide) (of_decide_eq_true (by kernel_rfl)) (λ_=>rfl) XS g1 w1;obtain⟨d,hd,hde⟩:=XS _ _ _ g2 w2;have f0:v0=u0:=(List.cons.inj (show [v0]=[u0] from e0)).1;have f1:v1=u1:=(List.cons.inj (show [v1]=[u1] from e1)).1;have hde2:kW w [v2,v3] (Ea d):=hde;subst f0 f1 f4;obtain⟨q2,hq2,r2⟩:=hde2.2 0 _ rfl;obtain⟨q3,hq3,r3⟩:=hde2.2 1 _ rfl;simp at hq2 hq3;subst hq2 hq3;refine⟨⟨lx,ly,d,id⟩,⟨hx,hy,hd,by simpa[Lit.wf,IntKind.min,IntKind.max,IntKind.signed,IntKind.bits]using hwf⟩,rfl,λj u hu=>?_⟩
  match j,hu with
  | 0,hu=>simp[rwq]at hu;subst hu;exact⟨_,rfl,rx⟩
  | 1,hu=>simp[rwq]at hu;subst hu;exact⟨_,rfl,ry⟩
  | 2,hu=>simp[rwq]at hu;subst hu;exact⟨_,rfl,r2⟩
  | 3,hu=>simp[rwq]at hu;subst hu;exact⟨_,rfl,r3⟩
  | 4,hu=>simp[rwq]at hu;subst hu;exact⟨_,rfl,.int _ _⟩
  |j+5,hu=>simp[rwq]at hu
end Orr
namespace Orr
open Go Go.Proofs Tryz Go.ChangeShapes Go.WideShapes Go.ChangeAt Go.RowKit Go.WideElems
variable{H:Type}{enc:TypeId×Value->H}{w:World}
end Orr
