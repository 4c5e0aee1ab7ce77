/- MD3 MD4 MD5 MD6 X22 SD2 H4 En2 X20 X21 En3 EnZ En4 EnO EnQ EnP EnR RawO EnA EnE W24 EnU RatZ EnB EnG WP24 ReadN LastN LastR LastS -/
import Derived.Test.YtoohlnnpalgnaaaGreatPart09
import Derived.Test.YtoohlnnpalgnaaaGreatPart00
import Derived.Test.YtoohlnnpalgnaaaGreatPart08
import Derived.Test.YtoohlnnpalgnaaaGreatPart07
import Derived.Deep.Slices
import Derived.ProofKit
import Derived.OpenShut
import Derived.WideKeyArgs
import Derived.SizedLaws
set_option linter.all false
namespace Orr
open Go Go.Proofs Tryz Orq
set_option maxRecDepth 10000
set_option maxHeartbeats 8000000 in
theorem IG{l:List Pt}{a:Tm}{c:Cr}{r1:Ut}(hl:∀p∈l,Sc p.c)(hn:l.length≤6)(ha:Va a):U5 prog 199 [.one (.ow 0 0),.agg (ta a)] [.blk 229 (Hl c (Uz l) r1)] [.one (.row (Fj (kG l a)))] [.blk 229 (Hl c (Uz l) (pM l a))]:=by
 have hwl:=O5 l;have cw:=mX (l:=l) (Qar hl) (by omega);have hgb:=Qhw a;unfold pM kG gV qF;obtain⟨sg',hsg⟩:∃s,s=Fp a:=⟨_,rfl⟩;obtain⟨W,hW⟩:=nmE (Tn l);have hWs:∀p∈W,Sc p.c:=λp hp=>hl p (No (by rw[<-hW];exact hp))
 have mR:=λ{x y z:Pt} (hx:x∈W) (hy:y∈W) (hz:z∈W)=>lU (t:=a) (hWs x hx) (hWs y hy) (hWs z hz) ha
 have mC:=λ{x y z u:Pt} (hx:x∈W) (hy:y∈W) (hz:z∈W) (hu:u∈W)=>Qmz (t:=a) (hWs x hx) (hWs y hy) (hWs z hz) (hWs u hu) ha
 rw[<-hW]at cw hwl ⊢;rw[<-hsg]at hgb mR mC ⊢;have hW6:W.length<=6:=by omega
 have hTi:=λps=>Qck hgb ps
 have hcp:(W.map Fa).length=W.length:=by simp
 have hcp2:=G0 W;have hdr:∀i,(Uz W).drop i=Uz (W.drop i):=λi=>by unfold Uz;rw[List.map_drop]
 have hel:∀z∈Uz W,z.length=5:=λz hz=>by obtain⟨p,_,rfl⟩:=Za.1 hz;rfl
 have s7:∀x:Ct,∀y∈[Lu x],y.length=7:=λx y hy=>by rw[Qk.1 hy];rfl
 have s3:∀x:P3,∀y∈[trL x],y.length=3:=λx y hy=>by rw[Qk.1 hy];rfl
 obtain⟨T,hT⟩:=nmE (Aw (ZT sg' (Rr W)));obtain⟨G,hG⟩:=nmE (I8 T (VM sg' (Oy W)));have hTI:kN T:=by rw[hT];exact hTi _
 have hTm:Ql4 T:=λk=>(hTI k).1
 have hGB:Qdx G:=λk=>by rw[hG];exact pP _ _ _ k
 rw[<-hT,<-hG];have e0:(Fj (((Lo 0 W).map (PC sg'))))=[]:=rfl;refine Fu func199 rfl ?_;refine Ue [.k cw,.o 6 99 7] rfl ?_;refine Uj (S:=Nat) 4 (λL1 i=>(42,.v (.oi i))::(6,.v (.one (.orow 2 7 none)))::L1) (λi=>[.blk 229 (Hl c (Uz l) r1),.blk 105 (ta a),.row false 99 7 (Fj ((Lo i W).map (PC sg'))),.mpb (Aw (ZT sg' (Lo i W)))]) (λi=>W.length-i) (λi=>i<=W.length) 0 (Qh _) rfl rfl λi hi=>?_
 by_cases hlt:i<W.length
 ·obtain⟨x,hx⟩:=gxE (l:=W) (i:=i) hlt;have xm:=Qc hx;obtain⟨V,hV⟩:=nmE (W.drop (i+1));have hVl:V.length=W.length-(i+1):=by rw[hV,Q7]
  have hVm:∀p∈V,p∈W:=λp hp=>by rw[hV]at hp;exact Qz hp
  have eV:(Uz W).drop (i+1)=Uz V:=by rw[hdr,<-hV]
  rw[<-LN W x i];refine go tt [.T,.x (Tf hx),.r 49 (eI (b:=((i+1:Nat):Int)) (by omega)),.i (i+1),.r 50 (UC eV)] rfl (by simp only[U0];(repeat' apply And.intro) <;> first|omega|exact hel) ?_;have hVr:=G0 V;refine Uj (S:=Nat) 5 (λL1 j=>(52,.v (.oi j))::(6,.v (.one (.orow 2 7 none)))::L1) (λj=>[.blk 229 (Hl c (Uz l) r1),.blk 105 (ta a),.row false 99 7 (Fj ((p3j W x i j).map (PC sg'))),.mpb (Aw (ZT sg' (p3j W x i j))),.blk 40 (Fa x)]) (λj=>V.length-j) (λj=>j<=V.length) 0 (Qh _) rfl rfl λj hj=>?_
  by_cases hltj:j<V.length
  ·obtain⟨y,hy⟩:=gxE (l:=V) (i:=j) hltj;have ym:=hVm y (Qc hy);have hy':(W.drop (i+1))[j]? = some y:=by rw[<-hV];exact hy
   obtain⟨U,hU⟩:=nmE (V.drop (j+1));have hUl:U.length=V.length-(j+1):=by rw[hU,Q7]
   have hUm:∀p∈U,p∈W:=λp hp=>by rw[hU]at hp;exact hVm p (Qz hp)
   have hUW:U=(W.drop (i+1)).drop (j+1):=by rw[hU,hV]
   have eU:(Uz W).drop (i+j+2)=Uz U:=by rw[hdr,hU,hV,Jx];congr 2;omega
   have hUr:=G0 U;rw[<-LD W x y i j];refine go tt [.T,.x (Tf hy),.r 61 (eI (b:=((i+j+2:Nat):Int)) (by omega)),.i (i+j+2),.r 62 (UC eU)] rfl (by simp only[U0];(repeat' apply And.intro) <;> first|omega|exact hel) ?_;refine Uj (S:=Nat) 6 (λL1 k=>(64,.v (.oi k))::(6,.v (.one (.orow 2 7 none)))::L1) (λk=>[.blk 229 (Hl c (Uz l) r1),.blk 105 (ta a),.row false 99 7 (Fj ((qB W x y i j k).map (PC sg'))),.mpb (Aw (ZT sg' (qB W x y i j k))),.blk 40 (Fa x),.blk 40 (Fa y)]) (λk=>U.length-k) (λk=>k<=U.length) 0 (Qh _) rfl rfl λk hk=>?_
   by_cases hltk:k<U.length
   ·obtain⟨z,hz⟩:=gxE (l:=U) (i:=k) hltk;have zm:=hUm z (Qc hz);have hlen:=iL hW6 (k:=k) hx hy';have en:=LC (x:=x) (y:=y) (by rw[<-hUW];exact hz);have et:=dS sg' (qB W x y i j k) (x,y,z);rw[<-en]at et;refine go tt [.T,.x (Tf hz),.k (mR xm ym zm),.s (sz:=7) (s7 _)] rfl (by simp[U0,Nx] <;> omega) ?_;exact rd (k+1) (by omega) hltk (by rw[et,en,Yh];simp[Fj];rfl)
   ·have e:=yC (x:=x) (k:=k) hy' (by rw[<-hUW];omega);rw[e];refine go tt [.F] rfl (by simp[U0] <;> omega) ?_;exact rd (j+1) (by omega) hltj rfl
  ·have e:=yB (x:=x) (j:=j) hx (by rw[<-hV];omega);rw[e];refine go tt [.F] rfl (by simp[U0] <;> omega) ?_;exact rd (i+1) (by omega) hlt rfl
 rw[Qak (show i=W.length by omega),<-hT];have hiW:¬i<W.length:=hlt;clear hlt;obtain⟨C3,hC3⟩:=nmE ((Rr W).map (PC sg'));have hC3l:C3.length<=20:=by rw[hC3,Q8];exact(VZ hW6).1
 rw[<-hC3];refine Ue [.F] rfl ?_;have eC:Fj C3=Fj (C3++(Er 0 W).map (HN sg')):=by rw[show Er 0 W=[] from rfl,X6,Zv]
 rw[eC];refine Uj (S:=Nat) 5 (λL1 i=>(97,.v (.oi i))::(6,.v (.one (.orow 2 7 none)))::L1) (λi=>[.blk 229 (Hl c (Uz l) r1),.blk 105 (ta a),.row false 99 7 (Fj (C3++(Er i W).map (HN sg'))),.mpb T,.mpb (I8 T (VM sg' (Er i W)))]) (λi=>W.length-i) (λi=>i<=W.length) 0 (Qh _) rfl rfl λi hi=>?_
 by_cases hlt:i<W.length
 ·obtain⟨x,hx⟩:=gxE (l:=W) (i:=i) hlt;have xm:=Qc hx;obtain⟨V,hV⟩:=nmE (W.drop (i+1));have hVl:V.length=W.length-(i+1):=by rw[hV,Q7]
  have hVm:∀p∈V,p∈W:=λp hp=>by rw[hV]at hp;exact Qz hp
  have eV:(Uz W).drop (i+1)=Uz V:=by rw[hdr,<-hV]
  have hVr:=G0 V;rw[<-Qjc W x i];refine go tt [.T,.x (Tf hx),.r 104 (eI (b:=((i+1:Nat):Int)) (by omega)),.i (i+1),.r 105 (UC eV)] rfl (by simp only[U0];(repeat' apply And.intro) <;> first|omega|exact hel) ?_;refine Uj (S:=Nat) 6 (λL1 j=>(107,.v (.oi j))::(6,.v (.one (.orow 2 7 none)))::L1) (λj=>[.blk 229 (Hl c (Uz l) r1),.blk 105 (ta a),.row false 99 7 (Fj (C3++(p4j W x i j).map (HN sg'))),.mpb T,.mpb (I8 T (VM sg' (p4j W x i j))),.blk 40 (Fa x)]) (λj=>V.length-j) (λj=>j<=V.length) 0 (Qh _) rfl rfl λj hj=>?_
  by_cases hltj:j<V.length
  ·obtain⟨y,hy⟩:=gxE (l:=V) (i:=j) hltj;have ym:=hVm y (Qc hy);have hy':(W.drop (i+1))[j]? = some y:=by rw[<-hV];exact hy
   obtain⟨U,hU⟩:=nmE (V.drop (j+1));have hUl:U.length=V.length-(j+1):=by rw[hU,Q7]
   have hUm:∀p∈U,p∈W:=λp hp=>by rw[hU]at hp;exact hVm p (Qz hp)
   have hUW:U=(W.drop (i+1)).drop (j+1):=by rw[hU,hV]
   have eU:(Uz W).drop (i+j+2)=Uz U:=by rw[hdr,hU,hV,Jx];congr 2;omega
   have hUr:=G0 U;rw[<-Qjd W x y i j];refine go tt [.T,.x (Tf hy),.r 116 (eI (b:=((i+j+2:Nat):Int)) (by omega)),.i (i+j+2),.r 117 (UC eU)] rfl (by simp only[U0];(repeat' apply And.intro) <;> first|omega|exact hel) ?_;refine Uj (S:=Nat) 7 (λL1 k=>(119,.v (.oi k))::(6,.v (.one (.orow 2 7 none)))::L1) (λk=>[.blk 229 (Hl c (Uz l) r1),.blk 105 (ta a),.row false 99 7 (Fj (C3++(p4k W x y i j k).map (HN sg'))),.mpb T,.mpb (I8 T (VM sg' (p4k W x y i j k))),.blk 40 (Fa x),.blk 40 (Fa y)]) (λk=>U.length-k) (λk=>k<=U.length) 0 (Qh _) rfl rfl λk hk=>?_
   by_cases hltk:k<U.length
   ·obtain⟨z,hz⟩:=gxE (l:=U) (i:=k) hltk;have zm:=hUm z (Qc hz);have hz':((W.drop (i+1)).drop (j+1))[k]? = some z:=by rw[<-hUW];exact hz
    obtain⟨R,hR⟩:=nmE (U.drop (k+1));have hRl:R.length=U.length-(k+1):=by rw[hR,Q7]
    have hRm:∀p∈R,p∈W:=λp hp=>by rw[hR]at hp;exact hUm p (Qz hp)
    have hRW:R=((W.drop (i+1)).drop (j+1)).drop (k+1):=by rw[hR,hUW]
    have eR:(Uz W).drop (i+j+k+3)=Uz R:=by rw[hdr,hRW,Jx,Jx];congr 2;omega
    have hRr:=G0 R;rw[<-Qjf W x y z i j k];refine go tt [.T,.x (Tf hz),.r 130 (eI (b:=((i+j+k+3:Nat):Int)) (by omega)),.i (i+j+k+3),.r 131 (UC eR)] rfl (by simp only[U0];(repeat' apply And.intro) <;> first|omega|exact hel) ?_;refine Uj (S:=Nat) 8 (λL1 m=>(133,.v (.oi m))::(6,.v (.one (.orow 2 7 none)))::L1) (λm=>[.blk 229 (Hl c (Uz l) r1),.blk 105 (ta a),.row false 99 7 (Fj (C3++(p4m W x y z i j k m).map (HN sg'))),.mpb T,.mpb (I8 T (VM sg' (p4m W x y z i j k m))),.blk 40 (Fa x),.blk 40 (Fa y),.blk 40 (Fa z)]) (λm=>R.length-m) (λm=>m<=R.length) 0 (Qh _) rfl rfl λm hm=>?_
    by_cases hltm:m<R.length
    ·obtain⟨u,hu⟩:=gxE (l:=R) (i:=m) hltm;have um:=hRm u (Qc hu);have hlen:=Qpo hW6 (m:=m) hx hy' hz';have en:=Qje (x:=x) (y:=y) (z:=z) (by rw[<-hRW];exact hu);have et:=nW sg' T (p4m W x y z i j k m) (x,y,z,u);rw[<-en]at et;have cf:=Qty (F:=I8 T (VM sg' (p4m W x y z i j k m))) (s:=(qH sg' x y z u).want) (n0:=x.id) (n1:=y.id) (n2:=z.id) (n3:=u.id) hTI (hgb _);refine go tt [.T,.x (Tf hu),.k (mC xm ym zm um),.s (sz:=7) (s7 _),.c [4,3] cf] rfl (by simp[U0,Nx] <;> omega) ?_;exact rd (m+1) (by omega) hltm (by rw[et,en,Yh,<-Zd];simp[Fj];rfl)
    ·have e:=Qpn (x:=x) (y:=y) (m:=m) hz' (by rw[<-hRW];omega);rw[e];refine go tt [.F] rfl (by simp[U0] <;> omega) ?_;exact rd (k+1) (by omega) hltk rfl
   ·have e:=Qpm (x:=x) (k:=k) hy' (by rw[<-hUW];omega);rw[e];refine go tt [.F] rfl (by simp[U0] <;> omega) ?_;exact rd (j+1) (by omega) hltj rfl
  ·have e:=Qpl (x:=x) (j:=j) hx (by rw[<-hV];omega);rw[e];refine go tt [.F] rfl (by simp[U0] <;> omega) ?_;exact rd (i+1) (by omega) hlt rfl
 rw[Qp4 (show i=W.length by omega),<-hG];obtain⟨C4,hC4⟩:=nmE (C3++(Oy W).map (HN sg'));rw[<-hC4];refine Ue [.F] rfl ?_;refine ozM 0 13 84 3 rfl rfl ?_;have eT:([]:Ut)=ZQ ((Lo 0 W).filter (jL T G)):=rfl;rw[eT];refine Uj (S:=Nat) 6 (λL1 i=>(174,.v (.oi i))::L1) (λi=>[.blk 229 [.bool true,pl c.now.p,sg c.now.lo.num,mg c.now.lo.num,sg (c.now.lo.den:Int),mg (c.now.lo.den:Int),sg c.now.hi.num,mg c.now.hi.num,sg (c.now.hi.den:Int),mg (c.now.hi.den:Int),.row (C6 c.l),.int .i64 c.ev,.row (Uz l),.orow 5 3 none],.blk 105 (ta a),.row false 99 7 (Fj C4),.mpb T,.mpb G,.row false 84 3 (ZQ ((Lo i W).filter (jL T G)))]) (λi=>W.length-i) (λi=>i<=W.length) 0 (Qh _) rfl rfl λi hi=>?_
 by_cases hlt:i<W.length
 ·obtain⟨x,hx⟩:=gxE (l:=W) (i:=i) hlt;obtain⟨V,hV⟩:=nmE (W.drop (i+1));have hVl:V.length=W.length-(i+1):=by rw[hV,Q7]
  have eV:(Uz W).drop (i+1)=Uz V:=by rw[hdr,<-hV]
  have hVr:=G0 V;rw[<-LN W x i];refine go tt [.T,.x (Tf hx),.r 181 (eI (b:=((i+1:Nat):Int)) (by omega)),.i (i+1),.r 182 (UC eV)] rfl (by simp only[U0];(repeat' apply And.intro) <;> first|omega|exact hel) ?_;refine Uj (S:=Nat) 7 (λL1 j=>(184,.v (.oi j))::L1) (λj=>[.blk 229 [.bool true,pl c.now.p,sg c.now.lo.num,mg c.now.lo.num,sg (c.now.lo.den:Int),mg (c.now.lo.den:Int),sg c.now.hi.num,mg c.now.hi.num,sg (c.now.hi.den:Int),mg (c.now.hi.den:Int),.row (C6 c.l),.int .i64 c.ev,.row (Uz l),.orow 5 3 none],.blk 105 (ta a),.row false 99 7 (Fj C4),.mpb T,.mpb G,.row false 84 3 (ZQ ((p3j W x i j).filter (jL T G))),.blk 40 (Fa x)]) (λj=>V.length-j) (λj=>j<=V.length) 0 (Qh _) rfl rfl λj hj=>?_
  by_cases hltj:j<V.length
  ·obtain⟨y,hy⟩:=gxE (l:=V) (i:=j) hltj;have hy':(W.drop (i+1))[j]? = some y:=by rw[<-hV];exact hy
   obtain⟨U,hU⟩:=nmE (V.drop (j+1));have hUl:U.length=V.length-(j+1):=by rw[hU,Q7]
   have hUW:U=(W.drop (i+1)).drop (j+1):=by rw[hU,hV]
   have eU:(Uz W).drop (i+j+2)=Uz U:=by rw[hdr,hU,hV,Jx];congr 2;omega
   have hUr:=G0 U;rw[<-LD W x y i j];refine go tt [.T,.x (Tf hy),.r 193 (eI (b:=((i+j+2:Nat):Int)) (by omega)),.i (i+j+2),.r 194 (UC eU)] rfl (by simp only[U0];(repeat' apply And.intro) <;> first|omega|exact hel) ?_;refine Uj (S:=Nat) 8 (λL1 k=>(196,.v (.oi k))::L1) (λk=>[.blk 229 [.bool true,pl c.now.p,sg c.now.lo.num,mg c.now.lo.num,sg (c.now.lo.den:Int),mg (c.now.lo.den:Int),sg c.now.hi.num,mg c.now.hi.num,sg (c.now.hi.den:Int),mg (c.now.hi.den:Int),.row (C6 c.l),.int .i64 c.ev,.row (Uz l),.orow 5 3 none],.blk 105 (ta a),.row false 99 7 (Fj C4),.mpb T,.mpb G,.row false 84 3 (ZQ ((qB W x y i j k).filter (jL T G))),.blk 40 (Fa x),.blk 40 (Fa y)]) (λk=>U.length-k) (λk=>k<=U.length) 0 (Qh _) rfl rfl λk hk=>?_
   by_cases hltk:k<U.length
   ·obtain⟨z,hz⟩:=gxE (l:=U) (i:=k) hltk;have hlen:=iL hW6 (k:=k) hx hy';have en:=LC (x:=x) (y:=y) (by rw[<-hUW];exact hz);have hfl:=Y0 (jL T G) (qB W x y i j k);have htl:=sW ((qB W x y i j k).filter (jL T G));by_cases h1:ZH T [x.id,y.id,z.id]≠0
    ·by_cases h2:BX G [x.id,y.id,z.id]=true
     ·have ef:jL T G (x,y,z)=false:=by unfold jL nM;simp[h2]
      have eF:=Qhh (ps:=qB W x y i j k) ef;rw[<-en]at eF;refine go tt [.T,.x (Tf hz),.g 211 true (decide_eq_true h1),.f (by rw[h2];rfl)] rfl (by simp only[U0];(repeat' apply And.intro) <;> first|exact hTm|exact hGB|omega|(simp only[Q5,Jg];omega)) ?_;exact rd (k+1) (by omega) hltk (by rw[eF];rfl)
     ·have h2:BX G [x.id,y.id,z.id]=false:=by simpa using h2
      have ef:jL T G (x,y,z)=true:=by unfold jL nM;simp[h2,h1]
      have eF:=Quv (ps:=qB W x y i j k) ef;rw[<-en]at eF;refine go tt [.T,.x (Tf hz),.g 211 true (decide_eq_true h1),.t (by rw[h2];rfl),.s (sz:=3) (s3 (x,y,z))] rfl (by simp only[U0];(repeat' apply And.intro) <;> first|exact hTm|exact hGB|omega|(simp only[Q5,Jg];omega)) ?_;exact rd (k+1) (by omega) hltk (by rw[eF];simp[ZQ];rfl)
    ·have ef:jL T G (x,y,z)=false:=by unfold jL nM;simp[h1]
     have eF:=Qhh (ps:=qB W x y i j k) ef;rw[<-en]at eF;refine go tt [.T,.x (Tf hz),.g 211 false (decide_eq_false h1),.f rfl] rfl (by simp only[U0];(repeat' apply And.intro) <;> first|exact hTm|exact hGB|omega|(simp only[Q5,Jg];omega)) ?_;exact rd (k+1) (by omega) hltk (by rw[eF];rfl)
   ·have e:=yC (x:=x) (k:=k) hy' (by rw[<-hUW];omega);rw[e];refine go tt [.F] rfl (by simp[U0] <;> omega) ?_;exact rd (j+1) (by omega) hltj rfl
  ·have e:=yB (x:=x) (j:=j) hx (by rw[<-hV];omega);rw[e];refine go tt [.F] rfl (by simp[U0] <;> omega) ?_;exact rd (i+1) (by omega) hlt rfl
 rw[Qak (show i=W.length by omega)];rw[hC4,hC3];exact Ui [2,5] [0] [.F] rfl
theorem Qxo{T:Nat}{t:Rat}{Bc:Tm->List Ct}{Br:Tm->Ut}{r0:Ut}(ht:Qs 1640000 t)(hB:BuildOk Bc)
 (hb:∀a c r1,Va a->CrOk c->U5 prog 199 [.one (.ow 0 0),.agg (ta a)] [.blk T (Hl c r0 r1)] [.one (.row (Fj (Bc a)))] [.blk T (Hl c r0 (Br a))])
 {K:Nat} {c c':Cr} {r1 r1':Ut} {n:Int} (hc:CrOk c) (hev:0<=c.ev/\c.ev+K<=1000000000000000000) (h:Fl c.now t<=0) (hg:WI Bc Br t K c r1 0=some (c',r1',n)) :
 U5 prog 396 [.one (.ow 0 0),.agg (rl t),.one (.ofn 199 [.ow 0 0] [])] [.blk T (Hl c r0 r1)] [.oi n,.oi 0] [.blk T (Hl c' r0 r1')]:=by
 have qt:Qb t:=ht.mono (by decide);have c1:=De hc.n.tb qt;refine Fu func396 rfl ?_;refine Ue [.c [0] (QZ hc.n),.k c1,.f (by simpa using h)] rfl ?_;refine Uj (S:=Nat×Cr×Ut×Int) 2 (λL1 s=>(8,.v (.oi s.2.2.2))::L1) (λs=>[.blk T (Hl s.2.1 r0 s.2.2.1),.blk 42 (rl t)]) (λs=>s.1) (λs=>CrOk s.2.1/\(0<=s.2.1.ev/\s.2.1.ev+s.1<=1000000000000000000)/\(0<=s.2.2.2/\s.2.2.2+s.1<=1000000000000000000)/\WI Bc Br t s.1 s.2.1 s.2.2.1 s.2.2.2=some (c',r1',n)) (K,c,r1,0) ⟨hc,hev,⟨Int.le_refl 0,by dsimp only;omega⟩,hg⟩ rfl rfl λ⟨k,x,r,m⟩ ⟨j1,j2,j3,j4⟩=>?_
 dsimp only at j1 j2 j3 j4 ⊢;cases k with
 |zero=>cases j4
 |
  succ k =>
  simp only[WI]at j4;obtain⟨ws,w1,j4⟩:=Qd.1 j4;obtain⟨o,o1,j4⟩:=Qd.1 j4;have cn:=MX (T:=T) (r0:=r0) (r1:=r) j1 w1 o1;have ca:=VL (U3 t.num) (U3 (t.den:Int)) (Qa ht.1 (by decide)) (Qa ht.2 (by decide)) (by rw[Tq];exact ht.mono (by decide));rw[Tq]at ca;cases o with
  |
   none =>
   injection j4 with j4;injection j4 with e1 j4;injection j4 with e2 e3;subst e1;subst e2;subst e3;exact Ui [] [0] [.c [0] cn,.g 25 true rfl,.t rfl,.k ca] rfl
  |
   some a =>
   have ha:=LP j1 w1 o1;dsimp only at j4;have cc:=De ha.tb qt;by_cases h0:0<Fl a t
   ·rw[if_pos h0]at j4;injection j4 with j4;injection j4 with e1 j4;injection j4 with e2 e3;subst e1;subst e2;subst e3;exact Ui [] [0] [.c [0] cn,.g 25 false rfl,.k cc,.t (by simpa using h0),.k ca] rfl
   ·rw[if_neg h0]at j4;obtain⟨w2,l1,j4⟩:=Qd.1 j4;have j1':=El j1 w1;have cl:=S7 (b:=a) (l:=[]) ha.tb (λt ht=>by cases ht) (by decide) rfl;have cb:=hb a { x with l:=ws } r ha j1';have cy:=UY (T:=T) (r0:=r0) (r1:=Br a) j1' ha (hB.p a ha) (hB.n a ha) l1;have hf:decide (0<Fl a t)=false:=by simpa using h0
    refine Uf [.c [0] cn,.g 25 false rfl,.k cc,.f hf,.k cl,.c [0] cb,.c [0] cy] rfl ?_;exact rd (k,⟨a,w2,x.ev+1⟩,Br a,m+1) (by dsimp only;omega) ⟨lay_ok _ j1' ha (hB.p a ha) (hB.n a ha) l1,by dsimp only;omega,by dsimp only;omega,j4⟩ rfl
theorem Qte{t:Rat}{l:List Pt}{K:Nat}{c c':Cr}{r1 r1':Ut}{n:Int}(ht:Qs 1640000 t)(hl:∀p∈l,Sc p.c)(hn:l.length≤6)(hc:CrOk c)(hev:0≤c.ev/\c.ev+K≤1000000000000000000)(h:Fl c.now t≤0)(hg:WI (kG l) (pM l) t K c r1 0=some (c',r1',n)) :
 U5 prog 432 [.one (.ow 0 0),.agg (rl t)] [.blk 229 (Hl c (Uz l) r1)] [.oi n,.oi 0] [.blk 229 (Hl c' (Uz l) r1')]:=by
 have cg:=Qxo (T:=229) (r0:=Uz l) ht (pJ hl hn) (λa c r1 ha _=>IG (c:=c) (r1:=r1) hl hn ha) hc hev h hg;refine Fu func432 rfl ?_;exact Ui [] [0] [.k (Ns (ht.mono (by decide))),.c [0] cg] rfl
theorem pL{c:Cr}{r0:Ut}{ts:List P3}(ht:ts.length<=1000):U5 prog 83 [.one (.ow 0 0)] [.blk 229 (Hl c r0 (ZQ ts))] [.one (.row (ZQ ts))] [.blk 229 (Hl c r0 (ZQ ts))]:=by
 have hl:=sW ts;have h3:∀y∈ZQ ts,y.length=3:=λy hy=>by obtain⟨m,_,rfl⟩:=Za.1 hy;rfl
 refine Fu func83 rfl ?_;exact Ui [1] [0] [.s (sz:=3) h3] rfl (by simp[U0] <;> omega)

theorem BY{c:Cr}{l l':List Pt}{r1:Ut}{ws:List Wt}(hc:CrOk c)(hl:∀p∈l',Sc p.c)(hn:l'.length≤6)(h:Tj c.l c.now (Fv (kG l' c.now))=some ws) :
 U5 prog 436 [.one (.ow 0 0),.agg [pts l'],.oi 0] [.blk 229 (Hl c (Uz l) r1)] [.oi 0] [.blk 229 (Hl ⟨c.now,ws,c.ev⟩ (Uz l') (pM l' c.now))]:=by
 have hB:=pJ hl hn;have cn:=QZ (T:=229) (c:=c) (r0:=Uz l') (r1:=r1) hc.n;have cb:=IG (c:=c) (r1:=r1) hl hn hc.n;have cg:=YX (T:=229) (r0:=Uz l') (r1:=pM l' c.now) hc hc.n (Iz hc.n) (Yd 0) (hB.p _ hc.n) (hB.n _ hc.n) h;refine Fu func436 rfl ?_;exact Ui [] [0] [.f rfl,.c [0] cn,.c [0] cb,.c [0] cg] rfl
theorem Qms{lx ly:Ut}{px py:Un}{x y:LV}{d id:Int}{c:Cr}{l:List Pt}{r1:Ut}{ws:List Wt}(hx:IsInts lx px)(hy:IsInts ly py)(hd:Gb x y d)(hk:Cs 4294967294 1073741824 (Crv.mk px py d))(hll:l.length<=900)
 (he:WG l ⟨Crv.norm (Crv.mk px py d),id⟩=0) (hc:CrOk c) (hl:∀p∈put l ⟨Crv.norm (Crv.mk px py d),id⟩,Sc p.c) (hn:(put l ⟨Crv.norm (Crv.mk px py d),id⟩).length≤6) (h:Tj c.l c.now (Fv (kG (put l ⟨Crv.norm (Crv.mk px py d),id⟩) c.now))=some ws) :
 U5 prog 434 [.one (.ow 0 0),.agg [.row lx,.row ly,x,y,.int .i64 id]] [.blk 229 (Hl c (Uz l) r1)] [.oi 0] [.blk 229 (Hl ⟨c.now,ws,c.ev⟩ (Uz (put l ⟨Crv.norm (Crv.mk px py d),id⟩)) (pM (put l ⟨Crv.norm (Crv.mk px py d),id⟩) c.now))]:=by
 have cp:=wR (l:=l) (id:=id) hx hy hd hk (by omega);rw[if_pos he,he]at cp;have cw:=BY (l:=l) (r1:=r1) hc hl hn h;refine Fu func434 rfl ?_;obtain⟨b,l',rfl,rfl,_⟩:=hd;exact Ui [] [0] [.k cp,.c [0] cw] rfl
theorem Qeh{lx ly:Ut}{px py:Un}{x y:LV}{d id:Int}{c:Cr}{l l':List Pt}{r1:Ut}{ws:List Wt}(hx:IsInts lx px)(hy:IsInts ly py)(hd:Gb x y d)(hk:Cs 4294967294 1073741824 (Crv.mk px py d))(hll:l.length<=6)(h:has l id=true)(hc:CrOk c)
 (hl':l'=l.set (Rt l id) (Pt.mk (Crv.norm (Crv.mk px py d)) id)) (hs:∀p∈l',Sc p.c) (hw:Tj c.l c.now (Fv (kG l' c.now))=some ws) :
 U5 prog 435 [.one (.ow 0 0),.agg [.row lx,.row ly,x,y,.int .i64 id]] [.blk 229 (Hl c (Uz l) r1)] [.oi 0] [.blk 229 (Hl ⟨c.now,ws,c.ev⟩ (Uz l') (pM l' c.now))]:=by
 have ct1:=UU (l:=l) hx hy hd hk (by omega) h;rw[<-hl']at ct1;have cw:=BY (c:=c) (l:=l) (l':=l') (r1:=r1) hc hs (by rw[hl',Xd];omega) hw;obtain⟨b,r,rfl,rfl,_⟩:=hd;refine Fu func435 rfl ?_;exact Ui [] [0] [.k ct1,.c [0] cw] rfl
theorem Qeg{id:Int}{c:Cr}{l l':List Pt}{r1:Ut}{ws:List Wt}(hll:l.length<=6)(h:has l id=true)(hc:CrOk c)
 (hl':l'=l.take (Rt l id)++l.drop (Rt l id+1)) (hs:∀p∈l',Sc p.c) (hw:Tj c.l c.now (Fv (kG l' c.now))=some ws) :
 U5 prog 433 [.one (.ow 0 0),.oi id] [.blk 229 (Hl c (Uz l) r1)] [.oi 0] [.blk 229 (Hl ⟨c.now,ws,c.ev⟩ (Uz l') (pM l' c.now))]:=by
 have ct1:=UK (l:=l) (id:=id) (by omega) h;rw[<-hl']at ct1;have cw:=BY (c:=c) (l:=l) (l':=l') (r1:=r1) hc hs (by rw[hl',Qy,Qq,Q7];omega) hw;refine Fu func433 rfl ?_;exact Ui [] [0] [.k ct1,.c [0] cw] rfl
theorem Qa6{c:Cr}{r0:Ut}{r1:Ut}:U5 prog 67 [.one (.ow 0 0)] [.blk 229 (Hl c r0 r1)] [.one (.ow 1 0)] [.blk 229 (Hl c r0 r1),.blk 229 (Hl c r0 r1)]:=by
 refine Fu func67 rfl ?_;exact Ui [] [0,1] [] rfl
theorem Qm9{lx ly:Ut}{px py:Un}{x y:LV}{d id:Int}{c:Cr}{l l':List Pt}{r1:Ut}{ws:List Wt}(hx:IsInts lx px)(hy:IsInts ly py)(hd:Gb x y d)(hk:Cs 4294967294 1073741824 (Crv.mk px py d))(hll:l.length<=900)(h:has l id=true)(hc:CrOk c)
 (hl':l'=l.set (Rt l id) (Pt.mk (Crv.norm (Crv.mk px py d)) id)) (hs:∀p∈l',Sc p.c) (hw:Tj c.l c.now (Fv (ZB l' c.now))=some ws) :
 U5 prog 394 [.one (.ow 0 0),.agg [.row lx,.row ly,x,y,.int .i64 id]] [.blk 220 (Hl c (Uz l) r1)] [.oi 0] [.blk 220 (Hl ⟨c.now,ws,c.ev⟩ (Uz l') (IU l' c.now))]:=by
 have ct1:=UU (l:=l) hx hy hd hk (by omega) h;rw[<-hl']at ct1;have cw:=xM (c:=c) (l:=l) (l':=l') (r1:=r1) hc hs (by rw[hl',Xd];omega) hw;obtain⟨b,r,rfl,rfl,_⟩:=hd;refine Fu func394 rfl ?_;exact Ui [] [0] [.k ct1,.c [0] cw] rfl
theorem Qm7{id:Int}{c:Cr}{l l':List Pt}{r1:Ut}{ws:List Wt}(hll:l.length<=900)(h:has l id=true)(hc:CrOk c)
 (hl':l'=l.take (Rt l id)++l.drop (Rt l id+1)) (hs:∀p∈l',Sc p.c) (hw:Tj c.l c.now (Fv (ZB l' c.now))=some ws) :
 U5 prog 390 [.one (.ow 0 0),.oi id] [.blk 220 (Hl c (Uz l) r1)] [.oi 0] [.blk 220 (Hl ⟨c.now,ws,c.ev⟩ (Uz l') (IU l' c.now))]:=by
 have ct1:=UK (l:=l) (id:=id) (by omega) h;rw[<-hl']at ct1;have cw:=xM (c:=c) (l:=l) (l':=l') (r1:=r1) hc hs (by rw[hl',Qy,Qq,Q7];omega) hw;refine Fu func390 rfl ?_;exact Ui [] [0] [.k ct1,.c [0] cw] rfl
theorem Qxp{T:Nat}{t:Rat}{Bc:Tm->List Ct}{Br:Tm->Ut}{r0:Ut}(ht:Qs 1640000 t)(hB:BuildOk Bc)
 (hb:∀a c r1,Va a->CrOk c->U5 prog 197 [.one (.ow 0 0),.agg (ta a)] [.blk T (Hl c r0 r1)] [.one (.row (Fj (Bc a)))] [.blk T (Hl c r0 (Br a))])
 {K:Nat} {c c':Cr} {r1 r1':Ut} {n:Int} (hc:CrOk c) (hev:0<=c.ev/\c.ev+K<=1000000000000000000) (h:Fl c.now t<=0) (hg:WI Bc Br t K c r1 0=some (c',r1',n)) :
 U5 prog 396 [.one (.ow 0 0),.agg (rl t),.one (.ofn 197 [.ow 0 0] [])] [.blk T (Hl c r0 r1)] [.oi n,.oi 0] [.blk T (Hl c' r0 r1')]:=by
 have qt:Qb t:=ht.mono (by decide);have c1:=De hc.n.tb qt;refine Fu func396 rfl ?_;refine Ue [.c [0] (QZ hc.n),.k c1,.f (by simpa using h)] rfl ?_;refine Uj (S:=Nat×Cr×Ut×Int) 2 (λL1 s=>(8,.v (.oi s.2.2.2))::L1) (λs=>[.blk T (Hl s.2.1 r0 s.2.2.1),.blk 42 (rl t)]) (λs=>s.1) (λs=>CrOk s.2.1/\(0<=s.2.1.ev/\s.2.1.ev+s.1<=1000000000000000000)/\(0<=s.2.2.2/\s.2.2.2+s.1<=1000000000000000000)/\WI Bc Br t s.1 s.2.1 s.2.2.1 s.2.2.2=some (c',r1',n)) (K,c,r1,0) ⟨hc,hev,⟨Int.le_refl 0,by dsimp only;omega⟩,hg⟩ rfl rfl λ⟨k,x,r,m⟩ ⟨j1,j2,j3,j4⟩=>?_
 dsimp only at j1 j2 j3 j4 ⊢;cases k with
 |zero=>cases j4
 |
  succ k =>
  simp only[WI]at j4;obtain⟨ws,w1,j4⟩:=Qd.1 j4;obtain⟨o,o1,j4⟩:=Qd.1 j4;have cn:=MX (T:=T) (r0:=r0) (r1:=r) j1 w1 o1;have ca:=VL (U3 t.num) (U3 (t.den:Int)) (Qa ht.1 (by decide)) (Qa ht.2 (by decide)) (by rw[Tq];exact ht.mono (by decide));rw[Tq]at ca;cases o with
  |
   none =>
   injection j4 with j4;injection j4 with e1 j4;injection j4 with e2 e3;subst e1;subst e2;subst e3;exact Ui [] [0] [.c [0] cn,.g 25 true rfl,.t rfl,.k ca] rfl
  |
   some a =>
   have ha:=LP j1 w1 o1;dsimp only at j4;have cc:=De ha.tb qt;by_cases h0:0<Fl a t
   ·rw[if_pos h0]at j4;injection j4 with j4;injection j4 with e1 j4;injection j4 with e2 e3;subst e1;subst e2;subst e3;exact Ui [] [0] [.c [0] cn,.g 25 false rfl,.k cc,.t (by simpa using h0),.k ca] rfl
   ·rw[if_neg h0]at j4;obtain⟨w2,l1,j4⟩:=Qd.1 j4;have j1':=El j1 w1;have cl:=S7 (b:=a) (l:=[]) ha.tb (λt ht=>by cases ht) (by decide) rfl;have cb:=hb a { x with l:=ws } r ha j1';have cy:=UY (T:=T) (r0:=r0) (r1:=Br a) j1' ha (hB.p a ha) (hB.n a ha) l1;have hf:decide (0<Fl a t)=false:=by simpa using h0
    refine Uf [.c [0] cn,.g 25 false rfl,.k cc,.f hf,.k cl,.c [0] cb,.c [0] cy] rfl ?_;exact rd (k,⟨a,w2,x.ev+1⟩,Br a,m+1) (by dsimp only;omega) ⟨lay_ok _ j1' ha (hB.p a ha) (hB.n a ha) l1,by dsimp only;omega,by dsimp only;omega,j4⟩ rfl
def Qxj(l:List Pt)(a:Tm):Cr:=⟨a,(Fv (AU l a)).map fresh,0⟩
theorem Qtg{t:Rat}{l:List Pt}{K:Nat}{c c':Cr}{r1 r1':Ut}{n:Int}(ht:Qs 1640000 t)(hl:∀p∈l,Sc p.c)(hn:l.length≤10)(hc:CrOk c)(hev:0≤c.ev/\c.ev+K≤1000000000000000000)(h:Fl c.now t≤0)(hg:WI (AU l) (brH l) t K c r1 0=some (c',r1',n)) :
 U5 prog 422 [.one (.ow 0 0),.agg (rl t)] [.blk 225 (Hl c (Uz l) r1)] [.oi n,.oi 0] [.blk 225 (Hl c' (Uz l) r1')]:=by
 have cg:=Qxp (T:=225) (r0:=Uz l) ht (pY hl hn) (λa c r1 ha _=>IR (c:=c) (r1:=r1) hl hn ha) hc hev h hg;refine Fu func422 rfl ?_;exact Ui [] [0] [.k (Ns (ht.mono (by decide))),.c [0] cg] rfl
theorem Qth{c:Cr}{l s:List Pt}(hs:s.length<=1000000):U5 prog 82 [.one (.ow 0 0)] [.blk 225 (Hl c (Uz l) (Uz s))] [.one (ids (s.map (·.id)))] [.blk 225 (Hl c (Uz l) (Uz s))]:=by
 have hcl:=G0 s;refine Fu func82 rfl ?_;refine Ue [.o 3 3 1] rfl ?_;refine Uj (S:=Nat) 2 (λL1 i=>(11,.v (.oi i))::(3,.v (.one (.orow 1 1 none)))::L1) (λi=>[.blk 225 (Hl c (Uz l) (Uz s)),.row false 3 1 (((s.take i).map (·.id)).map λ(z:Int)=>[LV.int .i64 z])]) (λi=>s.length-i) (λi=>i<=s.length) 0 (Qh _) rfl rfl λi hi=>?_
 by_cases hlt:i<s.length
 ·obtain⟨p,hp⟩:=gxE (l:=s) (i:=i) hlt;have hg:(((s.take (i+1)).map (·.id)).map λ(z:Int)=>[LV.int .i64 z])=(((s.take i).map (·.id)).map λ(z:Int)=>[LV.int .i64 z])++[[.int .i64 p.id]]:=by
   rw[Z2,hp];simp
  refine Uf [.t (by simp[hcl];omega),.x (S4 hp),.s (sz:=1) (l:=[[.int .i64 p.id]]) (λc hc=>by rw[Qk.1 hc];rfl)] rfl ?_;exact rd (i+1) (by omega) hlt (by rw[hg];rfl)
 ·obtain rfl:i=s.length:=by omega
  rw[Q6];exact Ui [1] [0] [.f (by simp[hcl])] rfl
abbrev YR(k:Nat)(np nd:Int)(M:List Pt)(q:Rat)(s t h p d:Cr):Uu:=[.blk 80 (mO k q),tB np nd M,bS s M q,bT t M q,bH h M q,bP p M q,bD d M q]
abbrev Qz9(k:Nat):Us:=[.oif 74 (k+2) 0,.oif 75 (k+3) 0,.oif 76 (k+4) 0,.oif 77 (k+5) 0,.oif 78 (k+6) 0]
theorem wS{np nd:Int}{Mt M:List Pt}{q:Rat}{s t h p d:Cr}:U5 prog 71 [.one (.ow 0 0)] [.blk 80 (mO 0 q),tB np nd Mt,bS s M q,bT t M q,bH h M q,bP p M q,bD d M q] [.agg (Qz9 0)] [.blk 80 (mO 0 q),tB np nd Mt,bS s M q,bT t M q,bH h M q,bP p M q,bD d M q]:=by
 refine Fu func71 rfl ?_;exact Ui [] [0,1,2,3,4,5,6] [] rfl
abbrev zM(k i:Nat)(a b:OB):OB:=match Nat.blt k i with
 |true=>b
 |false=>a
theorem Qep{np nd id:Int}{M M':List Pt}{q:Rat}{s t h p d s' t' h' p' d':Cr}{lx ly l3:Ut}{bn:Bool}{e1 e2 e3 e4 e5:Int}
 (ht:U5 prog 132 [.one (.ow 0 0),.agg [.row lx,.row ly,.bool bn,.row l3,.int .i64 id]] [tB np nd M] [.oi 0] [tB np nd M'])
 (h1:U5 prog 393 [.one (.ow 0 0),.agg [.row lx,.row ly,.bool bn,.row l3,.int .i64 id]] [bS s M q] [.oi e1] [bS s' M' q])
 (h2:U5 prog 419 [.one (.ow 0 0),.agg [.row lx,.row ly,.bool bn,.row l3,.int .i64 id]] [bT t M q] [.oi e2] [bT t' M' q])
 (h3:U5 prog 424 [.one (.ow 0 0),.agg [.row lx,.row ly,.bool bn,.row l3,.int .i64 id]] [bH h M q] [.oi e3] [bH h' M' q])
 (h4:U5 prog 429 [.one (.ow 0 0),.agg [.row lx,.row ly,.bool bn,.row l3,.int .i64 id]] [bP p M q] [.oi e4] [bP p' M' q])
 (h5:U5 prog 434 [.one (.ow 0 0),.agg [.row lx,.row ly,.bool bn,.row l3,.int .i64 id]] [bD d M q] [.oi e5] [bD d' M' q]) :
 U5 prog 58 [.one (.ow 0 0),.oi id,.agg [.row lx,.row ly,.bool bn,.row l3]] (YR 0 np nd M q s t h p d) [.oi 0] (YR 0 np nd M' q s' t' h' p' d'):=by
 refine Fu func58 rfl ?_;refine Ue [.c [1] ht,.f rfl,.c Uw wS] rfl ?_;refine Uj (S:=Nat) 9 (λL1 i=>(25,.v (.oi i))::L1) (λi=>[.blk 80 (mO 0 q),tB np nd M',zM 0 i (bS s M q) (bS s' M' q),zM 1 i (bT t M q) (bT t' M' q),zM 2 i (bH h M q) (bH h' M' q),zM 3 i (bP p M q) (bP p' M' q),zM 4 i (bD d M q) (bD d' M' q),.blk 38 [.row lx,.row ly,.bool bn,.row l3],.blk 40 [.row lx,.row ly,.bool bn,.row l3,.int .i64 id]]) (λi=>5-i) (λi=>i<=5) 0 (by decide) rfl rfl λi hi=>?_
 rcases(show i=0\/i=1\/i=2\/i=3\/i=4\/i=5 by omega)with rfl|rfl|rfl|rfl|rfl|rfl
 ·exact go tt [.t rfl,.i 0,.c [2] h1] rfl (by simp[U0]) (rd 1 (by omega) (by omega) rfl)
 ·exact go tt [.t rfl,.i 1,.c [3] h2] rfl (by simp[U0]) (rd 2 (by omega) (by omega) rfl)
 ·exact go tt [.t rfl,.i 2,.c [4] h3] rfl (by simp[U0]) (rd 3 (by omega) (by omega) rfl)
 ·exact go tt [.t rfl,.i 3,.c [5] h4] rfl (by simp[U0]) (rd 4 (by omega) (by omega) rfl)
 ·exact go tt [.t rfl,.i 4,.c [6] h5] rfl (by simp[U0]) (rd 5 (by omega) (by omega) rfl)
 ·exact Ui [] [0,1,2,3,4,5,6] [.f rfl] rfl
theorem Qbc{np nd id:Int}{M:List Pt}{q:Rat}{s t h p d:Cr}{lx ly l3:Ut}{bn:Bool}{e:Int}(he:e≠0)
 (ht:U5 prog 132 [.one (.ow 0 0),.agg [.row lx,.row ly,.bool bn,.row l3,.int .i64 id]] [tB np nd M] [.oi e] [tB np nd M]) :
 U5 prog 58 [.one (.ow 0 0),.oi id,.agg [.row lx,.row ly,.bool bn,.row l3]] (YR 0 np nd M q s t h p d) [.oi e] (YR 0 np nd M q s t h p d):=by
 refine Fu func58 rfl ?_;exact Ui [] [0,1,2,3,4,5,6] [.c [1] ht,.t (by simpa using he)] rfl
theorem Qe8{np nd id:Int}{M M':List Pt}{q:Rat}{s t h p d s' t' h' p' d':Cr}{lx ly l3:Ut}{bn:Bool}{e1 e2 e3 e4 e5:Int}
 (ht:U5 prog 114 [.one (.ow 0 0),.agg [.row lx,.row ly,.bool bn,.row l3,.int .i64 id]] [tB np nd M] [.oi 0] [tB np nd M'])
 (h1:U5 prog 394 [.one (.ow 0 0),.agg [.row lx,.row ly,.bool bn,.row l3,.int .i64 id]] [bS s M q] [.oi e1] [bS s' M' q])
 (h2:U5 prog 420 [.one (.ow 0 0),.agg [.row lx,.row ly,.bool bn,.row l3,.int .i64 id]] [bT t M q] [.oi e2] [bT t' M' q])
 (h3:U5 prog 425 [.one (.ow 0 0),.agg [.row lx,.row ly,.bool bn,.row l3,.int .i64 id]] [bH h M q] [.oi e3] [bH h' M' q])
 (h4:U5 prog 430 [.one (.ow 0 0),.agg [.row lx,.row ly,.bool bn,.row l3,.int .i64 id]] [bP p M q] [.oi e4] [bP p' M' q])
 (h5:U5 prog 435 [.one (.ow 0 0),.agg [.row lx,.row ly,.bool bn,.row l3,.int .i64 id]] [bD d M q] [.oi e5] [bD d' M' q]) :
 U5 prog 49 [.one (.ow 0 0),.oi id,.agg [.row lx,.row ly,.bool bn,.row l3]] (YR 0 np nd M q s t h p d) [.oi 0] (YR 0 np nd M' q s' t' h' p' d'):=by
 refine Fu func49 rfl ?_;refine Ue [.c [1] ht,.f rfl,.c Uw wS] rfl ?_;refine Uj (S:=Nat) 9 (λL1 i=>(25,.v (.oi i))::L1) (λi=>[.blk 80 (mO 0 q),tB np nd M',zM 0 i (bS s M q) (bS s' M' q),zM 1 i (bT t M q) (bT t' M' q),zM 2 i (bH h M q) (bH h' M' q),zM 3 i (bP p M q) (bP p' M' q),zM 4 i (bD d M q) (bD d' M' q),.blk 38 [.row lx,.row ly,.bool bn,.row l3],.blk 40 [.row lx,.row ly,.bool bn,.row l3,.int .i64 id]]) (λi=>5-i) (λi=>i<=5) 0 (by decide) rfl rfl λi hi=>?_
 rcases(show i=0\/i=1\/i=2\/i=3\/i=4\/i=5 by omega)with rfl|rfl|rfl|rfl|rfl|rfl
 ·exact go tt [.t rfl,.i 0,.c [2] h1] rfl (by simp[U0]) (rd 1 (by omega) (by omega) rfl)
 ·exact go tt [.t rfl,.i 1,.c [3] h2] rfl (by simp[U0]) (rd 2 (by omega) (by omega) rfl)
 ·exact go tt [.t rfl,.i 2,.c [4] h3] rfl (by simp[U0]) (rd 3 (by omega) (by omega) rfl)
 ·exact go tt [.t rfl,.i 3,.c [5] h4] rfl (by simp[U0]) (rd 4 (by omega) (by omega) rfl)
 ·exact go tt [.t rfl,.i 4,.c [6] h5] rfl (by simp[U0]) (rd 5 (by omega) (by omega) rfl)
 ·exact Ui [] [0,1,2,3,4,5,6] [.f rfl] rfl
theorem Qbg{np nd id:Int}{M:List Pt}{q:Rat}{s t h p d:Cr}{lx ly l3:Ut}{bn:Bool}{e:Int}(he:e≠0)
 (ht:U5 prog 114 [.one (.ow 0 0),.agg [.row lx,.row ly,.bool bn,.row l3,.int .i64 id]] [tB np nd M] [.oi e] [tB np nd M]) :
 U5 prog 49 [.one (.ow 0 0),.oi id,.agg [.row lx,.row ly,.bool bn,.row l3]] (YR 0 np nd M q s t h p d) [.oi e] (YR 0 np nd M q s t h p d):=by
 refine Fu func49 rfl ?_;exact Ui [] [0,1,2,3,4,5,6] [.c [1] ht,.t (by simpa using he)] rfl
theorem Qei{np nd id:Int}{M M':List Pt}{q:Rat}{s t h p d s' t' h' p' d':Cr}{e1 e2 e3 e4 e5:Int}
 (ht:U5 prog 133 [.one (.ow 0 0),.oi id] [tB np nd M] [.oi 0] [tB np nd M'])
 (h1:U5 prog 390 [.one (.ow 0 0),.oi id] [bS s M q] [.oi e1] [bS s' M' q])
 (h2:U5 prog 418 [.one (.ow 0 0),.oi id] [bT t M q] [.oi e2] [bT t' M' q])
 (h3:U5 prog 423 [.one (.ow 0 0),.oi id] [bH h M q] [.oi e3] [bH h' M' q])
 (h4:U5 prog 428 [.one (.ow 0 0),.oi id] [bP p M q] [.oi e4] [bP p' M' q])
 (h5:U5 prog 433 [.one (.ow 0 0),.oi id] [bD d M q] [.oi e5] [bD d' M' q]) :
 U5 prog 59 [.one (.ow 0 0),.oi id] (YR 0 np nd M q s t h p d) [.oi 0] (YR 0 np nd M' q s' t' h' p' d'):=by
 refine Fu func59 rfl ?_;refine Ue [.c [1] ht,.f rfl,.c Uw wS] rfl ?_;refine Uj (S:=Nat) 7 (λL1 i=>(19,.v (.oi i))::L1) (λi=>[.blk 80 (mO 0 q),tB np nd M',zM 0 i (bS s M q) (bS s' M' q),zM 1 i (bT t M q) (bT t' M' q),zM 2 i (bH h M q) (bH h' M' q),zM 3 i (bP p M q) (bP p' M' q),zM 4 i (bD d M q) (bD d' M' q)]) (λi=>5-i) (λi=>i<=5) 0 (by decide) rfl rfl λi hi=>?_
 rcases(show i=0\/i=1\/i=2\/i=3\/i=4\/i=5 by omega)with rfl|rfl|rfl|rfl|rfl|rfl
 ·exact go tt [.t rfl,.i 0,.c [2] h1] rfl (by simp[U0]) (rd 1 (by omega) (by omega) rfl)
 ·exact go tt [.t rfl,.i 1,.c [3] h2] rfl (by simp[U0]) (rd 2 (by omega) (by omega) rfl)
 ·exact go tt [.t rfl,.i 2,.c [4] h3] rfl (by simp[U0]) (rd 3 (by omega) (by omega) rfl)
 ·exact go tt [.t rfl,.i 3,.c [5] h4] rfl (by simp[U0]) (rd 4 (by omega) (by omega) rfl)
 ·exact go tt [.t rfl,.i 4,.c [6] h5] rfl (by simp[U0]) (rd 5 (by omega) (by omega) rfl)
 ·exact Ui [] [0,1,2,3,4,5,6] [.f rfl] rfl
theorem Qa7{np nd id:Int}{M:List Pt}{q:Rat}{s t h p d:Cr}{e:Int}(he:e≠0)
 (ht:U5 prog 133 [.one (.ow 0 0),.oi id] [tB np nd M] [.oi e] [tB np nd M]) :
 U5 prog 59 [.one (.ow 0 0),.oi id] (YR 0 np nd M q s t h p d) [.oi e] (YR 0 np nd M q s t h p d):=by
 refine Fu func59 rfl ?_;exact Ui [] [0,1,2,3,4,5,6] [.c [1] ht,.t (by simpa using he)] rfl
theorem Qa5{np nd:Int}{M:List Pt}{q r:Rat}{s t h p d s' t' h' p' d':Cr}{x0 x1 x2 x3:LV}{a b n1 n2 n3 n4 n5:Int}(ha:Gb x0 x1 a)(hb:Gb x2 x3 b)(sa:Fb a<=4294967295)(sb:Fb b<=4294967295)(hr:Gd a b=r)(hs:Qs 128 r)(hq:Qs 128 q)(hqr:q<=r)
 (h1:U5 prog 388 [.one (.ow 0 0),.agg (rl r)] [bS s M q] [.oi n1,.oi 0] [bS s' M r])
 (h2:U5 prog 417 [.one (.ow 0 0),.agg (rl r)] [bT t M q] [.oi n2,.oi 0] [bT t' M r])
 (h3:U5 prog 422 [.one (.ow 0 0),.agg (rl r)] [bH h M q] [.oi n3,.oi 0] [bH h' M r])
 (h4:U5 prog 427 [.one (.ow 0 0),.agg (rl r)] [bP p M q] [.oi n4,.oi 0] [bP p' M r])
 (h5:U5 prog 432 [.one (.ow 0 0),.agg (rl r)] [bD d M q] [.oi n5,.oi 0] [bD d' M r]) :
 U5 prog 17 [.one (.ow 0 0),.agg [x0,x1,x2,x3]] (YR 0 np nd M q s t h p d) [.oi 0] (YR 0 np nd M r s' t' h' p' d'):=by
 have cm:=BA ha hb sa sb;rw[hr]at cm;obtain⟨b1,r1,rfl,rfl,_⟩:=ha;obtain⟨b2,r2,rfl,rfl,_⟩:=hb;have cc:=Cd (a:=r) (b:=q) (hs.mono (by decide)) (hq.mono (by decide));have l1:=ZR.2 hs.1;have l2:(Ga r.den).length<=4:=by simpa using ZR.2 hs.2
 have hc:¬Hb r q<0:=λh=>absurd (Nt.1 h) (Rat.not_lt.2 hqr)
 refine Fu func17 rfl ?_;refine Ue [.k cm,.f (by simp[kR];omega),.f (by simp[kR];omega),.k cc,.f (by simpa using hc),.c Uw wS] rfl ?_;refine Uj (S:=Nat) 8 (λL1 i=>(32,.v (.oi i))::L1) (λi=>[.blk 80 (mO 0 q),tB np nd M,zM 0 i (bS s M q) (bS s' M r),zM 1 i (bT t M q) (bT t' M r),zM 2 i (bH h M q) (bH h' M r),zM 3 i (bP p M q) (bP p' M r),zM 4 i (bD d M q) (bD d' M r),.blk 42 (rl r)]) (λi=>5-i) (λi=>i<=5) 0 (by decide) rfl rfl λi hi=>?_
 rcases(show i=0\/i=1\/i=2\/i=3\/i=4\/i=5 by omega)with rfl|rfl|rfl|rfl|rfl|rfl
 ·exact go tt [.t rfl,.i 0,.c [2] h1] rfl (by simp[U0]) (rd 1 (by omega) (by omega) rfl)
 ·exact go tt [.t rfl,.i 1,.c [3] h2] rfl (by simp[U0]) (rd 2 (by omega) (by omega) rfl)
 ·exact go tt [.t rfl,.i 2,.c [4] h3] rfl (by simp[U0]) (rd 3 (by omega) (by omega) rfl)
 ·exact go tt [.t rfl,.i 3,.c [5] h4] rfl (by simp[U0]) (rd 4 (by omega) (by omega) rfl)
 ·exact go tt [.t rfl,.i 4,.c [6] h5] rfl (by simp[U0]) (rd 5 (by omega) (by omega) rfl)
 ·exact Ui [] [0,1,2,3,4,5,6] [.f rfl] rfl
theorem xG{np nd:Int}{M:List Pt}{q r:Rat}{s t h p d:Cr}{x0 x1 x2 x3:LV}{a b:Int}(ha:Gb x0 x1 a)(hb:Gb x2 x3 b)(sa:Fb a<=4294967295)(sb:Fb b<=4294967295)(hr:Gd a b=r)(hs:¬Qs 128 r) :
 U5 prog 17 [.one (.ow 0 0),.agg [x0,x1,x2,x3]] (YR 0 np nd M q s t h p d) [.oi 1] (YR 0 np nd M q s t h p d):=by
 have cm:=BA ha hb sa sb;rw[hr]at cm;obtain⟨b1,r1,rfl,rfl,_⟩:=ha;obtain⟨b2,r2,rfl,rfl,_⟩:=hb;refine Fu func17 rfl ?_;by_cases h1:Fb r.num<=128
 ·have h2:¬Fb (r.den:Int)<=128:=λh=>hs ⟨h1,h⟩
  have l1:=ZR.2 h1;have l2:=mt ZR.1 h2;exact Ui [] [0,1,2,3,4,5,6] [.k cm,.f (by simp[kR];omega),.t (by simp[kR]at l2 ⊢;omega)] rfl
 ·have l1:=mt ZR.1 h1;exact Ui [] [0,1,2,3,4,5,6] [.k cm,.t (by simp[kR];omega),.t rfl] rfl
theorem AN{np nd:Int}{M:List Pt}{q r:Rat}{s t h p d:Cr}{x0 x1 x2 x3:LV}{a b:Int}(ha:Gb x0 x1 a)(hb:Gb x2 x3 b)(sa:Fb a<=4294967295)(sb:Fb b<=4294967295)(hr:Gd a b=r)(hs:Qs 128 r)(hq:Qs 128 q)(hqr:r<q) :
 U5 prog 17 [.one (.ow 0 0),.agg [x0,x1,x2,x3]] (YR 0 np nd M q s t h p d) [.oi 8] (YR 0 np nd M q s t h p d):=by
 have cm:=BA ha hb sa sb;rw[hr]at cm;obtain⟨b1,r1,rfl,rfl,_⟩:=ha;obtain⟨b2,r2,rfl,rfl,_⟩:=hb;have cc:=Cd (a:=r) (b:=q) (hs.mono (by decide)) (hq.mono (by decide));have l1:=ZR.2 hs.1;have l2:(Ga r.den).length<=4:=by simpa using ZR.2 hs.2
 have hc:Hb r q<0:=Nt.2 hqr;refine Fu func17 rfl ?_;exact Ui [] [0,1,2,3,4,5,6] [.k cm,.f (by simp[kR];omega),.f (by simp[kR];omega),.k cc,.t (by simpa using hc)] rfl
theorem BK{c:Cr}{l l':List Pt}{r1:Ut}{ws:List Wt}(hc:CrOk c)(hl:∀p∈l',Sc p.c)(hn:l'.length≤10)(h:Tj c.l c.now (Fv (AU l' c.now))=some ws) :
 U5 prog 426 [.one (.ow 0 0),.agg [pts l'],.oi 0] [.blk 225 (Hl c (Uz l) r1)] [.oi 0] [.blk 225 (Hl ⟨c.now,ws,c.ev⟩ (Uz l') (brH l' c.now))]:=by
 have hB:=pY hl hn;have cn:=QZ (T:=225) (c:=c) (r0:=Uz l') (r1:=r1) hc.n;have cb:=IR (c:=c) (r1:=r1) hl hn hc.n;have cg:=YX (T:=225) (r0:=Uz l') (r1:=brH l' c.now) hc hc.n (Iz hc.n) (Yd 0) (hB.p _ hc.n) (hB.n _ hc.n) h;refine Fu func426 rfl ?_;exact Ui [] [0] [.f rfl,.c [0] cn,.c [0] cb,.c [0] cg] rfl
theorem Qmw{lx ly:Ut}{px py:Un}{x y:LV}{d id:Int}{c:Cr}{l:List Pt}{r1:Ut}{ws:List Wt}(hx:IsInts lx px)(hy:IsInts ly py)(hd:Gb x y d)(hk:Cs 4294967294 1073741824 (Crv.mk px py d))(hll:l.length<=900)
 (he:WG l ⟨Crv.norm (Crv.mk px py d),id⟩=0) (hc:CrOk c) (hl:∀p∈put l ⟨Crv.norm (Crv.mk px py d),id⟩,Sc p.c) (hn:(put l ⟨Crv.norm (Crv.mk px py d),id⟩).length≤10) (h:Tj c.l c.now (Fv (AU (put l ⟨Crv.norm (Crv.mk px py d),id⟩) c.now))=some ws) :
 U5 prog 424 [.one (.ow 0 0),.agg [.row lx,.row ly,x,y,.int .i64 id]] [.blk 225 (Hl c (Uz l) r1)] [.oi 0] [.blk 225 (Hl ⟨c.now,ws,c.ev⟩ (Uz (put l ⟨Crv.norm (Crv.mk px py d),id⟩)) (brH (put l ⟨Crv.norm (Crv.mk px py d),id⟩) c.now))]:=by
 have cp:=wR (l:=l) (id:=id) hx hy hd hk (by omega);rw[if_pos he,he]at cp;have cw:=BK (l:=l) (r1:=r1) hc hl hn h;refine Fu func424 rfl ?_;obtain⟨b,l',rfl,rfl,_⟩:=hd;exact Ui [] [0] [.k cp,.c [0] cw] rfl
theorem Qen{lx ly:Ut}{px py:Un}{x y:LV}{d id:Int}{c:Cr}{l l':List Pt}{r1:Ut}{ws:List Wt}(hx:IsInts lx px)(hy:IsInts ly py)(hd:Gb x y d)(hk:Cs 4294967294 1073741824 (Crv.mk px py d))(hll:l.length<=10)(h:has l id=true)(hc:CrOk c)
 (hl':l'=l.set (Rt l id) (Pt.mk (Crv.norm (Crv.mk px py d)) id)) (hs:∀p∈l',Sc p.c) (hw:Tj c.l c.now (Fv (AU l' c.now))=some ws) :
 U5 prog 425 [.one (.ow 0 0),.agg [.row lx,.row ly,x,y,.int .i64 id]] [.blk 225 (Hl c (Uz l) r1)] [.oi 0] [.blk 225 (Hl ⟨c.now,ws,c.ev⟩ (Uz l') (brH l' c.now))]:=by
 have ct1:=UU (l:=l) hx hy hd hk (by omega) h;rw[<-hl']at ct1;have cw:=BK (c:=c) (l:=l) (l':=l') (r1:=r1) hc hs (by rw[hl',Xd];omega) hw;obtain⟨b,r,rfl,rfl,_⟩:=hd;refine Fu func425 rfl ?_;exact Ui [] [0] [.k ct1,.c [0] cw] rfl
theorem Qem{id:Int}{c:Cr}{l l':List Pt}{r1:Ut}{ws:List Wt}(hll:l.length<=10)(h:has l id=true)(hc:CrOk c)
 (hl':l'=l.take (Rt l id)++l.drop (Rt l id+1)) (hs:∀p∈l',Sc p.c) (hw:Tj c.l c.now (Fv (AU l' c.now))=some ws) :
 U5 prog 423 [.one (.ow 0 0),.oi id] [.blk 225 (Hl c (Uz l) r1)] [.oi 0] [.blk 225 (Hl ⟨c.now,ws,c.ev⟩ (Uz l') (brH l' c.now))]:=by
 have ct1:=UK (l:=l) (id:=id) (by omega) h;rw[<-hl']at ct1;have cw:=BK (c:=c) (l:=l) (l':=l') (r1:=r1) hc hs (by rw[hl',Qy,Qq,Q7];omega) hw;refine Fu func423 rfl ?_;exact Ui [] [0] [.k ct1,.c [0] cw] rfl
theorem Qbb{c:Cr}{r0:Ut}{r1:Ut}:U5 prog 65 [.one (.ow 0 0)] [.blk 225 (Hl c r0 r1)] [.one (.ow 1 0)] [.blk 225 (Hl c r0 r1),.blk 225 (Hl c r0 r1)]:=by
 refine Fu func65 rfl ?_;exact Ui [] [0,1] [] rfl
theorem BG{c:Cr}{l l':List Pt}{r1:Ut}{ws:List Wt}(hc:CrOk c)(hl:∀p∈l',Sc p.c)(hn:l'.length≤10)(h:Tj c.l c.now (Fv (pV l' c.now))=some ws) :
 U5 prog 431 [.one (.ow 0 0),.agg [pts l'],.oi 0] [.blk 227 (Hl c (Uz l) r1)] [.oi 0] [.blk 227 (Hl ⟨c.now,ws,c.ev⟩ (Uz l') (brP l' c.now))]:=by
 have hB:=Qd9 hl hn;have cn:=QZ (T:=227) (c:=c) (r0:=Uz l') (r1:=r1) hc.n;have cb:=IT (c:=c) (r1:=r1) hl hn hc.n;have cg:=YX (T:=227) (r0:=Uz l') (r1:=brP l' c.now) hc hc.n (Iz hc.n) (Yd 0) (hB.p _ hc.n) (hB.n _ hc.n) h;refine Fu func431 rfl ?_;exact Ui [] [0] [.f rfl,.c [0] cn,.c [0] cb,.c [0] cg] rfl
theorem Qm4{lx ly:Ut}{px py:Un}{x y:LV}{d id:Int}{c:Cr}{l:List Pt}{r1:Ut}{ws:List Wt}(hx:IsInts lx px)(hy:IsInts ly py)(hd:Gb x y d)(hk:Cs 4294967294 1073741824 (Crv.mk px py d))(hll:l.length<=900)
 (he:WG l ⟨Crv.norm (Crv.mk px py d),id⟩=0) (hc:CrOk c) (hl:∀p∈put l ⟨Crv.norm (Crv.mk px py d),id⟩,Sc p.c) (hn:(put l ⟨Crv.norm (Crv.mk px py d),id⟩).length≤10) (h:Tj c.l c.now (Fv (pV (put l ⟨Crv.norm (Crv.mk px py d),id⟩) c.now))=some ws) :
 U5 prog 429 [.one (.ow 0 0),.agg [.row lx,.row ly,x,y,.int .i64 id]] [.blk 227 (Hl c (Uz l) r1)] [.oi 0] [.blk 227 (Hl ⟨c.now,ws,c.ev⟩ (Uz (put l ⟨Crv.norm (Crv.mk px py d),id⟩)) (brP (put l ⟨Crv.norm (Crv.mk px py d),id⟩) c.now))]:=by
 have cp:=wR (l:=l) (id:=id) hx hy hd hk (by omega);rw[if_pos he,he]at cp;have cw:=BG (l:=l) (r1:=r1) hc hl hn h;refine Fu func429 rfl ?_;obtain⟨b,l',rfl,rfl,_⟩:=hd;exact Ui [] [0] [.k cp,.c [0] cw] rfl
theorem Qe2{lx ly:Ut}{px py:Un}{x y:LV}{d id:Int}{c:Cr}{l l':List Pt}{r1:Ut}{ws:List Wt}(hx:IsInts lx px)(hy:IsInts ly py)(hd:Gb x y d)(hk:Cs 4294967294 1073741824 (Crv.mk px py d))(hll:l.length<=10)(h:has l id=true)(hc:CrOk c)
 (hl':l'=l.set (Rt l id) (Pt.mk (Crv.norm (Crv.mk px py d)) id)) (hs:∀p∈l',Sc p.c) (hw:Tj c.l c.now (Fv (pV l' c.now))=some ws) :
 U5 prog 430 [.one (.ow 0 0),.agg [.row lx,.row ly,x,y,.int .i64 id]] [.blk 227 (Hl c (Uz l) r1)] [.oi 0] [.blk 227 (Hl ⟨c.now,ws,c.ev⟩ (Uz l') (brP l' c.now))]:=by
 have ct1:=UU (l:=l) hx hy hd hk (by omega) h;rw[<-hl']at ct1;have cw:=BG (c:=c) (l:=l) (l':=l') (r1:=r1) hc hs (by rw[hl',Xd];omega) hw;obtain⟨b,r,rfl,rfl,_⟩:=hd;refine Fu func430 rfl ?_;exact Ui [] [0] [.k ct1,.c [0] cw] rfl
theorem Qe1{id:Int}{c:Cr}{l l':List Pt}{r1:Ut}{ws:List Wt}(hll:l.length<=10)(h:has l id=true)(hc:CrOk c)
 (hl':l'=l.take (Rt l id)++l.drop (Rt l id+1)) (hs:∀p∈l',Sc p.c) (hw:Tj c.l c.now (Fv (pV l' c.now))=some ws) :
 U5 prog 428 [.one (.ow 0 0),.oi id] [.blk 227 (Hl c (Uz l) r1)] [.oi 0] [.blk 227 (Hl ⟨c.now,ws,c.ev⟩ (Uz l') (brP l' c.now))]:=by
 have ct1:=UK (l:=l) (id:=id) (by omega) h;rw[<-hl']at ct1;have cw:=BG (c:=c) (l:=l) (l':=l') (r1:=r1) hc hs (by rw[hl',Qy,Qq,Q7];omega) hw;refine Fu func428 rfl ?_;exact Ui [] [0] [.k ct1,.c [0] cw] rfl
theorem Qbe{c:Cr}{r0:Ut}{r1:Ut}:U5 prog 66 [.one (.ow 0 0)] [.blk 227 (Hl c r0 r1)] [.one (.ow 1 0)] [.blk 227 (Hl c r0 r1),.blk 227 (Hl c r0 r1)]:=by
 refine Fu func66 rfl ?_;exact Ui [] [0,1] [] rfl
theorem xH{np nd:Int}{M:List Pt}{q:Rat}{s t h p d:Cr}(hq:Qs 128 q):U5 prog 32 [.one (.ow 0 0)] (YR 0 np nd M q s t h p d) [.agg (rl q)] (YR 0 np nd M q s t h p d):=by
 refine Fu func32 rfl ?_;exact Ui [] [0,1,2,3,4,5,6] [.k (Ns (hq.mono (by decide)))] rfl
abbrev en2(np nd:Int)(M:List Pt)(q:Rat)(s t h p d:Cr)(np' nd':Int)(M':List Pt)(q':Rat)(s' t' h' p' d':Cr):Uu:=[.blk 80 (mO 0 q),tB np nd M,bS s M q,bT t M q,bH h M q,bP p M q,bD d M q,.blk 80 (mO 7 q'),tB np' nd' M',bS s' M' q',bT t' M' q',bH h' M' q',bP p' M' q',bD d' M' q']
theorem xR{np nd:Int}{M:List Pt}{q:Rat}{s t h p d:Cr}(hq:Qs 128 q):U5 prog 13 [.one (.ow 0 0)] (YR 0 np nd M q s t h p d) [.one (.ow 7 0)] (en2 np nd M q s t h p d np nd M q s t h p d):=by
 refine Fu func13 rfl ?_;exact Ui [] [0,1,2,3,4,5,6,13,7,8,9,10,11,12] [.lo,.c [1,7] Qgc,.lo,.c Uw (xH hq),.lo,.c [2,8] Qfb,.lo,.c [3,9] Qbl,.lo,.c [4,10] Qbb,.lo,.c [5,11] Qbe,.lo,.c [6,12] Qa6] rfl
abbrev anw(S W H P:List Pt)(T:List P3):Us:=[ids (S.map (·.id)),ids (W.map (·.id)),ids (H.map (·.id)),ids (P.map (·.id)),.row (ZQ T)]
theorem Qnf{np nd:Int}{M S W H P:List Pt}{T:List P3}{r2:Ut}{q:Rat}{s t h p d:Cr}(hS:S.length<=1000000)(hH:H.length<=1000000)(hT:T.length<=1000)(hW:W=[]\/∃w,W=[w])(hP:P=[]\/∃a b,P=[a,b]) :
 U5 prog 26 [.one (.ow 0 0)] [.blk 80 (mO 0 q),tB np nd M,.blk 220 (Hl s (Uz M) (Uz S)),.blk 223 (Tr t (Uz M) (W.map Fa,r2)),.blk 225 (Hl h (Uz M) (Uz H)),.blk 227 (Hl p (Uz M) (Uz P)),.blk 229 (Hl d (Uz M) (ZQ T))]
  [.agg (anw S W H P T)] [.blk 80 (mO 0 q),tB np nd M,.blk 220 (Hl s (Uz M) (Uz S)),.blk 223 (Tr t (Uz M) (W.map Fa,r2)),.blk 225 (Hl h (Uz M) (Uz H)),.blk 227 (Hl p (Uz M) (Uz P)),.blk 229 (Hl d (Uz M) (ZQ T))]:=by
 have c1:=Qtr (c:=s) (l:=M) hS;have c2:=Qth (c:=h) (l:=M) hH;have c3:=pL (c:=d) (r0:=Uz M) hT;rcases hW with rfl|⟨w,rfl⟩
 ·have c4:=Qfj (c:=t) (r0:=Uz M) (r2:=r2);rcases hP with rfl|⟨a,b,rfl⟩
  ·have c5:=wH (c:=p) (r0:=Uz M);refine Fu func26 rfl ?_;exact Ui [] [0,1,2,3,4,5,6] [.c [2] c1,.c [4] c2,.c [6] c3,.c [3] c4,.f rfl,.c [5] c5,.f rfl] rfl
  ·have c5:=lH (c:=p) (r0:=Uz M) (a:=a) (b:=b);refine Fu func26 rfl ?_;exact Ui [] [0,1,2,3,4,5,6] [.c [2] c1,.c [4] c2,.c [6] c3,.c [3] c4,.f rfl,.c [5] c5,.t rfl] rfl
 ·have c4:=Qni (c:=t) (r0:=Uz M) (r2:=r2) (w:=w);rcases hP with rfl|⟨a,b,rfl⟩
  ·have c5:=wH (c:=p) (r0:=Uz M);refine Fu func26 rfl ?_;exact Ui [] [0,1,2,3,4,5,6] [.c [2] c1,.c [4] c2,.c [6] c3,.c [3] c4,.t rfl,.c [5] c5,.f rfl] rfl
  ·have c5:=lH (c:=p) (r0:=Uz M) (a:=a) (b:=b);refine Fu func26 rfl ?_;exact Ui [] [0,1,2,3,4,5,6] [.c [2] c1,.c [4] c2,.c [6] c3,.c [3] c4,.t rfl,.c [5] c5,.t rfl] rfl
abbrev Qd5(M:List Pt)(q:Rat):Us:=anw (Ty (tq q) M) (Bh (Fp (tq q)) M).1 (Pe M (tq q)) (ZW (Fp (tq q)) M) (qF (Fp (tq q)) M)
theorem Qas(sg:Un->Int)(M:List Pt):(Bh sg M).1=[]\/∃w,(Bh sg M).1=[w]:=by
 by_cases h:0<M.length
 ·obtain⟨a,ha,_⟩:=Nh sg M.length M (Ql _) h;exact .inr ⟨a,ha⟩
 ·obtain rfl:=Qj (by omega:M.length=0);exact .inl rfl
theorem gR(sg:Un->Int)(M:List Pt):ZW sg M=[]\/∃a b,ZW sg M=[a,b]:=by
 match M with
 | []=>exact .inl rfl
 | [_]=>exact .inl rfl
 |_::_::_=>exact .inr ⟨_,_,rfl⟩
theorem BP{np nd:Int}{M:List Pt}{q:Rat}{s t h p d:Cr}(hM:M.length<=6):U5 prog 26 [.one (.ow 0 0)] (YR 0 np nd M q s t h p d) [.agg (Qd5 M q)] (YR 0 np nd M q s t h p d) :=
 Qnf (by rw[Nk];omega) (by have:=YK M (tq q);omega) (by have:=qG (Fp (tq q)) hM;omega) (Qas _ _) (gR _ _)
theorem Qbf{np nd:Int}{M:List Pt}{q r:Rat}{s t h p d s' t' h' p' d':Cr}{b1 b2:Bool}{r1 r2:Ut}(hq:Qs 128 q)(hM:M.length<=6)
 (ha:U5 prog 17 [.one (.ow 0 0),.agg [.bool b1,.row r1,.bool b2,.row r2]] (YR 0 np nd M q s t h p d) [.oi 0] (YR 0 np nd M r s' t' h' p' d')) :
 U5 prog 20 [.one (.ow 0 0),.agg [.bool b1,.row r1,.bool b2,.row r2]] (YR 0 np nd M q s t h p d) [.agg (Qd5 M r),.oi 0] (YR 0 np nd M q s t h p d):=by
 refine Fu func20 rfl ?_;exact Ui [] [0,1,2,3,4,5,6] [.c Ux (xR hq),.c Uy ha,.f rfl,.c Uy (BP hM)] rfl
abbrev Qs1:Us:=[.row [],.row [],.row [],.row [],.row []]
theorem Qe6{np nd:Int}{M:List Pt}{q:Rat}{s t h p d:Cr}{b1 b2:Bool}{r1 r2:Ut}{e:Int}(he:e≠0)(hq:Qs 128 q)
 (ha:U5 prog 17 [.one (.ow 0 0),.agg [.bool b1,.row r1,.bool b2,.row r2]] (YR 0 np nd M q s t h p d) [.oi e] (YR 0 np nd M q s t h p d)) :
 U5 prog 20 [.one (.ow 0 0),.agg [.bool b1,.row r1,.bool b2,.row r2]] (YR 0 np nd M q s t h p d) [.agg Qs1,.oi e] (YR 0 np nd M q s t h p d):=by
 refine Fu func20 rfl ?_;exact Ui [] [0,1,2,3,4,5,6] [.c Ux (xR hq),.c Uy ha,.t (by simpa using he)] rfl
abbrev Qkk(k i:Nat)(e:Int):LV:=match Nat.blt k i with
 |true=>.int .i64 e
 |false=>.int .i64 0
theorem wV{np nd:Int}{M:List Pt}{q:Rat}{s t h p d:Cr}:U5 prog 22 [.one (.ow 0 0)] (YR 0 np nd M q s t h p d) [.agg [.int .i64 s.ev,.int .i64 t.ev,.int .i64 h.ev,.int .i64 p.ev,.int .i64 d.ev]] (YR 0 np nd M q s t h p d):=by
 refine Fu func22 rfl ?_;refine Ue [.c Uw wS] rfl ?_;refine Uj (S:=Nat) 9 (λL1 i=>(8,.v (.oi i))::L1) (λi=>[.blk 80 (mO 0 q),tB np nd M,bS s M q,bT t M q,bH h M q,bP p M q,bD d M q,.blk 63 [.int .i64 0,.int .i64 0,.int .i64 0,.int .i64 0,.int .i64 0],.blk 63 [Qkk 0 i s.ev,Qkk 1 i t.ev,Qkk 2 i h.ev,Qkk 3 i p.ev,Qkk 4 i d.ev]]) (λi=>5-i) (λi=>i<=5) 0 (by decide) rfl rfl λi hi=>?_
 rcases(show i=0\/i=1\/i=2\/i=3\/i=4\/i=5 by omega)with rfl|rfl|rfl|rfl|rfl|rfl
 ·exact go tt [.t rfl,.i 0,.c [2] YJ,.i 0] rfl (by simp[U0]) (rd 1 (by omega) (by omega) rfl)
 ·exact go tt [.t rfl,.i 1,.c [3] Qbk,.i 1] rfl (by simp[U0]) (rd 2 (by omega) (by omega) rfl)
 ·exact go tt [.t rfl,.i 2,.c [4] YJ,.i 2] rfl (by simp[U0]) (rd 3 (by omega) (by omega) rfl)
 ·exact go tt [.t rfl,.i 3,.c [5] YJ,.i 3] rfl (by simp[U0]) (rd 4 (by omega) (by omega) rfl)
 ·exact go tt [.t rfl,.i 4,.c [6] YJ,.i 4] rfl (by simp[U0]) (rd 5 (by omega) (by omega) rfl)
 ·exact Ui [] [0,1,2,3,4,5,6] [.f rfl] rfl
theorem Qrg:∀p∈([]:List Pt),Sc p.c:=λ_ h=>by cases h
theorem Qlv:∀x∈([]:List Ct),Cp x.p:=λ_ h=>by cases h
theorem sN:Uk 193 [.one (.row [])] [.agg [.row []],.oi 0]:=by
 refine Fu func193 rfl ?_;refine Ue [.f rfl] rfl ?_;refine nlb 1 rfl rfl rfl ?_;refine Uj (S:=Unit) 2 (λL1 _=>(14,.v (.oi 0))::L1) (λ_=>[.blk 218 [.nils],.blk 218 [.row []]]) (λ_=>0) (λ_=>True) () trivial rfl rfl λ_ _=>?_
 exact Ug [.f rfl] rfl
abbrev zT(r0 r1 r2:LV):OB:=.blk 223 [.bool false,.nils,.bool false,.nils,.bool false,.nils,.bool false,.nils,.bool false,.nils,.nils,.int .i64 0,r0,r1,r2]
theorem Qre{a:Tm}:U5 prog 254 [.one (.ow 0 0),.agg (ta a),.one (.row [])] [zT (.row []) .nils (.orow 1 10 none),.row false 323 10 []] [.one (.row [])] [zT (.row []) .nils (.orow 1 10 none),.row false 323 10 []]:=by
 refine Fu func254 rfl ?_;exact Ui [] [0,1] [.t rfl] rfl
theorem Qlt{a:Tm}:U5 prog 196 [.one (.ow 0 0),.agg (ta a)] [zT (.row []) .nils .nils] [.one (.row [])] [zT (.row []) (.row []) (.row [])]:=by
 refine Fu func196 rfl ?_;refine Ue [] rfl ?_;refine oz 0 14 323 10 rfl rfl ?_;refine Ue [.k (Il (l:=[])),.c [0,2] (Qre (a:=a)),.o 5 99 7] rfl ?_;refine Uj (S:=Unit) 4 (λL1 _=>(29,.v (.oi 0))::(5,.v (.one (.orow 3 7 none)))::L1) (λ_=>[zT (.row []) (.row []) (.orow 2 10 none),.blk 105 (ta a),.row false 323 10 [],.row false 99 7 []]) (λ_=>0) (λ_=>True) () trivial rfl rfl λ_ _=>?_
 exact Ui [2,3] [0] [.f rfl] rfl
theorem Qlu:Uk 257 [.agg [.row []]] [.one (.row [])]:=mX (l:=[]) (λ_ h=>by cases h) (by decide)
theorem Qsx{a:Tm}(ha:Va a):Uk 251 [.agg (ta a),.one (.row [])] [.one (.row [])]:=wT (l:=[]) Qrg (by decide) ha
theorem Qlr{a:Tm}(ha:Va a):U5 prog 197 [.one (.ow 0 0),.agg (ta a)] [.blk 225 (mS (.row []) .nils)] [.one (.row [])] [.blk 225 (mS (.row []) (.row []))]:=by
 have cn:Uk 256 [.agg (ta a),.one (.row [])] [.one (.row [])]:=lI (R:=[]) Qrg (by decide) ha;have cc:U5 prog 253 [.agg (ta a),.one (.row [])] [] [.one (.orow 0 7 none)] [.row false 99 7 []]:=TO (l:=[]) Qrg (by decide) ha;refine Fu func197 rfl ?_;exact Ui [2] [0] [.k Qlu,.k (Qsx ha),.k cn,.k (Il (l:=[])),.k (Qsx ha),.c [2] cc,.t rfl] rfl
theorem Qls{a:Tm}:U5 prog 198 [.one (.ow 0 0),.agg (ta a)] [.blk 227 (mS (.row []) .nils)] [.one (.row [])] [.blk 227 (mS (.row []) (.row []))]:=by
 refine Fu func198 rfl ?_;refine Ue [.k (Il (l:=[]))] rfl ?_;refine nlc 0 13 rfl rfl rfl ?_;exact Ui [] [0] [.t rfl] rfl
theorem Qlq{a:Tm}:U5 prog 199 [.one (.ow 0 0),.agg (ta a)] [.blk 229 (mS (.row []) .nils)] [.one (.row [])] [.blk 229 (mS (.row []) (.row []))]:=by
 refine Fu func199 rfl ?_;refine Ue [.k Qlu,.o 6 99 7] rfl ?_;refine Uj (S:=Unit) 4 (λL1 _=>(42,.v (.oi 0))::(6,.v (.one (.orow 2 7 none)))::L1) (λ_=>[.blk 229 (mS (.row []) .nils),.blk 105 (ta a),.row false 99 7 [],.mpb (Aw (ZT (Fp a) []))]) (λ_=>0) (λ_=>True) () trivial rfl rfl λ_ _=>?_
 refine Ue [.f rfl] rfl ?_;refine Uj (S:=Unit) 5 (λL1 _=>(97,.v (.oi 0))::(6,.v (.one (.orow 2 7 none)))::L1) (λ_=>[.blk 229 (mS (.row []) .nils),.blk 105 (ta a),.row false 99 7 [],.mpb (Aw (ZT (Fp a) [])),.mpb (I8 (Aw (ZT (Fp a) [])) (VM (Fp a) []))]) (λ_=>0) (λ_=>True) () trivial rfl rfl λ_ _=>?_
 refine Ue [.f rfl] rfl ?_;refine ozM 0 13 84 3 rfl rfl ?_;refine Uj (S:=Unit) 6 (λL1 _=>(174,.v (.oi 0))::L1) (λ_=>[.blk 229 [.bool false,.nils,.bool false,.nils,.bool false,.nils,.bool false,.nils,.bool false,.nils,.nils,.int .i64 0,.row [],.orow 5 3 none],.blk 105 (ta a),.row false 99 7 [],.mpb (Aw (ZT (Fp a) [])),.mpb (I8 (Aw (ZT (Fp a) [])) (VM (Fp a) [])),.row false 84 3 []]) (λ_=>0) (λ_=>True) () trivial rfl rfl λ_ _=>?_
 exact Ui [2,5] [0] [.f rfl] rfl
section
variable{x y x' y':LV}{n d:Int}(h1:Gb x y n)(h2:Gb x' y' d)(bn:Fb n<=4294967295)(bd:Fb d<=4294967295)(ht:Qs 1640000 (Gd n d))
include h1 h2 bn bd ht
theorem Qrd:U5 prog 123 [.agg [x,y,x',y'],.one (.row [])] [] [.one (.ow 0 0),.oi 0] [.blk 220 (Hl ⟨tq (Gd n d),[],0⟩ [] [])]:=by
 have co:=VL h1 h2 bn bd (ht.mono (by decide));have cb:U5 prog 195 [.one (.ow 0 0),.agg (ta (tq (Gd n d)))] [.blk 220 (mS (.row []) .nils)] [.one (.row [])] [.blk 220 (mS (.row []) (.row []))]:=Qbh (l:=[]) Qrg (by decide) (TN ht);have cg:=YZ (T:=220) (r0:=[]) (r1:=[]) (TN ht) Qlv (by decide);obtain⟨b,l1,rfl,rfl,_⟩:=h1;obtain⟨b',l2,rfl,rfl,_⟩:=h2;refine Fu func123 rfl ?_;exact Ui [] [2] [.k sN,.f rfl,.k co,.c [2] cb,.c [2] cg] rfl
theorem Qrf:U5 prog 124 [.agg [x,y,x',y'],.one (.row [])] [] [.one (.ow 0 0),.oi 0] [.blk 223 (Tr ⟨tq (Gd n d),[],0⟩ [] ([],[]))]:=by
 have co:=VL h1 h2 bn bd (ht.mono (by decide));have cg:=Qbi (T:=223) (r0:=[]) (r1:=([],[])) (TN ht) Qlv (by decide);obtain⟨b,l1,rfl,rfl,_⟩:=h1;obtain⟨b',l2,rfl,rfl,_⟩:=h2;refine Fu func124 rfl ?_;exact Ui [] [2] [.k sN,.f rfl,.k co,.c [2] (Qlt (a:=tq (Gd n d))),.c [2] cg] rfl
theorem Qrb:U5 prog 125 [.agg [x,y,x',y'],.one (.row [])] [] [.one (.ow 0 0),.oi 0] [.blk 225 (Hl ⟨tq (Gd n d),[],0⟩ [] [])]:=by
 have co:=VL h1 h2 bn bd (ht.mono (by decide));have cg:=YZ (T:=225) (r0:=[]) (r1:=[]) (TN ht) Qlv (by decide);obtain⟨b,l1,rfl,rfl,_⟩:=h1;obtain⟨b',l2,rfl,rfl,_⟩:=h2;refine Fu func125 rfl ?_;exact Ui [] [2] [.k sN,.f rfl,.k co,.c [2] (Qlr (TN ht)),.c [2] cg] rfl
theorem Qrc:U5 prog 126 [.agg [x,y,x',y'],.one (.row [])] [] [.one (.ow 0 0),.oi 0] [.blk 227 (Hl ⟨tq (Gd n d),[],0⟩ [] [])]:=by
 have co:=VL h1 h2 bn bd (ht.mono (by decide));have cg:=YZ (T:=227) (r0:=[]) (r1:=[]) (TN ht) Qlv (by decide);obtain⟨b,l1,rfl,rfl,_⟩:=h1;obtain⟨b',l2,rfl,rfl,_⟩:=h2;refine Fu func126 rfl ?_;exact Ui [] [2] [.k sN,.f rfl,.k co,.c [2] (Qls (a:=tq (Gd n d))),.c [2] cg] rfl
theorem Qra:U5 prog 127 [.agg [x,y,x',y'],.one (.row [])] [] [.one (.ow 0 0),.oi 0] [.blk 229 (Hl ⟨tq (Gd n d),[],0⟩ [] [])]:=by
 have co:=VL h1 h2 bn bd (ht.mono (by decide));have cg:=YZ (T:=229) (r0:=[]) (r1:=[]) (TN ht) Qlv (by decide);obtain⟨b,l1,rfl,rfl,_⟩:=h1;obtain⟨b',l2,rfl,rfl,_⟩:=h2;refine Fu func127 rfl ?_;exact Ui [] [2] [.k sN,.f rfl,.k co,.c [2] (Qlq (a:=tq (Gd n d))),.c [2] cg] rfl
end
end Orr
namespace Orr
open Go Go.Proofs Tryz Orq
set_option maxRecDepth 10000
theorem Qt6{np nd:Int}(h1:1<=np/\np<=6)(h2:0<=nd/\nd<=2):U5 prog 121 [.oi np,.oi nd] [] [.one (.ow 0 0),.oi 0] [.blk 159 [.int .i64 np,.int .i64 nd,.nils]]:=by
 refine Fu func121 rfl ?_;exact Ui [] [0] [.F,.f (by simp;omega),.f (by simp;omega),.f (by simp;omega)] rfl
theorem Qtf{np nd:Int}(h1:1<=np/\np<=6)(h2:0<=nd/\nd<=2):U5 prog 54 [.oi np,.oi nd] [] [.one (.ow 0 0),.oi 0] (YR 0 np nd [] 0 (Qml [] (tq 0)) (Qxl [] (tq 0)) (Qxj [] (tq 0)) (Qxk [] (tq 0)) (Qxi [] (tq 0))):=by
 have ez:Gd (0:Rat).num ((0:Rat).den:Int)=0:=by decide
 have hq:Qs 1640000 (Gd (0:Rat).num ((0:Rat).den:Int)):=by rw[ez];exact⟨by decide,by decide⟩
 have i1:=U3 (0:Rat).num;have i2:=U3 ((0:Rat).den:Int);have c1:=Qrd i1 i2 (by decide) (by decide) hq;have c2:=Qrf i1 i2 (by decide) (by decide) hq;have c3:=Qrb i1 i2 (by decide) (by decide) hq;have c4:=Qrc i1 i2 (by decide) (by decide) hq;have c5:=Qra i1 i2 (by decide) (by decide) hq;rw[ez]at c1 c2 c3 c4 c5;have ci:=Qt5 (n:=0) (by decide);rw[show((0:Int):Rat)=0 from rfl,Lf]at ci;refine Fu func54 rfl ?_;refine Ue [.c [0] (Qt6 h1 h2),.f rfl] rfl ?_;refine nlc 0 2 rfl rfl rfl ?_;exact Ui [] [1,0,2,3,4,5,6] [.k ci,.c [2] c1,.c [3] c2,.c [4] c3,.c [5] c4,.c [6] c5] rfl
theorem UF{l:Un}(hl:l.length<=1000000):Uk 76 [.one (ids l),.one (ids l)] [.one (.bool true)]:=by
 have hll:(l.map λ(x:Int)=>[LV.int .i64 x]).length=l.length:=by simp
 refine Fu func76 rfl ?_;refine Ue [.f (by simp)] rfl ?_;refine Uj (S:=Nat) 0 (λL1 i=>(14,.v (.oi i))::L1) (λ_=>[]) (λi=>l.length-i) (λi=>i<=l.length) 0 (Qh _) rfl rfl λi hi=>?_
 by_cases h:i<l.length
 ·have hx:=G6 (f:=λ(x:Int)=>[LV.int .i64 x]) (Qe h);refine Uf [.t (by simp;omega),.x hx,.x hx,.f (by simp)] rfl ?_;exact rd (i+1) (by omega) h rfl
 ·exact Ug [.f (by simp;omega)] rfl
theorem Qfq{l:List P3}(hl:l.length<=1000000):Uk 77 [.one (.row (ZQ l)),.one (.row (ZQ l))] [.one (.bool true)]:=by
 have hll:(ZQ l).length=l.length:=by simp[ZQ]
 refine Fu func77 rfl ?_;refine Ue [.f (by simp)] rfl ?_;refine Uj (S:=Nat) 0 (λL1 i=>(14,.v (.oi i))::L1) (λ_=>[]) (λi=>l.length-i) (λi=>i<=l.length) 0 (Qh _) rfl rfl λi hi=>?_
 by_cases h:i<l.length
 ·have hx:=G6 (f:=trL) (Qe h);refine Uf [.t (by simp;omega),.x hx,.x hx,.f (by simp)] rfl ?_;exact rd (i+1) (by omega) h rfl
 ·exact Ug [.f (by simp;omega)] rfl
theorem Qmt{np nd np' nd':Int}{M:List Pt}{q:Rat}{s t h p d s' t' h' p' d':Cr}(hM:M.length≤6)(hok:∀x∈M,Qaw 4294967294 1073741824 x)(hq:Qs 128 q):U5 prog 21 [.one (.ow 0 0),.one (.ow 7 0)] (en2 np nd M q s t h p d np' nd' M q s' t' h' p' d') [.one (.bool true)] (en2 np nd M q s t h p d np' nd' M q s' t' h' p' d'):=by
 have ca:=Qgb (np:=np) (nd:=nd) hok (by omega);have ca':=Qgb (np:=np') (nd:=nd') hok (by omega);have cc:=Cd (a:=q) (b:=q) (hq.mono (by decide)) (hq.mono (by decide));have e0:Hb q q=0:=by rcases Sk q q with⟨e,h⟩|⟨e,h⟩|⟨e,h⟩ <;> grind
 rw[e0]at cc;have hll:(M.map Fa).length=M.length:=by simp
 have l1:(Ty (tq q) M).length<=6:=by rw[Nk];exact hM
 have l3:=YK M (tq q);have l5:=qG (Fp (tq q)) hM;have s1:=UF (l:=(Ty (tq q) M).map (·.id)) (by rw[Q8];omega);have s2:=UF (l:=(Bh (Fp (tq q)) M).1.map (·.id)) (by rw[Q8];rcases Qas (Fp (tq q)) M with e|⟨w,e⟩ <;> rw[e] <;> simp);have s3:=UF (l:=(Pe M (tq q)).map (·.id)) (by rw[Q8];omega);have s4:=UF (l:=(ZW (Fp (tq q)) M).map (·.id)) (by rw[Q8];rcases gR (Fp (tq q)) M with e|⟨a,b,e⟩ <;> rw[e] <;> simp);have s5:=Qfq (l:=qF (Fp (tq q)) M) (by omega);refine Fu func21 rfl ?_;refine Ue [.lo,.c [1] ca,.lo,.c [8] ca',.k cc,.g 31 false rfl,.f (by simp)] rfl ?_;refine Uj (S:=Nat) 14 (λL1 i=>(40,.v (.oi i))::L1) (λ_=>en2 np nd M q s t h p d np' nd' M q s' t' h' p' d') (λi=>M.length-i) (λi=>i<=M.length) 0 (Qh _) rfl rfl λi hi=>?_
 by_cases h:i<M.length
 ·obtain⟨x,hx⟩:=gxE (l:=M) (i:=i) h;have hxo:=hok x (Qc hx);have cs:=lP hxo.1 hxo.1 hxo.2 hxo.2;rw[show Ea x.c x.c=true by simp[Ea]]at cs;refine Uf [.t (by simp;omega),.x (Tf hx),.x (Tf hx),.g 53 false (by simp),.x (Tf hx),.k cs,.f rfl] rfl ?_;exact rd (i+1) (by omega) h rfl
 ·exact Ui [] [0,1,2,3,4,5,6,7,8,9,10,11,12,13] [.f (by simp;omega),.c Uw (BP hM),.c [7,8,9,10,11,12,13] (BP hM),.k s1,.t rfl,.k s2,.t rfl,.k s3,.t rfl,.k s4,.t rfl,.k s5] rfl
def Em.ins(A:Em)(p:Pt):Em×Int:=(if Nn A.np A.nd A.M p=0 then { A with M:=put A.M p }else A,Nn A.np A.nd A.M p)
def Em.rep(A:Em)(p:Pt):Em×Int:=(if M5 A.nd A.M p=0 then { A with M:=A.M.set (Rt A.M p.id) p }else A,M5 A.nd A.M p)
def Em.del(A:Em)(id:Int):Em×Int:=if has A.M id=true then({ A with M:=A.M.take (Rt A.M id)++A.M.drop (Rt A.M id+1) },0)else(A,5)
open Classical in
noncomputable def Em.adv(A:Em)(t:Rat):Em×Int:=if Qs 128 t then(if t<A.q then(A,8)else({ A with q:=t,s:=A.s+(cnt (ZB A.M) A.q t:Nat),t:=A.t+(cnt (IW A.M) A.q t:Nat),h:=A.h+(cnt (AU A.M) A.q t:Nat),p:=A.p+(cnt (pV A.M) A.q t:Nat),d:=A.d+(cnt (kG A.M) A.q t:Nat) },0))else(A,1)
theorem Qso{np nd:Int}{k:Crv}(hn:ZM k)(hnd:nd<=2)(h1:QI k=true)(h2:¬nd<PT k):Sc k:=by
 obtain⟨s1,s2,s3⟩:=EB.1 h1;unfold PT at h2;exact⟨hn,s1,s2,s3,by omega,by omega⟩
theorem Qit{p:Pt}(h:XE p=true):(0<=p.id/\p.id<=1048576)/\QI p.c=true:=by
 simp only[XE,Zn,decide_eq_true_iff]at h;exact⟨⟨h.1,h.2.1⟩,h.2.2⟩
theorem dV{M:List Pt}(hs:Np M){p:Pt}(h:has M p.id=true):Np (M.set (Rt M p.id) p):=by
 have hl:=YL h;have hid:∀(x:Pt),M[Rt M p.id]? = some x->x.id=p.id:=λx hx=>by
  simp only[has,hx]at h;exact of_decide_eq_true h
 unfold Np;rw[Yc];intro i j hi hj hij;rw[Xd]at hi hj;have hx:=Qe hi;have hy:=Qe hj;have hlt:=Qyy hs hij hx hy;rw[List.getElem_set,List.getElem_set]
 split
 ·rename_i e;subst e;rw[if_neg (by omega)];have:=hid _ hx;omega
 ·split
  ·rename_i e;subst e;have:=hid _ hy;omega
  ·exact hlt
theorem XA{M:List Pt}{i:Nat}{p x:Pt}(h:x∈M.set i p):x=p\/x∈M:=by
 rcases Jq h with h|h
 ·exact .inr h
 ·exact .inl h
theorem LY{M:List Pt}{i:Nat}{x:Pt}(h:x∈M.take i++M.drop (i+1)):x∈M:=by
 rcases Qr.1 h with h|h
 ·exact Qn h
 ·exact Qz h
theorem tD{M:List Pt}(hs:Np M)(i:Nat):Np (M.take i++M.drop (i+1)):=by
 have h:=hs;unfold Np at h ⊢;rw[<-Zh i M,Xv]at h;refine Xv.2 ⟨h.1,?_,λx hx y hy=>h.2.2 x hx y ?_⟩
 ·have:M.drop (i+1)=(M.drop i).drop 1:=by rw[Jx]
  rw[this];exact h.2.1.sublist (List.drop_sublist _ _)
 ·have:M.drop (i+1)=(M.drop i).drop 1:=by rw[Jx]
  rw[this]at hy;exact Qz hy
abbrev EnD(f:Nat)(args:Uv)(E:Es)(res:Uv)(E':Es):Prop:=U5 prog f args (enB 0 E) res (enB 0 E')
theorem CE{E:Es}{b:Int}(h:EOk b E){lx ly:Ut}{px py:Un}{x y:LV}{d id:Int}(hx:IsInts lx px)(hy:IsInts ly py)(hd:Gb x y d)(hk:Cs 4294967294 1073741824 (Crv.mk px py d)) :
 ∃E',EOk b E'/\E'.m=(E.m.ins ⟨Crv.norm (Crv.mk px py d),id⟩).1/\EnD 58 [.one (.ow 0 0),.oi id,.agg [.row lx,.row ly,x,y]] E [.one (.int .i64 (E.m.ins ⟨Crv.norm (Crv.mk px py d),id⟩).2)] E':=by
 have hM:=h.m.m;have hl6:=hM.ln;have ct:=Qt7 (np:=E.np) (nd:=E.nd) (l:=E.M) (id:=id) hx hy hd hk (by omega);obtain⟨p,hp⟩:=nmE (Pt.mk (Crv.norm (Crv.mk px py d)) id);have hpn:ZM p.c:=by rw[hp];exact Crv.nml _
 by_cases e:Nn E.np E.nd E.M p=0
 ·have e0:XE p=true/\has E.M p.id=false/\¬E.nd<PT p.c/\¬E.np<=(E.M.length:Int):=by
   unfold Nn at e;by_cases a1:XE p=false
   ·rw[if_pos a1]at e;cases e
   rw[if_neg a1]at e;by_cases a2:has E.M p.id=true
   ·rw[if_pos a2]at e;cases e
   rw[if_neg a2]at e;by_cases a3:E.nd<PT p.c
   ·rw[if_pos a3]at e;cases e
   rw[if_neg a3]at e;by_cases a4:E.np<=(E.M.length:Int)
   ·rw[if_pos a4]at e;cases e
   exact⟨by simpa using a1,by simpa using a2,a3,a4⟩
  obtain⟨f1,f2,f3,f4⟩:=e0;obtain⟨g1,g2⟩:=Qit f1;have hsc:=Qso (np:=E.np) hpn h.nd.2 g2 f3;have hpl:(put E.M p).length<=6:=by rw[oP];have:=h.np.2;omega
  have hM':MOk (put E.M p):=⟨λz hz=>by rcases NX hz with rfl|hz;exact hsc;exact hM.sc z hz,hpl,EG hM.so f2⟩;have hME:MEn E.np E.nd (put E.M p):=⟨hM',by rw[oP];have:=h.np.2;omega,λz hz=>by rcases NX hz with rfl|hz;omega;exact h.m.deg z hz,λz hz=>by rcases NX hz with rfl|hz;exact g1;exact h.m.id z hz⟩;have hpe:WG E.M p=0:=by unfold WG;rw[if_neg (by rw[f2];decide),if_neg (by have:=h.np.2;omega)]
  rw[hp]at e hpe hM' hME hpl;rw[e,if_pos rfl]at ct;obtain⟨w1,l1,a1⟩:=h.s.again okS hM';obtain⟨w2,l2,a2⟩:=h.t.again okT hM';obtain⟨w3,l3,a3⟩:=h.h.again okH hM';obtain⟨w4,l4,a4⟩:=h.p.again okP hM';obtain⟨w5,l5,a5⟩:=h.d.again okD hM';have c1:=Qts (c:=E.s) (l:=E.M) (r1:=IU E.M (tq E.q)) hx hy hd hk (by omega) hpe h.s.st.inv.ok hM'.sc (by omega) l1;have c2:=Qnh (c:=E.t) (l:=E.M) (r1:=pN E.M (tq E.q)) hx hy hd hk (by omega) hpe h.t.st.inv.ok hM'.sc (by omega) l2;have c3:=Qmw (c:=E.h) (l:=E.M) (r1:=brH E.M (tq E.q)) hx hy hd hk (by omega) hpe h.h.st.inv.ok hM'.sc (by omega) l3;have c4:=Qm4 (c:=E.p) (l:=E.M) (r1:=brP E.M (tq E.q)) hx hy hd hk (by omega) hpe h.p.st.inv.ok hM'.sc (by omega) l4;have c5:=Qms (c:=E.d) (l:=E.M) (r1:=pM E.M (tq E.q)) hx hy hd hk (by omega) hpe h.d.st.inv.ok hM'.sc (by omega) l5;rw[h.s.now]at c1;rw[h.t.now]at c2;rw[h.h.now]at c3;rw[h.p.now]at c4;rw[h.d.now]at c5;obtain⟨b1,r,rfl,rfl,_⟩:=hd;refine⟨⟨E.np,E.nd,put E.M ⟨Crv.norm (Crv.mk px py d),id⟩,E.q,⟨tq E.q,w1,E.s.ev⟩,⟨tq E.q,w2,E.t.ev⟩,⟨tq E.q,w3,E.h.ev⟩,⟨tq E.q,w4,E.p.ev⟩,⟨tq E.q,w5,E.d.ev⟩⟩,⟨h.np,h.nd,hME,h.q,a1,a2,a3,a4,a5,h.es,h.et,h.eh,h.ep,h.ed⟩,?_,?_⟩
  ·unfold Em.ins;show _=if Nn E.np E.nd E.M _=0 then _ else _
   rw[if_pos e];rfl
  ·have e2:(E.m.ins ⟨Crv.norm (Crv.mk px py d),id⟩).2=0:=e;rw[e2];exact Qep ct c1 c2 c3 c4 c5
 ·rw[hp]at e;rw[if_neg e]at ct;obtain⟨b1,r,rfl,rfl,_⟩:=hd;refine⟨E,h,?_,Qbc e ct⟩;unfold Em.ins;show _=if Nn E.np E.nd E.M _=0 then _ else _
  rw[if_neg e]
theorem uC{E:Es}{b:Int}(h:EOk b E){lx ly:Ut}{px py:Un}{x y:LV}{d id:Int}(hx:IsInts lx px)(hy:IsInts ly py)(hd:Gb x y d)(hk:Cs 4294967294 1073741824 (Crv.mk px py d)) :
 ∃E',EOk b E'/\E'.m=(E.m.rep ⟨Crv.norm (Crv.mk px py d),id⟩).1/\EnD 49 [.one (.ow 0 0),.oi id,.agg [.row lx,.row ly,x,y]] E [.one (.int .i64 (E.m.rep ⟨Crv.norm (Crv.mk px py d),id⟩).2)] E':=by
 have hM:=h.m.m;have hl6:=hM.ln;have ct:=Qnz (np:=E.np) (nd:=E.nd) (l:=E.M) (id:=id) hx hy hd hk (by omega);obtain⟨p,hp⟩:=nmE (Pt.mk (Crv.norm (Crv.mk px py d)) id);have hpn:ZM p.c:=by rw[hp];exact Crv.nml _
 have hpi:p.id=id:=by rw[hp]
 by_cases e:M5 E.nd E.M p=0
 ·have e0:XE p=true/\has E.M p.id=true/\¬E.nd<PT p.c:=by
   unfold M5 at e;by_cases a1:XE p=false
   ·rw[if_pos a1]at e;cases e
   rw[if_neg a1]at e;by_cases a2:has E.M p.id=false
   ·rw[if_pos a2]at e;cases e
   rw[if_neg a2]at e;by_cases a3:E.nd<PT p.c
   ·rw[if_pos a3]at e;cases e
   exact⟨by simpa using a1,by simpa using a2,a3⟩
  obtain⟨f1,f2,f3⟩:=e0;obtain⟨g1,g2⟩:=Qit f1;have hsc:=Qso (np:=E.np) hpn h.nd.2 g2 f3;have hM':MOk (E.M.set (Rt E.M p.id) p):=⟨λz hz=>by rcases XA hz with rfl|hz;exact hsc;exact hM.sc z hz,by rw[Xd];exact hl6,dV hM.so f2⟩;have hME:MEn E.np E.nd (E.M.set (Rt E.M p.id) p):=⟨hM',by rw[Xd];exact h.m.len,λz hz=>by rcases XA hz with rfl|hz;omega;exact h.m.deg z hz,λz hz=>by rcases XA hz with rfl|hz;exact g1;exact h.m.id z hz⟩;rw[hpi]at f2 hM' hME;rw[hp]at e hM' hME;rw[e,if_pos rfl]at ct;obtain⟨w1,l1,a1⟩:=h.s.again okS hM';obtain⟨w2,l2,a2⟩:=h.t.again okT hM';obtain⟨w3,l3,a3⟩:=h.h.again okH hM';obtain⟨w4,l4,a4⟩:=h.p.again okP hM';obtain⟨w5,l5,a5⟩:=h.d.again okD hM';have c1:=Qm9 (c:=E.s) (l:=E.M) (r1:=IU E.M (tq E.q)) hx hy hd hk (by omega) f2 h.s.st.inv.ok rfl hM'.sc l1;have c2:=Qfi (c:=E.t) (l:=E.M) (r1:=pN E.M (tq E.q)) hx hy hd hk (by omega) f2 h.t.st.inv.ok rfl hM'.sc l2;have c3:=Qen (c:=E.h) (l:=E.M) (r1:=brH E.M (tq E.q)) hx hy hd hk (by omega) f2 h.h.st.inv.ok rfl hM'.sc l3;have c4:=Qe2 (c:=E.p) (l:=E.M) (r1:=brP E.M (tq E.q)) hx hy hd hk (by omega) f2 h.p.st.inv.ok rfl hM'.sc l4;have c5:=Qeh (c:=E.d) (l:=E.M) (r1:=pM E.M (tq E.q)) hx hy hd hk (by omega) f2 h.d.st.inv.ok rfl hM'.sc l5;rw[h.s.now]at c1;rw[h.t.now]at c2;rw[h.h.now]at c3;rw[h.p.now]at c4;rw[h.d.now]at c5;obtain⟨b1,r,rfl,rfl,_⟩:=hd;refine⟨⟨E.np,E.nd,E.M.set (Rt E.M id) ⟨Crv.norm (Crv.mk px py d),id⟩,E.q,⟨tq E.q,w1,E.s.ev⟩,⟨tq E.q,w2,E.t.ev⟩,⟨tq E.q,w3,E.h.ev⟩,⟨tq E.q,w4,E.p.ev⟩,⟨tq E.q,w5,E.d.ev⟩⟩,⟨h.np,h.nd,hME,h.q,a1,a2,a3,a4,a5,h.es,h.et,h.eh,h.ep,h.ed⟩,?_,?_⟩
  ·unfold Em.rep;show _=if M5 E.nd E.M _=0 then _ else _
   rw[if_pos e];rfl
  ·have e2:(E.m.rep ⟨Crv.norm (Crv.mk px py d),id⟩).2=0:=e;rw[e2];exact Qe8 ct c1 c2 c3 c4 c5
 ·rw[hp]at e;rw[if_neg e]at ct;obtain⟨b1,r,rfl,rfl,_⟩:=hd;refine⟨E,h,?_,Qbg e ct⟩;unfold Em.rep;show _=if M5 E.nd E.M _=0 then _ else _
  rw[if_neg e]
theorem Qg8{E:Es}{b id:Int}(h:EOk b E) :
 ∃E',EOk b E'/\E'.m=(E.m.del id).1/\EnD 59 [.one (.ow 0 0),.oi id] E [.one (.int .i64 (E.m.del id).2)] E':=by
 have hM:=h.m.m;have hl6:=hM.ln;by_cases f2:has E.M id=true
 ·have ct:=Qny (np:=E.np) (nd:=E.nd) (l:=E.M) (by omega) f2;have hpl:=YL f2;have hgl:=Qh0 hpl;have hM':MOk (E.M.take (Rt E.M id)++E.M.drop (Rt E.M id+1)):=⟨λz hz=>hM.sc z (LY hz),by omega,tD hM.so _⟩;have hME:MEn E.np E.nd (E.M.take (Rt E.M id)++E.M.drop (Rt E.M id+1)):=⟨hM',by have:=h.m.len;omega,λz hz=>h.m.deg z (LY hz),λz hz=>h.m.id z (LY hz)⟩;obtain⟨w1,l1,a1⟩:=h.s.again okS hM';obtain⟨w2,l2,a2⟩:=h.t.again okT hM';obtain⟨w3,l3,a3⟩:=h.h.again okH hM';obtain⟨w4,l4,a4⟩:=h.p.again okP hM';obtain⟨w5,l5,a5⟩:=h.d.again okD hM';have c1:=Qm7 (c:=E.s) (l:=E.M) (r1:=IU E.M (tq E.q)) (by omega) f2 h.s.st.inv.ok rfl hM'.sc l1;have c2:=Qfh (c:=E.t) (l:=E.M) (r1:=pN E.M (tq E.q)) (by omega) f2 h.t.st.inv.ok rfl hM'.sc l2;have c3:=Qem (c:=E.h) (l:=E.M) (r1:=brH E.M (tq E.q)) (by omega) f2 h.h.st.inv.ok rfl hM'.sc l3;have c4:=Qe1 (c:=E.p) (l:=E.M) (r1:=brP E.M (tq E.q)) (by omega) f2 h.p.st.inv.ok rfl hM'.sc l4;have c5:=Qeg (c:=E.d) (l:=E.M) (r1:=pM E.M (tq E.q)) (by omega) f2 h.d.st.inv.ok rfl hM'.sc l5;rw[h.s.now]at c1;rw[h.t.now]at c2;rw[h.h.now]at c3;rw[h.p.now]at c4;rw[h.d.now]at c5;have e2:E.m.del id=({ E.m with M:=E.M.take (Rt E.M id)++E.M.drop (Rt E.M id+1) },0):=if_pos f2;rw[e2];exact⟨⟨E.np,E.nd,E.M.take (Rt E.M id)++E.M.drop (Rt E.M id+1),E.q,⟨tq E.q,w1,E.s.ev⟩,⟨tq E.q,w2,E.t.ev⟩,⟨tq E.q,w3,E.h.ev⟩,⟨tq E.q,w4,E.p.ev⟩,⟨tq E.q,w5,E.d.ev⟩⟩,⟨h.np,h.nd,hME,h.q,a1,a2,a3,a4,a5,h.es,h.et,h.eh,h.ep,h.ed⟩,rfl,Qei ct c1 c2 c3 c4 c5⟩
 ·have e2:E.m.del id=(E.m,5):=if_neg f2;rw[e2];exact⟨E,h,rfl,Qa7 (show(5:Int)≠0 by decide) (Qgd (by omega) (by simpa using f2))⟩
theorem I3{E:Es}{b:Int}(h:EOk b E)(hb:b<=900000000000000000){x0 x1 x2 x3:LV}{n m:Int}{t:Rat}(ha:Gb x0 x1 n)(hc:Gb x2 x3 m)(sa:Fb n<=4294967295)(sb:Fb m<=4294967295)(ht:Gd n m=t) :
 ∃E',EOk (b+67000000) E'/\E'.m=(E.m.adv t).1/\((E.m.adv t).2≠0->E'=E)/\EnD 17 [.one (.ow 0 0),.agg [x0,x1,x2,x3]] E [.one (.int .i64 (E.m.adv t).2)] E':=by
 have hM:=h.m.m;have hl6:=hM.ln;by_cases hs:Qs 128 t
 ·by_cases hp:t<E.q
  ·have e2:E.m.adv t=(E.m,8):=by unfold Em.adv;rw[if_pos hs];exact if_pos hp
   rw[e2];exact⟨E,h.mono (by omega),rfl,λ_=>rfl,AN ha hc sa sb ht hs h.q hp⟩
  ·have hqt:E.q<=t:=Rat.not_lt.1 hp;have e2:E.m.adv t=(({ E.m with q:=t,s:=E.s.ev+(cnt (ZB E.M) E.q t:Nat),t:=E.t.ev+(cnt (IW E.M) E.q t:Nat),h:=E.h.ev+(cnt (AU E.M) E.q t:Nat),p:=E.p.ev+(cnt (pV E.M) E.q t:Nat),d:=E.d.ev+(cnt (kG E.M) E.q t:Nat) }:Em),0):=by unfold Em.adv;rw[if_pos hs];exact if_neg hp
   rw[e2];have hq:Qs 1640000 t:=hs.mono (by decide);obtain⟨K1,d1,k1,g1,a1,v1,u1,_⟩:=h.s.adv okS hM hq hqt;obtain⟨K2,d2,k2,g2,a2,v2,u2,_⟩:=h.t.adv okT hM hq hqt;obtain⟨K3,d3,k3,g3,a3,v3,u3,_⟩:=h.h.adv okH hM hq hqt;obtain⟨K4,d4,k4,g4,a4,v4,u4,_⟩:=h.p.adv okP hM hq hqt;obtain⟨K5,d5,k5,g5,a5,v5,u5,_⟩:=h.d.adv okD hM hq hqt;have hcm:∀{c:Cr},c.now=tq E.q->Fl c.now t<=0:=λ{c} hn=>by
    rw[hn,PU];exact MH.2 hqt
   have c1:=Qtq hq hM.sc (by omega) h.s.st.inv.ok (by have:=h.es;omega) (hcm h.s.now) g1;have c2:=Qng hq hM.sc (by omega) h.t.st.inv.ok (by have:=h.et;omega) (hcm h.t.now) g2;have c3:=Qtg hq hM.sc (by omega) h.h.st.inv.ok (by have:=h.eh;omega) (hcm h.h.now) g3;have c4:=Qm3 hq hM.sc (by omega) h.p.st.inv.ok (by have:=h.ep;omega) (hcm h.p.now) g4;have c5:=Qte hq hM.sc (by omega) h.d.st.inv.ok (by have:=h.ed;omega) (hcm h.d.now) g5;refine⟨⟨E.np,E.nd,E.M,t,d1,d2,d3,d4,d5⟩,⟨h.np,h.nd,h.m,hs,a1,a2,a3,a4,a5,?_,?_,?_,?_,?_⟩,?_,λh=>absurd rfl h,Qa5 ha hc sa sb ht hs h.q hqt c1 c2 c3 c4 c5⟩
   ·have:=h.es;show 0<=d1.ev/\d1.ev<=_;omega
   ·have:=h.et;show 0<=d2.ev/\d2.ev<=_;omega
   ·have:=h.eh;show 0<=d3.ev/\d3.ev<=_;omega
   ·have:=h.ep;show 0<=d4.ev/\d4.ev<=_;omega
   ·have:=h.ed;show 0<=d5.ev/\d5.ev<=_;omega
   ·unfold Es.m;simp only[v1,v2,v3,v4,v5]
 ·have e2:E.m.adv t=(E.m,1):=by unfold Em.adv;exact if_neg hs
  rw[e2];exact⟨E,h.mono (by omega),rfl,λ_=>rfl,xG ha hc sa sb ht hs⟩
noncomputable def Em.ans(A:Em)(t:Rat):Us:=if (A.adv t).2=0 then Qd5 A.M t else Qs1
theorem jF{E:Es}{b:Int}(h:EOk b E)(hb:b<=900000000000000000){x0 x1 x2 x3:LV}{n m:Int}{t:Rat}(ha:Gb x0 x1 n)(hc:Gb x2 x3 m)(sa:Fb n<=4294967295)(sb:Fb m<=4294967295)(ht:Gd n m=t) :
 EnD 20 [.one (.ow 0 0),.agg [x0,x1,x2,x3]] E [.agg (E.m.ans t),.one (.int .i64 (E.m.adv t).2)] E:=by
 obtain⟨E',h1,h2,h3,h4⟩:=I3 h hb ha hc sa sb ht;obtain⟨b1,r1,rfl,rfl,_⟩:=ha;obtain⟨b2,r2,rfl,rfl,_⟩:=hc;unfold Em.ans;by_cases e:(E.m.adv t).2=0
 ·rw[if_pos e];rw[e]at h4 ⊢;have hs:Qs 128 t/\¬t<E.q:=by
   unfold Em.adv at e;by_cases a:Qs 128 t
   ·rw[if_pos a]at e;by_cases a':t<E.m.q
    ·rw[if_pos a']at e;cases e
    ·exact⟨a,a'⟩
   ·rw[if_neg a]at e;cases e
  have e2:E.m.adv t=(({ E.m with q:=t,s:=E.s.ev+(cnt (ZB E.M) E.q t:Nat),t:=E.t.ev+(cnt (IW E.M) E.q t:Nat),h:=E.h.ev+(cnt (AU E.M) E.q t:Nat),p:=E.p.ev+(cnt (pV E.M) E.q t:Nat),d:=E.d.ev+(cnt (kG E.M) E.q t:Nat) }:Em),0):=by unfold Em.adv;rw[if_pos hs.1];exact if_neg hs.2
  rw[e2]at h2;obtain⟨np,nd,M,q,s,u,v,p,d⟩:=E';unfold Es.m at h2;injection h2 with i1 i2 i3 i4;dsimp only at i1 i2 i3 i4;subst i1 i2 i3 i4;exact Qbf h.q h.m.m.ln h4
 ·rw[if_neg e];rw[h3 e]at h4;exact Qe6 e h.q h4
end Orr
namespace Orr
open Go Go.Proofs Tryz Orq
set_option maxRecDepth 10000
abbrev Qup(E F:Es):Uu:=en2 E.np E.nd E.M E.q E.s E.t E.h E.p E.d F.np F.nd F.M F.q F.s F.t F.h F.p F.d
theorem Qvu{E:Es}{b:Int}(h:EOk b E):∀x∈E.M,Qaw 4294967294 1073741824 x:=λx hx=>by
 have:=h.m.m.sc x hx;exact⟨this.n,this.c.mono (by decide) (by decide)⟩
theorem Qun{E F:Es}{b:Int}(h:EOk b E)(hM:F.M=E.M)(hq:F.q=E.q):U5 prog 21 [.one (.ow 0 0),.one (.ow 7 0)] (Qup E F) [.one (.bool true)] (Qup E F):=by
 obtain⟨np,nd,M,q,s,t,v,p,d⟩:=F;dsimp only at hM hq;subst hM hq;exact Qmt h.m.m.ln (Qvu h) h.q
theorem Qoi{E:Es}{b:Int}(h:EOk b E):U5 prog 13 [.one (.ow 0 0)] (enB 0 E) [.one (.ow 7 0)] (Qup E E):=xR h.q
abbrev Q0e(A:Em):Us:=[.int .i64 A.s,.int .i64 A.t,.int .i64 A.h,.int .i64 A.p,.int .i64 A.d]
theorem uB{E:Es}:EnD 22 [.one (.ow 0 0)] E [.agg (Q0e E.m)] E:=wV
def vI(z:RawInt):Int:=U9 z.b (val z.l)
def RawInt.cutN(z:RawInt)(n:Nat):RawInt:=⟨z.b,z.l.take n⟩
theorem RawInt.Ok.cutN_ok{z:RawInt}(h:z.Ok)(n:Nat):(z.cutN n).Ok:=⟨λu hu=>h.u u (Qn hu)⟩
theorem YP{z:RawInt}(h:z.Ok):Gb (.bool z.b) (.row (lm z.l)) (vI z):=⟨z.b,z.l,rfl,rfl,h.u,rfl⟩
theorem MC{z:RawInt}(h:z.Ok){n:Nat}(hl:z.l.length<=n):Fb (vI z)<=32*n:=by
 have h1:=Bq z.l h.u;have e:(vI z).natAbs=val z.l:=by unfold vI U9;split <;> simp
 refine T0.2 ?_;rw[e,Ks];exact Z6 h1 (Zs (by decide) hl)
theorem ZO(z:RawInt)(n:Nat):(z.cutN n).l.length<=n:=by show(z.l.take n).length<=n;rw[Qq];omega
theorem MV{z:RawInt}{n:Nat}(hn:n<=1000):Uk 203 [.agg (Lz z),.oi n] [.agg (Lz (z.cutN n))] :=
 Uh func203 rfl [.k (Qtz (l:=z.l) hn)] rfl
theorem Qnm{t u:RawInt}:Uk 131 [.agg (Lz t++Lz u),.oi 6] [.agg (Lz (t.cutN 6)++Lz (u.cutN 6))] :=
 Uh func131 rfl [.k (MV (z:=t) (n:=6) (by decide)),.k (MV (z:=u) (n:=6) (by decide))] rfl
theorem wM{l:List RawInt}:Uk 202 [.one (.row (Ij l)),.oi 4,.oi 1] [.one (.row (Ij ((l.take 4).map (·.cutN 1))))]:=by
 have hll:=Oz l;refine Fu func202 rfl (ln 0 rfl rfl λhzl=>?_);rw[hll]at hzl;refine Ue [.o 7 36 2] rfl ?_;refine Uj (S:=Nat) 1 (λL1 i=>(8,.v (.oi i))::(7,.v (.one (.orow 0 2 none)))::L1) (λi=>[.row false 36 2 (Ij ((l.take i).map (·.cutN 1)))]) (λi=>4-i) (λi=>i<=4/\i<=l.length) 0 ⟨by decide,Qh _⟩ rfl rfl λi ⟨hi,hi2⟩=>?_
 have hil:(Ij ((l.take i).map (·.cutN 1))).length=i:=by rw[Oz,Q8,Qq];omega
 by_cases h1:i<l.length
 ·by_cases h2:i<4
  ·obtain⟨z,hz⟩:=gxE (l:=l) (i:=i) h1;have hm:∀y∈[Lz (z.cutN 1)],y.length=2:=λy hy=>by rw[Qk.1 hy];rfl
   refine go tt [.g 13 true Um,.T,.x (G6 (f:=Lz) hz),.k (MV (n:=1) (by decide)),.s (sz:=2) hm] rfl (by simp[U0,hil,-List.map_take];omega) ?_;exact rd (i+1) (by omega) ⟨h2,h1⟩ (by rw[Z2,hz];simp[Ij];rfl)
  ·have e:i=4:=by omega
   have e2:l.take 4=l.take i:=by rw[e]
   rw[e2];exact Ug [.g 13 true Um,.F] rfl
 ·have e:l.take i=l.take 4:=by rw[Qo (by omega),Qo (by omega)]
  rw[e];exact Ug [.g 13 false Ul,.f rfl] rfl
theorem Qtd{z:RawPt}:Uk 129 [.agg (rcw z),.oi 4,.oi 1] [.agg [.row (Ij ((z.x.take 4).map (·.cutN 1))),.row (Ij ((z.y.take 4).map (·.cutN 1))),.bool z.d.b,.row (lm (z.d.l.take 1))]] :=
 Uh func129 rfl [.k (wM (l:=z.x)),.k (wM (l:=z.y)),.k (MV (z:=z.d) (n:=1) (by decide))] rfl
theorem KO:∀{l:List RawInt},(∀z∈l,z.Ok)->IsInts (Ij l) (l.map vI)
 | [],_=>trivial
 |z::l,h=>⟨⟨_,_,rfl,YP (h z (Qx ..))⟩,KO λy hy=>h y (Qg _ hy)⟩
theorem IH{x y:LV}{z:Int}(h:Gb x y z)(hl:∀l,y=.row (lm l)->l.length<=1000):Uk 74 [.agg [x,y]] [.agg (ri z)]:=by
 obtain⟨b,l,rfl,rfl,hs,rfl⟩:=h;have hl:=hl l rfl;have hv:=Bq l hs;have hsz:sz (val l)<=100000000:=by
  refine Qa ((Nl (k:=32*l.length)).2 ?_) (by omega);rw[Ks];exact hv
 exact Uh func74 rfl [.k (Qmu hs (by omega) hsz),.k (Nq b (val l))] rfl
theorem xT{x y x' y':LV}{a b:Int}(h:Gb x y a)(h':Gb x' y' b)(hl:∀l,y=.row (lm l)->l.length<=1000)(hl':∀l,y'=.row (lm l)->l.length<=1000)(sa:Fb a<=90000000)(sb:Fb b<=90000000):Uk 19 [.agg [x,y,x',y']] [.agg (fr (Gd a b))]:=by
 have c1:=IH h hl;have c2:=IH h' hl';have c3:=YY sa sb;obtain⟨b1,l1,rfl,rfl,_⟩:=h;obtain⟨b2,l2,rfl,rfl,_⟩:=h';exact Uh func19 rfl [.k c1,.k c2,.k c3] rfl
theorem Qik{a b:Up}(h:LV.row (lm a)=.row (lm b)):a.length=b.length:=by
 injection h with h;have:=congrArg List.length h;simpa[lm]using this
theorem wW{q:Rat}(hq:Qs 30000 q):Uk 19 [.agg (rl q)] [.agg (fr q)]:=by
 have e:Gd q.num (q.den:Int)=q:=by
  unfold Gd;rw[if_neg (by have:=q.den_pos;omega)];exact Z1 q
 have ln:∀{z:Int},Fb z<=30000->∀l,mg z=.row (lm l)->l.length<=1000:=λ{z} hz l h=>by
  have h1:=Ta (x:=z.natAbs) (k:=30000) hz;have:=Qik h;omega
 have h:=xT (U3 q.num) (U3 (q.den:Int)) (ln hq.1) (ln hq.2) (Qa hq.1 (by decide)) (Qa hq.2 (by decide));rw[e]at h;exact h
theorem Qi1{m b:Nat}(hb:0<b)(h:0<m % b):(-(m:Int)) % (b:Int)=-((m % b:Nat):Int)+(b:Int):=by
 have h1:=Z5 m hb;have h2:=Wg m b;have e:-(m:Int)=(-((m % b:Nat):Int)+(b:Int))+(b:Int)*(-((m / b:Nat):Int)-1):=by
  have:(m:Int)=((m % b:Nat):Int)+(b:Int)*((m / b:Nat):Int):=by
   have:=congrArg (λ(n:Nat)=>(n:Int)) h2
   push_cast at this ⊢
   omega
  rw[Int.mul_sub,V7];omega
 rw[e,Int.add_mul_emod_self_left];exact Int.emod_eq_of_lt (by omega) (by omega)
theorem Qbn{a:Int}{b:Nat}(ha:Fb a<=90000000)(hb:Fb (b:Int)<=90000000)(h0:0<b):∃x,Uk 135 [.agg (ri a),.agg (ri (b:Int))] [.agg (ri x),.agg (ri (a % (b:Int)))]:=by
 have cd:=pA (x:=a.natAbs) (y:=(b:Int).natAbs) ha hb (by omega);have eb:(b:Int).natAbs=b:=rfl;have sb:sg (b:Int)=.bool false:=by unfold sg;rw[decide_eq_false (by omega)]
 rw[eb]at cd;have hml:=Z5 a.natAbs h0;rcases Kd a 0 with hn|hn
 ·have sa:sg a=.bool true:=by unfold sg;rw[decide_eq_true hn]
  have m1:=Nq true (a.natAbs / b);have m2:=Nq true (a.natAbs % b);have ea:a=-(a.natAbs:Int):=by omega
  by_cases hr:a.natAbs % b=0
  ·have e:a % (b:Int)=0:=by
    rw[ea];exact Jy ((Int.dvd_neg).2 (Int.ofNat_dvd.2 (Nat.dvd_of_mod_eq_zero hr)))
   rw[e];refine⟨U9 true (a.natAbs / b),?_⟩;rw[hr]at m2 cd;rw[show U9 true 0=0 from rfl]at m2;show Uk 135 [.agg [nd a.natAbs,sg a],.agg [nd (b:Int).natAbs,sg (b:Int)]] _;rw[sa,sb,eb];exact Uh func135 rfl [.k cd,.k m1,.k m2,.t rfl] rfl
  ·have e:=Qi1 h0 (by omega:0<a.natAbs % b);rw[<-ea]at e;have os:U9 true (a.natAbs % b)=-((a.natAbs % b:Nat):Int):=rfl;have ng:decide (U9 true (a.natAbs % b)<0)=true:=by rw[os];exact decide_eq_true (by omega)
   have hsm:Fb (U9 true (a.natAbs % b))<=200000000:=by
    rw[os,Hj];exact Qa (Rf (Nat.mod_le _ _)) (Qa ha (by decide))
   have hsd:Fb (U9 true (a.natAbs / b))<=200000000:=by
    show Fb (-((a.natAbs / b:Nat):Int))<=_;rw[Hj];exact Qa (Rf (Jr _ _)) (Qa ha (by decide))
   have c1:=ZD (n:=1) (by decide);have c2:=Qfs (a:=U9 true (a.natAbs / b)) (b:=1) hsd (by decide);have c3:=mJ (a:=U9 true (a.natAbs % b)) (b:=(b:Int)) hsm (Qa hb (by decide));rw[os,<-e]at c3;rw[os]at m2 ng;refine⟨U9 true (a.natAbs / b)-1,?_⟩;show Uk 135 [.agg [nd a.natAbs,sg a],.agg [nd (b:Int).natAbs,sg (b:Int)]] _;have c3':Uk 115 [.agg (ri (-((a.natAbs % b:Nat):Int))),.agg [nd b,.bool false]] [.agg (ri (a % (b:Int)))]:=by rw[<-sb];exact c3
   rw[sa,sb,eb];exact Uh func135 rfl [.k cd,.k m1,.k m2,.f (show(!decide (-((a.natAbs % b:Nat):Int)<0))=false by rw[ng];rfl),.f rfl,.k c1,.k c2,.k c3'] rfl
 ·have sa:sg a=.bool false:=by unfold sg;rw[decide_eq_false (by omega)]
  have m1:=Nq false (a.natAbs / b);have m2:=Nq false (a.natAbs % b);have ea:a=(a.natAbs:Int):=by omega
  have e:a % (b:Int)=((a.natAbs % b:Nat):Int):=by rw[ea];rfl
  have os:U9 false (a.natAbs % b)=((a.natAbs % b:Nat):Int):=rfl;have ng:decide (((a.natAbs % b:Nat):Int)<0)=false:=decide_eq_false (by omega);rw[e];rw[os]at m2;refine⟨U9 false (a.natAbs / b),?_⟩;show Uk 135 [.agg [nd a.natAbs,sg a],.agg [nd (b:Int).natAbs,sg (b:Int)]] _;rw[sa,sb,eb];exact Uh func135 rfl [.k cd,.k m1,.k m2,.t (show(!decide (((a.natAbs % b:Nat):Int)<0))=true by rw[ng];rfl)] rfl
def SB(x:Rat):Rat:=Gd (x.num % (x.den:Int)) (x.den:Int)
theorem oD{x:Rat}(h:Qs 128 x):Qs 128 (SB x):=by
 have h0:=x.den_pos;have h1:=Ye x.num (b:=(x.den:Int)) (by omega);have h2:=Jt x.num (b:=(x.den:Int)) (by omega);unfold SB Gd;rw[if_neg (by omega)];refine⟨Rw (Qa (Rf (by omega)) h.2),Rv h.2 (by decide)⟩
theorem Qnr{x y x' y':LV}{a b:Int}(h:Gb x y a)(h':Gb x' y' b)(hl:∀l,y=.row (lm l)->l.length<=1000)(hl':∀l,y'=.row (lm l)->l.length<=1000)(sa:Fb a<=90000000)(sb:Fb b<=90000000)(hq:Qs 128 (Gd a b)):Uk 61 [.agg [x,y,x',y']] [.agg (rl (SB (Gd a b)))]:=by
 have c1:=xT h h' hl hl' sa sb;obtain⟨q,hqe⟩:=nmE (Gd a b);rw[<-hqe]at c1 hq ⊢;have c2:=BM (q:=q) (hq.mono (by decide));obtain⟨z,c3⟩:=Qbn (a:=q.num) (b:=q.den) (Qa hq.1 (by decide)) (Qa hq.2 (by decide)) q.den_pos;have h2:=Jt q.num (b:=(q.den:Int)) (by have:=q.den_pos;omega);have h1:=Ye q.num (b:=(q.den:Int)) (by have:=q.den_pos;omega);have c4:=YY (a:=q.num % (q.den:Int)) (b:=(q.den:Int)) (Qa (Rf (by omega)) (Qa hq.2 (by decide))) (Qa hq.2 (by decide));have c5:=BM (q:=SB q) ((oD hq).mono (by decide));have l1:=ZR.2 hq.1;have l2:(Ga q.den).length<=4:=by simpa using ZR.2 hq.2
 obtain⟨b1,r1,rfl,rfl,_⟩:=h;obtain⟨b2,r2,rfl,rfl,_⟩:=h';exact Uh func61 rfl [.k c1,.k c2,.f (by simp[kR];omega),.f (by simp[kR];omega),.k c3,.k c4,.k c5] rfl
theorem Qnq{x y x' y':LV}{a b:Int}(h:Gb x y a)(h':Gb x' y' b)(hl:∀l,y=.row (lm l)->l.length<=1000)(hl':∀l,y'=.row (lm l)->l.length<=1000)(sa:Fb a<=32000)(sb:Fb b<=32000)(hq:¬Qs 128 (Gd a b)):Uk 61 [.agg [x,y,x',y']] [.agg [x,y,x',y']]:=by
 have c1:=xT h h' hl hl' (Qa sa (by decide)) (Qa sb (by decide));have hs:Qs 32000 (Gd a b):=by
  unfold Gd
  split
  ·exact⟨Rw sa,Rv (by decide) (by decide)⟩
  ·exact⟨Rw sa,Rv sb (by decide)⟩
 obtain⟨q,hqe⟩:=nmE (Gd a b);rw[<-hqe]at c1 hq hs;have c2:=BM (q:=q) (hs.mono (by decide));obtain⟨b1,r1,rfl,rfl,_⟩:=h;obtain⟨b2,r2,rfl,rfl,_⟩:=h';by_cases h1:Fb q.num<=128
 ·have h2:¬Fb (q.den:Int)<=128:=λh=>hq ⟨h1,h⟩
  have l1:=ZR.2 h1;have l2:¬(Ga q.den).length<=4:=by simpa using mt ZR.1 h2
  exact Uh func61 rfl [.k c1,.k c2,.f (by simp[kR];omega),.t (by simp[kR];omega)] rfl
 ·have l1:=mt ZR.1 h1;exact Uh func61 rfl [.k c1,.k c2,.t (by simp[kR];omega),.t rfl] rfl
theorem XP(a:Int):∀i,Fb (a^i)<=Fb a*i+1
 | 0=>by rw[Wz];show Fb 1<=_;exact Qa (by decide) (We 1 _)
 |
  i+1=>by
  rw[Wy];have h1:=Fz (a^i) a;have h2:=XP a i;rw[W5];omega
theorem Qe3{a:Int}{n:Nat}(ha:Fb a<=1000)(hn:n<=256):Uk 209 [.agg (He a),.oi n] [.agg (He (a^n))]:=by
 refine Fu func209 rfl ?_;refine Ue [.k (BU (z:=1) (by decide)),.r 8 (v:=.oi n) (by simp;omega),.r 9 (v:=.oi n) (by simp)] rfl ?_;refine lp (S:=Nat) 3 (λL1 i=>(10,.v (.oi i))::L1) (λi=>[.blk 36 (He a),.blk 36 [.bool false,.nils],.blk 36 (He (a^i))]) (λi=>n-i) (λi=>i<=n) 0 (Qh _) rfl (λ_ _=>rfl) (by rw[Wz];rfl) λi hi=>?_
 by_cases h:i<n
 ·have h1:=XP a i;have h2:Fb a*i<=1000*256:=Zc ha (by omega);have cm:=Px (U3 (a^i)) (U3 a) (by omega) (by omega);rw[<-Wy]at cm;refine Uf [.t (by simp;omega),.k cm] rfl ?_;exact rd (i+1) (by omega) h rfl
 ·obtain rfl:i=n:=by omega
  exact Ug [.f (by simp)] rfl
def Ro(n d:Int):Un->Un×Int
 | []=>([],1)
 |x::l=>(A0 (Gj (Ro n d l).1 [n,d]) [x*(Ro n d l).2],(Ro n d l).2*d)
theorem bJ(n d:Int):∀l,Fc (Ro n d l).1
 | []=>rfl
 |_::_=>Fx _ _
theorem pG{n d:Int}(hn:Fb n<=130)(hd:Fb d<=130):Bd 130 [n,d]:=λz hz=>by
 rcases Qm.1 hz with rfl|hz
 ·exact hn
 ·rw[Qk.1 hz];exact hd
theorem FR{n d:Int}(hn:Fb n<=130)(hd:Fb d<=130){s:Nat}:∀{l:Un},Bd s l->l.length<=8->Bd (s+140*l.length) (Ro n d l).1/\(Ro n d l).1.length<=l.length/\Fb (Ro n d l).2<=130*l.length+1
 | [],_,_=>⟨ZC,Ql _,by show Fb 1<=_;exact Qa (by decide) (We 1 _)⟩
 |
  x::l,h,hl=>by
  rw[Q5]at hl ⊢;obtain⟨h1,h2,h3⟩:=FR hn hd (λz hz=>h z (Qg _ hz)) (by omega:l.length<=8);have hx:=h x (Qx ..);have b1:=Pg (u:=4) h1 (pG hn hd) (by omega);have b2:Bd (s+(130*l.length+1)) [x*(Ro n d l).2]:=λz hz=>by
   rw[Qk.1 hz];have:=Fz x (Ro n d l).2;omega
  refine⟨U4 (YQ b1 b2) (by omega),?_,?_⟩
  ·have h4:=Oa (Gj (Ro n d l).1 [n,d]) [x*(Ro n d l).2];have h5:=Tv (Ro n d l).1 [n,d];simp only[Q5,Jg]at h4 h5;show(A0 _ _).length<=_;omega
  ·have:=Fz (Ro n d l).2 d;show Fb ((Ro n d l).2*d)<=_;omega
theorem Qb5{a:Un}{j:Nat}{x:Int}(h:a[j]? = some x):a.drop j=x::a.drop (j+1):=by
 obtain⟨h1,h2⟩:=Qf.1 h;rw[Zp h1,h2]
theorem Qes{a:Un}{n d:Int}{s:Nat}(ta:Fc a)(ha:Bd s a)(hs:s<=1000)(hl:a.length<=8)(hn:Fb n<=130)(hd:Fb d<=130)(h0:d≠0):Uk 207 [pr a,.agg (He n),.agg (He d)] [pr (Ro n d a).1,.oi 0]:=by
 have nn:=Ml (U3 n) (by omega);have nd:=Ml (U3 d) (by omega);have cn:=Hq (p:=a) ta (by omega) (U4 ha (by omega));have td:Fc [n,d]:=by simp[Fc,trim,h0]
 refine Fu func207 rfl ?_;refine Uf [.k nd,.k (Df (z:=d)),.f (by simpa using h0),.k cn,.z 8,.k nn,.k nd,.k (BU (z:=1) (by decide)),.r 25 (eI (b:=(a.length:Int)-1) (by simp))] rfl ?_;refine lp (S:=Nat) 3 (λL1 j=>(11,.v (.oi ((j:Int)-1)))::(8,.v (pr (Ro n d (a.drop j)).1))::L1) (λj=>[.blk 36 (He n),.blk 36 (He d),.blk 36 (He (Ro n d (a.drop j)).2)]) (λj=>j) (λj=>j<=a.length) a.length (Ql _) rfl (λ_ _=>rfl) (by rw[Yt];rfl) λj hj=>?_
 cases j with
 |zero=>exact Ug [.f (by simp)] rfl
 |
  succ j =>
  obtain⟨x,hx⟩:=gxE (l:=a) (i:=j) (by omega);obtain⟨b1,b2,b3⟩:=FR hn hd (l:=a.drop (j+1)) (λz hz=>ha z (Qz hz)) (by rw[Q7];omega);have hdl:(a.drop (j+1)).length<=8:=by rw[Q7];omega
  have e:Ro n d (a.drop j)=(A0 (Gj (Ro n d (a.drop (j+1))).1 [n,d]) [x*(Ro n d (a.drop (j+1))).2],(Ro n d (a.drop (j+1))).2*d):=by rw[Qb5 hx];rfl
  have e1:(Ro n d (a.drop j)).1=A0 (Gj (Ro n d (a.drop (j+1))).1 [n,d]) [x*(Ro n d (a.drop (j+1))).2]:=by rw[e]
  have e2:(Ro n d (a.drop j)).2=(Ro n d (a.drop (j+1))).2*d:=by rw[e]
  have tm:=bJ n d (a.drop (j+1));obtain⟨P,hP⟩:=nmE ((Ro n d (a.drop (j+1))).1);obtain⟨W,hW⟩:=nmE ((Ro n d (a.drop (j+1))).2);rw[<-hP,<-hW]at e1;rw[<-hW]at e2;rw[<-hP]at b1 b2 tm;rw[<-hW]at b3;have hxs:=ha x (Qc hx);have c1:=KG tm td (by omega) (by show 2<137438953472;decide) b1 (pG hn hd) (by omega);have c2:=Px (U3 x) (U3 W) (by omega) (by omega);have bm:=Pg (u:=4) b1 (pG hn hd) (by omega);have hm:=Fz x W;have hlm:=Tv P [n,d];simp only[Q5,Jg]at hlm;have c3:=BF (p:=Gj P [n,d]) (q:=[x*W]) (by omega) (by show 1<274877906944;decide) (U4 bm (by omega)) (λz hz=>by rw[Qk.1 hz];omega);rw[<-e1]at c3;have c4:=Px (U3 W) (U3 d) (by omega) (by omega);rw[<-e2]at c4;rw[show((j+1:Nat):Int)-1=(j:Int) by omega,<-hP,<-hW];refine Uf [.t (by simp),.k c1,.x (Pj hx),.k c2,.k c3,.k c4] rfl ?_;exact rd j (by omega) (by omega) rfl
def tJ(px py:Un)(q:Rat):Crv:=⟨Ft (Ro (-q).num ((-q).den:Int) (trim px)).1 (((-q).den:Int)^(max ((trim px).length-1) ((trim py).length-1)-((trim px).length-1))),Ft (Ro (-q).num ((-q).den:Int) (trim py)).1 (((-q).den:Int)^(max ((trim px).length-1) ((trim py).length-1)-((trim py).length-1))),((-q).den:Int)^(max ((trim px).length-1) ((trim py).length-1))⟩
theorem Qe7{lx ly:Ut}{px py:Un}{q:Rat}{s:Nat}(hx:IsInts lx px)(hy:IsInts ly py)(hq:Qs 128 q)(bx:Bd s px)(by_:Bd s py)(hs:s<=1000)(llx:px.length<=8)(lly:py.length<=8) :
 Cs 4294967294 1073741824 (tJ px py q)/\Uk 134 [.one (.row lx),.one (.row ly),.agg (rl q)] [.agg (cl (Crv.norm (tJ px py q)))]:=by
 have cx:=Ca hx (by omega) (U4 bx (by omega));have cy:=Ca hy (by omega) (U4 by_ (by omega));have cg:=Qf7 (q:=q) (hq.mono (by decide));have hnq:Qs 128 (-q):=by
  refine⟨?_,?_⟩
  ·rw[Rat.neg_num,Hj];exact hq.1
  ·rw[Rat.neg_den];exact hq.2
 have hX:Bd s (trim px):=Tw bx;have hY:Bd s (trim py):=Tw by_;have lX:(trim px).length<=8:=Qa (H6 px) llx;have lY:(trim py).length<=8:=Qa (H6 py) lly;have h0:((-q).den:Int)≠0:=by have:=(-q).den_pos;omega
 have hn1:Fb (-q).num<=130:=Qa hnq.1 (by decide);have hd1:Fb ((-q).den:Int)<=130:=Qa hnq.2 (by decide);have m1:=Qes (Rm px) hX hs (by omega) hn1 hd1 h0;have m2:=Qes (Rm py) hY hs (by omega) hn1 hd1 h0;obtain⟨p1,p2,_⟩:=FR hn1 hd1 hX (by omega);obtain⟨q1,q2,_⟩:=FR hn1 hd1 hY (by omega);unfold tJ;obtain⟨D,hD⟩:=nmE (((-q).den:Int));obtain⟨N,hN⟩:=nmE ((-q).num);have hgl:rl (-q)=[sg N,mg N,sg D,mg D]:=by rw[hN,hD]
 rw[hgl]at cg;rw[<-hD,<-hN]at m1 m2 p1 p2 q1 q2 ⊢;rw[<-hD]at hd1;obtain⟨X,hXe⟩:=nmE (trim px);obtain⟨Y,hYe⟩:=nmE (trim py);rw[<-hXe]at cx hX lX m1 p1 p2 ⊢;rw[<-hYe]at cy hY lY m2 q1 q2 ⊢;obtain⟨a,ha⟩:=nmE (X.length-1);obtain⟨b,hb⟩:=nmE (Y.length-1);rw[<-ha,<-hb];obtain⟨k,hk⟩:=nmE (max a b);rw[<-hk];have w1:=Qe3 (a:=D) (n:=k-a) (by omega) (by omega);have w2:=Qe3 (a:=D) (n:=k-b) (by omega) (by omega);have w3:=Qe3 (a:=D) (n:=k) (by omega) (by omega);have z1:=XP D (k-a);have z2:=XP D (k-b);have z3:=XP D k;have y1:Fb D*(k-a)<=130*8:=Zc hd1 (by omega);have y2:Fb D*(k-b)<=130*8:=Zc hd1 (by omega);have y3:Fb D*k<=130*8:=Zc hd1 (by omega);have s1:=Pn (p:=(Ro N D X).1) (c:=D^(k-a)) (by omega) (U4 p1 (by omega)) (by omega);have s2:=Pn (p:=(Ro N D Y).1) (c:=D^(k-b)) (by omega) (U4 q1 (by omega)) (by omega);have e1:=Ge p1 (c:=D^(k-a)) (Ql _);have e2:=Ge q1 (c:=D^(k-b)) (Ql _);have f1:=Fw (Ro N D X).1 (D^(k-a));have f2:=Fw (Ro N D Y).1 (D^(k-b));have hcs:Cs 4294967294 1073741824 ⟨Ft (Ro N D X).1 (D^(k-a)),Ft (Ro N D Y).1 (D^(k-b)),D^k⟩:=⟨U4 e1 (by omega),U4 e2 (by omega),by show Fb (D^k)<=_;omega,by show(Ft _ _).length<=_;omega,by show(Ft _ _).length<=_;omega⟩;refine⟨hcs,?_⟩;have cn:=MY (Gm _) (Gm _) (U3 _) hcs;have ek:((max a b:Nat):Int)=(k:Int):=by rw[hk]
 exact Uh func134 rfl [.k cx,.k cy,.k cg,.k m1,.k m2,.k (P7 X),.r 40 (eI (b:=(a:Int)) (by omega)),.k (P7 Y),.r 43 (eI (b:=(b:Int)) (by omega)),.r 46 (eI (b:=(k:Int)) (by omega)),.r 52 (eI (b:=((k-a:Nat):Int)) (by omega)),.k w1,.k s1,.r 60 (eI (b:=((k-b:Nat):Int)) (by omega)),.k w2,.k s2,.k w3,.k cn] rfl rfl (by simp[U0];omega)
theorem Qui{E:Es}{b:Int}(h:EOk b E){lx ly:Ut}{px py:Un}{s:Nat}{id:Int}(hx:IsInts lx px)(hy:IsInts ly py)(bx:Bd s px)(by_:Bd s py)(hs:s<=1000)(llx:px.length<=8)(lly:py.length<=8) :
 ∃E',EOk b E'/\E'.m=(E.m.rep ⟨Crv.norm (tJ px py E.q),id⟩).1/\EnD 60 [.one (.ow 0 0),.oi id,.one (.row lx),.one (.row ly)] E [.one (.int .i64 (E.m.rep ⟨Crv.norm (tJ px py E.q),id⟩).2)] E':=by
 obtain⟨hc,cr⟩:=Qe7 hx hy h.q bx by_ hs llx lly;have hcn:=hc.norm (by omega);have hnm:=Crv.nml (tJ px py E.q);obtain⟨C,hC⟩:=nmE (Crv.norm (tJ px py E.q));rw[<-hC]at cr hcn hnm ⊢;obtain⟨E',h1,h2,h3⟩:=uC h (id:=id) (Gm C.x) (Gm C.y) (U3 C.d) hcn;have eC:Crv.norm (Crv.mk C.x C.y C.d)=C:=Crv.norm_of hnm;rw[eC]at h2 h3;refine⟨E',h1,h2,?_⟩;refine Fu func60 rfl ?_;exact Ui [] [0,1,2,3,4,5,6] [.k cr,.c Uw h3] rfl
end Orr
namespace Orr
open Go
structure RawOp where
 k:Int
 n:Int
 d:Int
 p:RawPt
 t:RawInt
 u:RawInt
structure RawOp.Ok(o:RawOp):Prop where
 k:-9223372036854775808<=o.k/\o.k<=9223372036854775807
 n:-9223372036854775808<=o.n/\o.n<=9223372036854775807
 d:-9223372036854775808<=o.d/\o.d<=9223372036854775807
 p:o.p.Ok
 t:o.t.Ok
 u:o.u.Ok
abbrev rwo(o:RawOp):Us:=[.int .i64 o.k,.int .i64 o.n,.int .i64 o.d]++rwq o.p++Lz o.t++Lz o.u
def qM(l:List RawOp):Ut:=l.map rwo
theorem Qcy(l:List RawOp):(qM l).length=l.length:=by simp[qM]
theorem Qcx{l:List RawOp}{i:Nat}{o:RawOp}(h:l[i]? = some o):(qM l)[i]? = some (rwo o):=by rw[qM,Q9,h];rfl
end Orr
namespace Orr
open Go Go.Proofs Tryz Orq
set_option maxRecDepth 10000
def Od(N:Int):Int:=if N=2 then 999 else if N=3 then 99 else 20
theorem gW(N:Int):0<=Od N/\Od N<=999:=by unfold Od;split;decide;split;decide;decide
def UM(N:Int)(z:RawPt):Crv:=if 1<N then ⟨Gn (Od N) z.x++(if 3<z.x.length then [1]else []),Gn (Od N) z.y,Hz 3 z.d⟩else ⟨((z.x.take 4).map (·.cutN 1)).map vI,((z.y.take 4).map (·.cutN 1)).map vI,vI (z.d.cutN 1)⟩
theorem Qj4{l:List RawInt}(h:∀a∈l,a.Ok):∀z∈(l.take 4).map (·.cutN 1),z.Ok:=λz hz=>by
 obtain⟨y,hy,rfl⟩:=Za.1 hz;exact(h y (Qn hy)).cutN_ok 1
theorem Qj3{l:List RawInt}(h:∀a∈l,a.Ok):Bd 40 (((l.take 4).map (·.cutN 1)).map vI):=λz hz=>by
 obtain⟨y,hy,rfl⟩:=Za.1 hz;obtain⟨x,hx,rfl⟩:=Za.1 hy;exact Qa (MC ((h x (Qn hx)).cutN_ok 1) (ZO x 1)) (by decide)
theorem Qn6{N:Int}{z:RawPt}(hz:z.Ok):Cs 40 4 (UM N z):=by
 unfold UM
 split
 ·have h:=Qbz (gW N) z.x z.y z.d;refine⟨λy hy=>?_,U4 h.y (by decide),Qa h.d (by decide),?_,Qa h.ly (by decide)⟩
  ·rcases Qr.1 hy with hy|hy
   ·exact Qa (h.x y hy) (by decide)
   ·split at hy
    ·rw[Qk.1 hy];decide
    ·cases hy
  ·have:=h.lx;have h2:(Gn (Od N) z.x).length<=3:=this;show(_++_:Un).length<=4;rw[Qy]
   split <;> simp <;> omega
 ·exact⟨Qj3 hz.x,Qj3 hz.y,Qa (MC (hz.d.cutN_ok 1) (ZO z.d 1)) (by decide),by show(List.map _ _).length<=4;rw[Q8,Q8,Qq];omega,by show(List.map _ _).length<=4;rw[Q8,Q8,Qq];omega⟩
def sL(o:RawOp):Int:=if Pd o.k 12<10 then Pd o.p.id 6 else o.p.id
abbrev Qub(o:RawOp)(lx ly:Ut)(bb:Bool)(l3:Ut):Us:=[.int .i64 o.k,.int .i64 o.n,.int .i64 o.d,.row lx,.row ly,.bool bb,.row l3,.int .i64 (sL o)]++Lz (o.t.cutN 6)++Lz (o.u.cutN 6)
abbrev iE(ms:Us)(N:Int):Us:=[.ow 0 0,.sh ms,.int .i64 N]
theorem yX{most:Int}{l:List RawInt}(h:3<l.length):(Gn most l).length=3:=by unfold Gn;rw[List.length_map,List.length_take];omega
abbrev Qsi:Us:=[.bool false,.row [[.int .u32 1]]]
theorem nS{p:Un}:IsInts (p.map He++[Qsi]) (p++[1]):=(Gm p).append ⟨⟨_,_,rfl,false,[1],rfl,rfl,(λx hx=>by rw[Qk.1 hx];decide),rfl⟩,trivial⟩
theorem Qbd{z:RawPt}(hz:z.Ok){most:Int}(hm:0<=most/\most<=999):U5 prog 130 [.agg (rcw z),.oi most] [] [.agg [.orow 0 2 none,.row (Al (Gn most z.y)),sg (Hz 3 z.d),mg (Hz 3 z.d)]] [.row false 36 2 (Al (Gn most z.x))]:=by
 have hxl:=Oz z.x;have hyl:=Oz z.y;obtain⟨D,hD⟩:=nmE (Hz 3 z.d);have cd:=UG hz.d (most:=3) (by decide);have hx0:∀{i:Nat},z.x.length<=i\/3<=i->Gn most (z.x.take i)=Gn most z.x:=SR most;have hy0:∀{i:Nat},z.y.length<=i\/3<=i->Gn most (z.y.take i)=Gn most z.y:=SR most;rw[<-hD]at cd ⊢;refine Fu func130 rfl ?_;refine Ue [.k cd] rfl ?_;refine oz2 5 0 36 2 rfl rfl ?_;refine Uj (S:=Nat) 4 (λL1 i=>(6,.v (.oi i))::L1) (λi=>[.blk 38 (rcw z),.blk 38 [.nils,.nils,.bool false,.nils],.blk 38 [.orow 3 2 none,.nils,sg D,mg D],.row false 36 2 (Al (Gn most (z.x.take i)))]) (λi=>3-i) (λi=>i<=3/\i<=z.x.length) 0 ⟨by decide,Qh _⟩ rfl rfl λi ⟨hi,hi2⟩=>?_
 have hll:=yZ (most:=most) hi hi2;by_cases hr:i<z.x.length/\i<3
 ·obtain⟨a,ha⟩:=gxE (l:=z.x) (i:=i) hr.1;have hs:∀y∈[He (Hz most a)],y.length=2:=λy hy=>by rw[Qk.1 hy];rfl
  refine go tt [.g 17 true Um,.T,.x (G6 (f:=Lz) ha),.k (UG (hz.x a (Qc ha)) hm),.s (sz:=2) hs] rfl (by simp[U0,hll];omega) ?_;exact rd (i+1) (by omega) ⟨hr.2,hr.1⟩ (by rw[RB hr.2 ha];rfl)
 have hg1:decide ((i:Int)<((Ij z.x).length:Int))=true->i<z.x.length:=λh=>by have:=of_decide_eq_true h;omega
 rw[hx0 (by omega)];clear hll;have hfin:∀{j:Nat},j<=3/\j<=z.y.length->¬(j<z.y.length/\j<3)->Al (Gn most (z.y.take j))=Al (Gn most z.y):=λh1 h2=>by rw[hy0 (by omega)]
 by_cases hxx:i<z.x.length
 ·refine Ue [.g 17 true Um,.F] rfl ?_;refine oz2 5 1 36 2 rfl rfl ?_;refine Uj (S:=Nat) 5 (λL1 j=>(7,.v (.oi j))::L1) (λj=>[.blk 38 (rcw z),.blk 38 [.nils,.nils,.bool false,.nils],.blk 38 [.orow 3 2 none,.orow 4 2 none,sg D,mg D],.row false 36 2 (Al (Gn most z.x)),.row false 36 2 (Al (Gn most (z.y.take j)))]) (λj=>3-j) (λj=>j<=3/\j<=z.y.length) 0 ⟨by decide,Qh _⟩ rfl rfl λj ⟨hj,hj2⟩=>?_
  have hll:=yZ (most:=most) hj hj2;by_cases hr:j<z.y.length/\j<3
  ·obtain⟨a,ha⟩:=gxE (l:=z.y) (i:=j) hr.1;have hs:∀y∈[He (Hz most a)],y.length=2:=λy hy=>by rw[Qk.1 hy];rfl
   refine go tt [.g 40 true Um,.T,.x (G6 (f:=Lz) ha),.k (UG (hz.y a (Qc ha)) hm),.s (sz:=2) hs] rfl (by simp[U0,hll];omega) ?_;exact rd (j+1) (by omega) ⟨hr.2,hr.1⟩ (by rw[RB hr.2 ha];rfl)
  rw[hfin ⟨hj,hj2⟩ hr];by_cases hyy:j<z.y.length
  ·exact Ui [4] [3] [.g 40 true Um,.F] rfl
  ·exact Ui [4] [3] [.g 40 false Ul,.f rfl] rfl
 ·refine Ue [.g 17 false Ul,.f rfl] rfl ?_;refine oz2 5 1 36 2 rfl rfl ?_;refine Uj (S:=Nat) 5 (λL1 j=>(7,.v (.oi j))::L1) (λj=>[.blk 38 (rcw z),.blk 38 [.nils,.nils,.bool false,.nils],.blk 38 [.orow 3 2 none,.orow 4 2 none,sg D,mg D],.row false 36 2 (Al (Gn most z.x)),.row false 36 2 (Al (Gn most (z.y.take j)))]) (λj=>3-j) (λj=>j<=3/\j<=z.y.length) 0 ⟨by decide,Qh _⟩ rfl rfl λj ⟨hj,hj2⟩=>?_
  have hll:=yZ (most:=most) hj hj2;by_cases hr:j<z.y.length/\j<3
  ·obtain⟨a,ha⟩:=gxE (l:=z.y) (i:=j) hr.1;have hs:∀y∈[He (Hz most a)],y.length=2:=λy hy=>by rw[Qk.1 hy];rfl
   refine go tt [.g 40 true Um,.T,.x (G6 (f:=Lz) ha),.k (UG (hz.y a (Qc ha)) hm),.s (sz:=2) hs] rfl (by simp[U0,hll];omega) ?_;exact rd (j+1) (by omega) ⟨hr.2,hr.1⟩ (by rw[RB hr.2 ha];rfl)
  rw[hfin ⟨hj,hj2⟩ hr];by_cases hyy:j<z.y.length
  ·exact Ui [4] [3] [.g 40 true Um,.F] rfl
  ·exact Ui [4] [3] [.g 40 false Ul,.f rfl] rfl
set_option maxHeartbeats 4000000 in
theorem Qtp{E:Es}{N:Int}{o:RawOp}{ms:Us}(hN:1<=N/\N<=4)(ho:o.Ok):∃lx ly bb l3,IsInts lx (UM N o.p).x/\IsInts ly (UM N o.p).y/\Gb (.bool bb) (.row l3) (UM N o.p).d /\
 U5 prog 56 [.agg (iE ms N),.agg (rwo o)] (enB 0 E) [.agg (Qub o lx ly bb l3)] (enB 0 E):=by
 have c4:=Qtd (z:=o.p);have wk:=Cc (v:=o.k) (n:=12) ho.k (by decide);have wi:=Cc (v:=o.p.id) (n:=6) ho.p.id (by decide);have cr:=Qnm (t:=o.t) (u:=o.u);have cl:=Qbd ho.p (most:=Od N) (gW N);obtain⟨i,hi⟩:=nmE (sL o);have hln:(Ij o.p.x).length=o.p.x.length:=Oz _;unfold Qub;rw[<-hi];by_cases h1:1<N
 ·have e1:UM N o.p=⟨Gn (Od N) o.p.x++(if 3<o.p.x.length then [1]else []),Gn (Od N) o.p.y,Hz 3 o.p.d⟩:=if_pos h1;rw[e1];dsimp only;obtain⟨X,hX⟩:=nmE (Gn (Od N) o.p.x);obtain⟨Y,hY⟩:=nmE (Gn (Od N) o.p.y);obtain⟨D,hD⟩:=nmE (Hz 3 o.p.d);have hX3:=yX (most:=Od N) (l:=o.p.x);rw[<-hX]at hX3;rw[<-hX,<-hY,<-hD]at cl ⊢;have e3:∃k:Nat,(k:Int)=min N 4/\[[LV.int .i64 0],[.int .i64 0],[.int .i64 999],[.int .i64 99],[.int .i64 20]][k]? = some [.int .i64 (Od N)]:=by
   rcases(show N=2\/N=3\/N=4 by omega)with rfl|rfl|rfl
   ·exact⟨2,rfl,rfl⟩
   ·exact⟨3,rfl,rfl⟩
   ·exact⟨4,rfl,rfl⟩
  obtain⟨k,k1,k2⟩:=e3;by_cases h3:3<o.p.x.length
  ·rw[if_pos h3];have hX3:=hX3 h3;have hml:(X.map He).length=3:=by rw[Q8];exact hX3
   refine⟨_,_,_,_,nS,Gm Y,U3 D,?_⟩;refine Fu func56 rfl ?_;refine go tt [.k c4,.t (by simpa using h1),.r 19 (eI k1.symm),.x k2,.c [11] cl,.t (by simp;omega)] rfl (by simp only[U0,qU];omega) ?_;refine Uj (S:=Unit) 12 (λL1 _=>L1) (λ_=>enB 0 E++[.blk 27 (iE ms N),.blk 44 (rwo o),.blk 44 [.int .i64 0,.int .i64 0,.int .i64 0,.nils,.nils,.bool false,.nils,.int .i64 0,.bool false,.nils,.bool false,.nils],.blk 38 [.orow 11 2 none,pl Y,sg D,mg D],.row false 36 2 (X.map He++[Qsi])]) (λ_=>0) (λ_=>True) () trivial rfl rfl λ_ _=>?_
   by_cases hk:Pd o.k 12<10
   ·rw[hi,show sL o=Pd o.p.id 6 from if_pos hk];exact Ui [11] [0,1,2,3,4,5,6] [.f (by simp;omega),.k wk,.t (by simpa using hk),.k wi,.k cr] rfl
   ·rw[hi,show sL o=o.p.id from if_neg hk];exact Ui [11] [0,1,2,3,4,5,6] [.f (by simp;omega),.k wk,.f (by simpa using hk),.k cr] rfl
  ·rw[if_neg h3,Zv];refine⟨_,_,_,_,Gm X,Gm Y,U3 D,?_⟩;refine Fu func56 rfl ?_;by_cases hk:Pd o.k 12<10
   ·rw[hi,show sL o=Pd o.p.id 6 from if_pos hk];exact Ui [11] [0,1,2,3,4,5,6] [.k c4,.t (by simpa using h1),.r 19 (eI k1.symm),.x k2,.c [11] cl,.f (by simp;omega),.k wk,.t (by simpa using hk),.k wi,.k cr] rfl
   ·rw[hi,show sL o=o.p.id from if_neg hk];exact Ui [11] [0,1,2,3,4,5,6] [.k c4,.t (by simpa using h1),.r 19 (eI k1.symm),.x k2,.c [11] cl,.f (by simp;omega),.k wk,.f (by simpa using hk),.k cr] rfl
 ·have e1:UM N o.p=⟨((o.p.x.take 4).map (·.cutN 1)).map vI,((o.p.y.take 4).map (·.cutN 1)).map vI,vI (o.p.d.cutN 1)⟩:=if_neg h1;rw[e1];refine⟨_,_,_,_,KO (Qj4 ho.p.x),KO (Qj4 ho.p.y),YP (ho.p.d.cutN_ok 1),?_⟩;refine Fu func56 rfl ?_;by_cases hk:Pd o.k 12<10
  ·rw[hi,show sL o=Pd o.p.id 6 from if_pos hk];exact Ui [] [0,1,2,3,4,5,6] [.k c4,.f (by simpa using h1),.k wk,.t (by simpa using hk),.k wi,.k cr] rfl
  ·rw[hi,show sL o=o.p.id from if_neg hk];exact Ui [] [0,1,2,3,4,5,6] [.k c4,.f (by simpa using h1),.k wk,.f (by simpa using hk),.k cr] rfl
def Iq(o:RawOp)(q:Rat):Rat:=q+Gd (Pd o.n 5-1) (1+Pd o.d 4)
theorem Eu{v n:Int}(h:0<n):0<=Pd v n/\Pd v n<n:=by
 unfold Pd;rw[if_neg (by omega)];exact⟨Ye _ (by omega),Jt _ h⟩
theorem rI{a b:Int}(ha:-10<=a/\a<=10)(hb:-10<=b/\b<=10):Qs 4 (Gd a b):=by
 have sz4:∀z:Int,-10<=z/\z<=10->Fb z<=4:=λz hz=>by
  have h16:(2:Nat)^4=16:=by decide
  exact T0.2 (by omega)
 unfold Gd
 split
 ·exact⟨Rw (sz4 a ha),Rv (by decide) (by decide)⟩
 ·exact⟨Rw (sz4 a ha),Rv (sz4 b hb) (by decide)⟩
theorem rA{o:RawOp}{q:Rat}(h:Qs 128 q):Qs 257 (Iq o q):=by
 have h1:=Eu (v:=o.n) (n:=5) (by decide);have h2:=Eu (v:=o.d) (n:=4) (by decide);have:=Qjz h ((rI (a:=Pd o.n 5-1) (b:=1+Pd o.d 4) (by omega) (by omega)).mono (by decide));exact this
abbrev enP(E:Es)(ms:Us)(N:Int)(o:RawOp)(lx ly:Ut)(bb:Bool)(l3:Ut):Uu:=[.blk 80 (mO 0 E.q),tB E.np E.nd E.M,bS E.s E.M E.q,bT E.t E.M E.q,bH E.h E.M E.q,bP E.p E.M E.q,bD E.d E.M E.q,.blk 27 (iE ms N),.blk 44 (Qub o lx ly bb l3)]
set_option maxHeartbeats 4000000 in
theorem Qnn{E:Es}{N:Int}{o:RawOp}{ms:Us}{lx ly:Ut}{bb:Bool}{l3:Ut}(ho:o.Ok)(hq:Qs 128 E.q):U5 prog 57 [.one (.ow 7 0),.one (.ow 8 0)] (enP E ms N o lx ly bb l3) [.agg (rl (Iq o E.q))] (enP E ms N o lx ly bb l3):=by
 have wn:=Cc (v:=o.n) (n:=5) ho.n (by decide);have wd:=Cc (v:=o.d) (n:=4) ho.d (by decide);have b1:=Eu (v:=o.n) (n:=5) (by decide);have b2:=Eu (v:=o.d) (n:=4) (by decide);have co:=Qrq (n:=Pd o.n 5-1) (d:=1+Pd o.d 4) (by omega) (by omega);have cf:=wW (q:=E.q) (hq.mono (by decide));have ca:=xF (a:=E.q) (b:=Gd (Pd o.n 5-1) (1+Pd o.d 4)) (hq.mono (by decide)) ((rI (by omega) (by omega)).mono (by decide));have ct:=BM (q:=Iq o E.q) ((rA hq).mono (by decide));have cc:=xH (np:=E.np) (nd:=E.nd) (M:=E.M) (s:=E.s) (t:=E.t) (h:=E.h) (p:=E.p) (d:=E.d) hq;refine Fu func57 rfl ?_;exact Ui [] [0,1,2,3,4,5,6,7,8] [.lo,.c Uw cc,.k cf,.k wn,.k wd,.k co,.k ca,.k ct] rfl (by simp[U0];omega)
def PW(o:RawOp):Rat:=Gd (vI (o.t.cutN 6)) (vI (o.u.cutN 6))
open Classical in
noncomputable def nearT(o:RawOp):Rat:=if Qs 128 (PW o)then SB (PW o)else PW o
noncomputable def aloneF(N:Int)(o:RawOp)(A:Em):Em×Int :=
 if Pd o.k 12<3 then A.ins ⟨Crv.norm (UM N o.p),sL o⟩
 else if Pd o.k 12=3 then A.del (sL o)
 else if Pd o.k 12=4 then A.rep ⟨Crv.norm (UM N o.p),sL o⟩
 else if Pd o.k 12=5 then A.rep ⟨Crv.norm (tJ (UM N o.p).x (UM N o.p).y A.q),sL o⟩
 else if Pd o.k 12<9 then A.adv (Iq o A.q)
 else if Pd o.k 12=9 then(A,(A.adv (Iq o A.q)).2)
 else if Pd o.k 12=10 then A.adv (nearT o)
 else(A,(A.adv (nearT o)).2)
theorem Qnp{o:RawOp}(ho:o.Ok):∃x0 x1 x2 x3 n m,Gb x0 x1 n/\Gb x2 x3 m/\Fb n<=4294967295/\Fb m<=4294967295/\Gd n m=nearT o/\Uk 61 [.agg (Lz (o.t.cutN 6)++Lz (o.u.cutN 6))] [.agg [x0,x1,x2,x3]]:=by
 have i1:=YP (ho.t.cutN_ok 6);have i2:=YP (ho.u.cutN_ok 6);have s1:=MC (ho.t.cutN_ok 6) (ZO o.t 6);have s2:=MC (ho.u.cutN_ok 6) (ZO o.u 6);have ln:∀(z:RawInt) l,LV.row (lm (z.cutN 6).l)=.row (lm l)->l.length<=1000:=λz l h=>by
  have:=Qik h;have:=ZO z 6;omega
 by_cases hq:Qs 128 (PW o)
 ·have e:nearT o=SB (PW o):=if_pos hq;have hn:=oD hq;rw[e];exact⟨_,_,_,_,_,_,U3 (SB (PW o)).num,U3 ((SB (PW o)).den:Int),Qa hn.1 (by decide),Qa hn.2 (by decide),Tq _,Qnr i1 i2 (ln o.t) (ln o.u) (by omega) (by omega) hq⟩
 ·have e:nearT o=PW o:=if_neg hq;rw[e];exact⟨_,_,_,_,_,_,i1,i2,by omega,by omega,rfl,Qnq i1 i2 (ln o.t) (ln o.u) (by omega) (by omega) hq⟩
set_option maxHeartbeats 8000000 in
theorem Qoh{E:Es}{b N:Int}{o:RawOp}{ms:Us}(h:EOk b E)(hb:b<=900000000000000000)(hN:1<=N/\N<=4)(ho:o.Ok) :
 ∃E',EOk (b+67000000) E'/\E'.m=(aloneF N o E.m).1/\EnD 12 [.agg (iE ms N),.agg (rwo o)] E [.one (.int .i64 (aloneF N o E.m).2)] E':=by
 obtain⟨lx,ly,bb,l3,i1,i2,i3,cp⟩:=Qtp (E:=E) (ms:=ms) hN ho;have wk:=Cc (v:=o.k) (n:=12) ho.k (by decide);have hW:=Eu (v:=o.k) (n:=12) (by decide);have hcs:=Qn6 (N:=N) ho.p;have hk:Cs 4294967294 1073741824 (Crv.mk (UM N o.p).x (UM N o.p).y (UM N o.p).d):=hcs.mono (by decide) (by decide);have cla:=Qnn (E:=E) (N:=N) (ms:=ms) (lx:=lx) (ly:=ly) (bb:=bb) (l3:=l3) ho h.q;have hla:=rA (o:=o) h.q;obtain⟨x0,x1,x2,x3,n,m,n1,n2,n3,n4,n5,cnr⟩:=Qnp ho;have eq_:E.m.q=E.q:=rfl;unfold aloneF;rw[eq_];obtain⟨W,hWe⟩:=nmE (Pd o.k 12);rw[<-hWe]at wk hW ⊢;by_cases w0:W<3
 ·rw[if_pos w0];obtain⟨E',g1,g2,g3⟩:=CE h (id:=sL o) i1 i2 i3 hk;refine⟨E',g1.mono (by omega),g2,?_⟩;refine Fu func12 rfl ?_;exact Ui [] [0,1,2,3,4,5,6] [.c Uw cp,.k wk,.T,.c Uw g3] rfl
 rw[if_neg w0];by_cases w1:W=3
 ·rw[if_pos w1];obtain⟨E',g1,g2,g3⟩:=Qg8 h (id:=sL o);refine⟨E',g1.mono (by omega),g2,?_⟩;refine Fu func12 rfl ?_;exact Ui [] [0,1,2,3,4,5,6] [.c Uw cp,.k wk,.F,.T,.c Uw g3] rfl
 rw[if_neg w1];by_cases w2:W=4
 ·rw[if_pos w2];obtain⟨E',g1,g2,g3⟩:=uC h (id:=sL o) i1 i2 i3 hk;refine⟨E',g1.mono (by omega),g2,?_⟩;refine Fu func12 rfl ?_;exact Ui [] [0,1,2,3,4,5,6] [.c Uw cp,.k wk,.F,.F,.T,.c Uw g3] rfl
 rw[if_neg w2];by_cases w3:W=5
 ·rw[if_pos w3];obtain⟨E',g1,g2,g3⟩:=Qui h (id:=sL o) i1 i2 hcs.x hcs.y (by decide) (Qa hcs.lx (by decide)) (Qa hcs.ly (by decide));refine⟨E',g1.mono (by omega),g2,?_⟩;refine Fu func12 rfl ?_;exact Ui [] [0,1,2,3,4,5,6] [.c Uw cp,.k wk,.F,.F,.F,.T,.c Uw g3] rfl
 rw[if_neg w3];by_cases w4:W<9
 ·rw[if_pos w4];obtain⟨E',g1,g2,_,g3⟩:=I3 h hb (U3 (Iq o E.q).num) (U3 ((Iq o E.q).den:Int)) (Qa hla.1 (by decide)) (Qa hla.2 (by decide)) (Tq _);refine⟨E',g1,g2,?_⟩;refine Fu func12 rfl ?_;exact Ui [] [0,1,2,3,4,5,6] [.c Uw cp,.k wk,.F,.F,.F,.F,.T,.lo,.c [0,1,2,3,4,5,6,7,8] cla,.c Uw g3] rfl
 rw[if_neg w4];by_cases w5:W=9
 ·rw[if_pos w5];have g3:=jF h hb (U3 (Iq o E.q).num) (U3 ((Iq o E.q).den:Int)) (Qa hla.1 (by decide)) (Qa hla.2 (by decide)) (Tq _);refine⟨E,h.mono (by omega),rfl,?_⟩;obtain⟨a,ha,hal⟩:∃a,a=E.m.ans (Iq o E.q)/\∃a0 a1 a2 a3 a4,a=[LV.row a0,.row a1,.row a2,.row a3,.row a4]:=⟨_,rfl,by unfold Em.ans;split <;> exact⟨_,_,_,_,_,rfl⟩⟩;rw[<-ha]at g3;obtain⟨a0,a1,a2,a3,a4,rfl⟩:=hal;refine Fu func12 rfl ?_;exact Ui [] [0,1,2,3,4,5,6] [.c Uw cp,.k wk,.F,.F,.F,.F,.F,.T,.lo,.c [0,1,2,3,4,5,6,7,8] cla,.c Uw g3] rfl
 rw[if_neg w5];by_cases w6:W=10
 ·rw[if_pos w6];obtain⟨E',g1,g2,_,g3⟩:=I3 h hb n1 n2 n3 n4 n5;refine⟨E',g1,g2,?_⟩;obtain⟨b1,r1,rfl,rfl,_⟩:=n1;obtain⟨b2,r2,rfl,rfl,_⟩:=n2;refine Fu func12 rfl ?_;exact Ui [] [0,1,2,3,4,5,6] [.c Uw cp,.k wk,.F,.F,.F,.F,.F,.F,.T,.k cnr,.c Uw g3] rfl
 ·rw[if_neg w6];have g3:=jF h hb n1 n2 n3 n4 n5;refine⟨E,h.mono (by omega),rfl,?_⟩;obtain⟨b1,r1,rfl,rfl,_⟩:=n1;obtain⟨b2,r2,rfl,rfl,_⟩:=n2;obtain⟨a,ha,hal⟩:∃a,a=E.m.ans (nearT o)/\∃a0 a1 a2 a3 a4,a=[LV.row a0,.row a1,.row a2,.row a3,.row a4]:=⟨_,rfl,by unfold Em.ans;split <;> exact⟨_,_,_,_,_,rfl⟩⟩;rw[<-ha]at g3;obtain⟨a0,a1,a2,a3,a4,rfl⟩:=hal;refine Fu func12 rfl ?_;exact Ui [] [0,1,2,3,4,5,6] [.c Uw cp,.k wk,.F,.F,.F,.F,.F,.F,.F,.k cnr,.c Uw g3] rfl
end Orr
namespace Orr
open Go Go.Proofs Tryz Orq
set_option maxRecDepth 10000
theorem wQ{b:Int}(h:0<=b):0<=(0:Int)/\(0:Int)<=b:=⟨Yd _,h⟩
def AI(np nd:Int):Es:=⟨np,nd,[],0,Qml [] (tq 0),Qxl [] (tq 0),Qxj [] (tq 0),Qxk [] (tq 0),Qxi [] (tq 0)⟩
theorem YC:MOk []:=⟨λp h=>(by cases h),by decide,List.Pairwise.nil⟩
theorem Qi2{np nd:Int}(h1:1<=np/\np<=6)(h2:0<=nd/\nd<=2):EOk 0 (AI np nd):=by
 have hq:Qs 1640000 (0:Rat):=⟨by decide,by decide⟩;exact⟨h1,h2,⟨YC,by show((0:Nat):Int)<=np;omega,λp h=>(by cases h),λp h=>(by cases h)⟩,(show Qs 128 (0:Rat) from⟨by decide,by decide⟩),At.begin okS YC hq,At.begin okT YC hq,At.begin okH YC hq,At.begin okP YC hq,At.begin okD YC hq,wQ (Yd _),wQ (Yd _),wQ (Yd _),wQ (Yd _),wQ (Yd _)⟩
theorem Qex{np nd:Int}(h1:1<=np/\np<=6)(h2:0<=nd/\nd<=2):U5 prog 54 [.oi np,.oi nd] [] [.one (.ow 0 0),.oi 0] (enB 0 (AI np nd)):=Qtf h1 h2
theorem Qwt:(WI (ZB PH) (IU PH) 3 600 (Qml PH (tq 0)) (IU PH (tq 0)) 0).map (λx=>x.2.2)=some 1:=by decide +kernel
theorem Qq4:(Ty (tq 3) PH).map (·.id)=[2,1]:=by decide +kernel
theorem Qiw:MOk PH:=⟨Qze,by decide,by unfold Np PH;decide⟩
theorem Qws:cnt (ZB PH) 0 3=1:=by
 have hq:Qs 1640000 (0:Rat):=⟨by decide,by decide⟩;have ht:Qs 1640000 (3:Rat):=⟨by decide,by decide⟩;have S:=okS.st PH Qiw;have hv:=TN hq;have hP:=okS.cp PH Qiw;have hm:=vN hP;have hmu:=Qsf ((kS.al PH).flatMap AT) (tq 0);have hl:(Ef PH).length=8:=by rw[kO];rfl
 have hc:¬Mb (tq 3) (tq 0):=λh'=>by
  have:=(ZE hv.cut).2 h';rw[PU]at this;exact absurd this (by decide +kernel)
 have hl2:(kS.al PH).length=8:=hl;obtain⟨c',r',E,g1,g2,g3,g4,g5,g6⟩:=Qhz S ht hP (λa _=>okS.al PH a) 599 ⟨tq 0,(Fv (ZB PH (tq 0))).map fresh,0⟩ (IU PH (tq 0)) 0 (Qa hmu (by omega)) (pH S hv) hc;have h1:=Qwt;have g1:WI (ZB PH) (IU PH) 3 600 (Qml PH (tq 0)) (IU PH (tq 0)) 0=some (c',r',0+((E.length:Nat):Int)):=g1;rw[g1]at h1;have h1:some (0+((E.length:Nat):Int))=some 1:=h1;injection h1 with h1;rw[mT S hv g6];omega
theorem Qi4:Crv.norm (Crv.mk [0,1] [] 0)=run1:=by
 have e:Crv.norm (Crv.mk [0,1] [] 1)=Crv.norm (Crv.mk [0,1] [] 0):=by simp only[Crv.norm,Crv.g,Crv.d'];rfl
 rw[<-e];exact Crv.norm_of LR
theorem Qx1:Uk 80 [.one (.row [[.bool false,.row []],[.bool false,.row [[.int .u32 1]]]]),.one (.row [])] [.agg (cl run1)]:=by
 have i01:IsInts [[.bool false,.row []],[.bool false,.row [[.int .u32 1]]]] [0,1]:=by
  refine⟨⟨_,_,rfl,false,[],rfl,rfl,(λx hx=>by cases hx),rfl⟩,⟨_,_,rfl,false,[1],rfl,rfl,(λx hx=>by rw[Qk.1 hx];decide),rfl⟩,trivial⟩
 have h:=Qrt (lx:=[[.bool false,.row []],[.bool false,.row [[.int .u32 1]]]]) (ly:=[]) (px:=[0,1]) (py:=[]) i01 trivial ⟨U4 cs_run1.x (by decide),ZC,by show Fb 0<=_;decide,by show 2<=1073741824;decide,by show 0<=1073741824;decide⟩;rw[Qi4]at h;exact h
theorem Qpx:Nn 2 1 [] ⟨run1,1⟩=0:=by decide +kernel
theorem Qpy:Nn 2 1 [⟨run1,1⟩] ⟨O2 1 0,2⟩=0:=by decide +kernel
theorem Qwv:∃E1 E2:Es,EOk 0 E2/\E2.m=⟨2,1,PH,0,0,0,0,0,0⟩/\EnD 58 [.one (.ow 0 0),.oi 1,.agg (cl run1)] (AI 2 1) [.oi 0] E1/\EnD 58 [.one (.ow 0 0),.oi 2,.agg (cl (O2 1 0))] E1 [.oi 0] E2:=by
 have h0:=Qi2 (np:=2) (nd:=1) (by decide) (by decide);have hst:=tP (x:=1) (y:=0) (by decide) (by decide);have e1:Crv.norm (Crv.mk run1.x run1.y run1.d)=run1:=Crv.norm_of LR;have e2:Crv.norm (Crv.mk (O2 1 0).x (O2 1 0).y (O2 1 0).d)=O2 1 0:=Crv.norm_of hst.n;obtain⟨E1,a1,a2,a3⟩:=CE h0 (id:=1) (Gm run1.x) (Gm run1.y) (U3 run1.d) (cs_run1.up (by decide) (by decide));rw[e1]at a2 a3;have i1:(AI 2 1).m.ins ⟨run1,1⟩=((⟨2,1,[⟨run1,1⟩],0,0,0,0,0,0⟩:Em),0):=by
  unfold Em.ins;rw[show Nn (AI 2 1).m.np (AI 2 1).m.nd (AI 2 1).m.M ⟨run1,1⟩=0 from Qpx,if_pos rfl];rfl
 rw[i1]at a2 a3;obtain⟨E2,b1,b2,b3⟩:=CE a1 (id:=2) (Gm (O2 1 0).x) (Gm (O2 1 0).y) (U3 (O2 1 0).d) (hst.c.mono (by decide) (by decide));rw[e2,a2]at b2 b3;have i2:((⟨2,1,[⟨run1,1⟩],0,0,0,0,0,0⟩:Em),(0:Int)).1.ins ⟨O2 1 0,2⟩=((⟨2,1,PH,0,0,0,0,0,0⟩:Em),0):=by
  unfold Em.ins;dsimp only;rw[Qpy,if_pos rfl];rfl
 rw[i2]at b2 b3;exact⟨E1,E2,b1,b2,a3,b3⟩
theorem Qio{E:Es}{A:Em}(h:E.m=A):E.np=A.np/\E.nd=A.nd/\E.M=A.M/\E.q=A.q/\E.s.ev=A.s/\E.t.ev=A.t/\E.h.ev=A.h/\E.p.ev=A.p/\E.d.ev=A.d:=by subst h;exact⟨rfl,rfl,rfl,rfl,rfl,rfl,rfl,rfl,rfl⟩
theorem kL{A:Em}{t:Rat}(h1:Qs 128 t)(h2:¬t<A.q):A.adv t=(({ A with q:=t,s:=A.s+(cnt (ZB A.M) A.q t:Nat),t:=A.t+(cnt (IW A.M) A.q t:Nat),h:=A.h+(cnt (AU A.M) A.q t:Nat),p:=A.p+(cnt (pV A.M) A.q t:Nat),d:=A.d+(cnt (kG A.M) A.q t:Nat) }:Em),0):=by
 unfold Em.adv;rw[if_pos h1];exact if_neg h2
theorem IL:Uk 30 [] [.one (.bool true)]:=by
 obtain⟨E1,E2,h2,m2,i1,i2⟩:=Qwv;have ht:Qs 128 (3:Rat):=⟨by decide,by decide⟩;obtain⟨E3,h3,m3,_,a3⟩:=I3 h2 (by decide) (U3 (3:Rat).num) (U3 ((3:Rat).den:Int)) (by decide) (by decide) (Tq 3);rw[m2,kL ht (by show ¬(3:Rat)<0;decide)]at m3 a3;obtain⟨_,_,e1,e2,e3,_⟩:=Qio m2;obtain⟨_,_,f1,f2,f3,_⟩:=Qio m3;dsimp only at e1 e2 e3 f1 f2 f3;rw[Qws]at f3;have t2:=BP (np:=E2.np) (nd:=E2.nd) (M:=E2.M) (q:=E2.q) (s:=E2.s) (t:=E2.t) (h:=E2.h) (p:=E2.p) (d:=E2.d) h2.m.m.ln;have t3:=BP (np:=E3.np) (nd:=E3.nd) (M:=E3.M) (q:=E3.q) (s:=E3.s) (t:=E3.t) (h:=E3.h) (p:=E3.p) (d:=E3.d) h3.m.m.ln;obtain⟨A2,hA2⟩:=nmE (Qd5 E2.M E2.q);obtain⟨A3,hA3⟩:=nmE (Qd5 E3.M E3.q);rw[<-hA2]at t2;rw[<-hA3]at t3;have g2:∃a b c d,A2=[ids [1,2],.row a,.row b,.row c,.row d]:=by
  rw[hA2,e1,e2];show ∃a b c d,[ids ((Ty (tq 0) PH).map (·.id)),_,_,_,_]=_;rw[Qwu];exact⟨_,_,_,_,rfl⟩
 have g3:∃a b c d,A3=[ids [2,1],.row a,.row b,.row c,.row d]:=by
  rw[hA3,f1,f2];show ∃a b c d,[ids ((Ty (tq 3) PH).map (·.id)),_,_,_,_]=_;rw[Qq4];exact⟨_,_,_,_,rfl⟩
 obtain⟨a,b,c,d,rfl⟩:=g2;obtain⟨a',b',c',d',rfl⟩:=g3;have cs:=Qfd (a:=[1,2]) (b:=[1,2]) (by decide) (by decide);have cs2:=Qfd (a:=[2,1]) (b:=[2,1]) (by decide) (by decide);have co:=KF (n:=3) (by decide);have ct:=BM (q:=3) ⟨by decide,by decide⟩;have cst:=Qna (x:=1) (y:=0) (by decide) (by decide);have ce:=wV (np:=E3.np) (nd:=E3.nd) (M:=E3.M) (q:=E3.q) (s:=E3.s) (t:=E3.t) (h:=E3.h) (p:=E3.p) (d:=E3.d);rw[f3]at ce;refine Fu func30 rfl ?_;exact Ug [.c Uw (Qex (by decide) (by decide)),.f rfl,.f rfl,.z 16,.k Qx1,.c Uw i1,.f rfl,.k cst,.c Uw i2,.f rfl,.c Uw t2,.k co,.k ct,.c Uw a3,.t rfl,.k cs,.t rfl,.c Uw t3,.k cs2,.t rfl,.c Uw ce,.i 0] rfl rfl (by simp[U0])
theorem Qj0{a b:Int}{s:Nat}(ha:Fb a<=s)(hb:Fb b<=s)(h1:1<=s):Qs s (Gd a b):=by
 unfold Gd
 split
 ·exact⟨Rw ha,Rv (Qa (show Fb 1<=1 by decide) h1) h1⟩
 ·exact⟨Rw ha,Rv hb h1⟩
theorem qY{z:Int}(h:-127<=z/\z<=127):Fb z<=7:=by
 have:(2:Nat)^7=128:=by decide
 exact T0.2 (by omega)
theorem Qj2{a b:Int}(ha:0<a)(hb:0<b):0<Gd a b:=by
 rw[TX hb,<-mD,Jn];have h1:(0:Rat)<(a:Rat):=by exact_mod_cast ha
 have h2:(0:Rat)<(b:Rat):=by exact_mod_cast hb
 exact Xl h1 (Rat.inv_pos.2 h2)
theorem oL{s:Nat}{a:Rat}(h:Qs s a):Qs s (-a):=⟨by rw[Rat.neg_num,Hj];exact h.1,by rw[Rat.neg_den];exact h.2⟩
theorem Qtu{a b:Rat}(ha:Qs 20000000 a)(hb:Qs 20000000 b):Uk 42 [.agg (fr a),.agg (fr b)] [.agg (fr (a-b))]:=by
 rw[Rat.sub_eq_add_neg];exact Uh func42 rfl [.k Qev,.k (xF (a:=a) (b:=-b) ha (oL hb))] rfl
theorem Qmc{A:Em}{t:Rat}(h:(A.adv t).2≠0):(A.adv t).1=A/\A.ans t=Qs1:=by
 refine⟨?_,if_neg h⟩;unfold Em.adv at h ⊢;by_cases a:Qs 128 t
 ·rw[if_pos a]at h ⊢;by_cases b:t<A.q
  ·rw[if_pos b]
  ·rw[if_neg b]at h;exact absurd rfl h
 ·rw[if_neg a]
theorem Qd2{E:Es}{b:Int}(h:EOk b E):E.m.adv E.q=(E.m,0):=by
 rw[kL (A:=E.m) h.q (by show ¬E.q<E.q;exact Rat.lt_irrefl)];have hq:Qs 1640000 E.q:=h.q.mono (by decide);have e1:cnt (ZB E.m.M) E.m.q E.q=0:=ZA okS h.m.m hq;have e2:cnt (IW E.m.M) E.m.q E.q=0:=ZA okT h.m.m hq;have e3:cnt (AU E.m.M) E.m.q E.q=0:=ZA okH h.m.m hq;have e4:cnt (pV E.m.M) E.m.q E.q=0:=ZA okP h.m.m hq;have e5:cnt (kG E.m.M) E.m.q E.q=0:=ZA okD h.m.m hq;rw[e1,e2,e3,e4,e5];simp[Es.m]
theorem Qs.n32{s:Nat}{t:Rat}(h:Qs s t)(hs:s<=4294967295):Fb t.num<=4294967295/\Fb (t.den:Int)<=4294967295:=⟨Qa h.1 hs,Qa h.2 hs⟩
theorem Qg6{E:Es}{b:Int}{s:Nat}(h:EOk b E)(hb:b<=900000000000000000){t:Rat}(ht:Qs s t)(hs:s<=4294967295):∃E',EOk (b+67000000) E'/\E'.m=(E.m.adv t).1/\((E.m.adv t).2≠0->E'=E)/\EnD 17 [.one (.ow 0 0),.agg (rl t)] E [.one (.int .i64 (E.m.adv t).2)] E' :=
 I3 h hb (U3 t.num) (U3 (t.den:Int)) (ht.n32 hs).1 (ht.n32 hs).2 (Tq t)
theorem Qum{E:Es}{b:Int}{s:Nat}(h:EOk b E)(hb:b<=900000000000000000){t:Rat}(ht:Qs s t)(hs:s<=4294967295):EnD 20 [.one (.ow 0 0),.agg (rl t)] E [.agg (E.m.ans t),.one (.int .i64 (E.m.adv t).2)] E :=
 jF h hb (U3 t.num) (U3 (t.den:Int)) (ht.n32 hs).1 (ht.n32 hs).2 (Tq t)
end Orr
namespace Orr
theorem bz1:Bd 9000000 [1]:=λz hz=>by obtain rfl:=Qk.1 hz;decide
theorem bz2:Bd 9000000 [0,1]:=λz hz=>by
 simp only[Qm,Jm,or_false]at hz;rcases hz with rfl|rfl <;> decide
theorem Q0d:∀z∈([0,1]:Un),Fb z≤1:=by
 intro z hz;simp only[Qm,Jm,or_false]at hz;rcases hz with rfl|rfl <;> decide
theorem rz:RRun [1] 1 [0,1] []:=by
 refine .step (by decide) (by decide) bz2 bz1 ?_;rw[show tH [0,1] [1]=[] by decide];exact .stop (by decide)
theorem dz2:DOk [0,1] [1] [0,1]:=by
 refine⟨by decide,by decide,by decide,bz1,[0,1],[],1,bz2,by decide,?_,by decide⟩;refine .step (by decide) (by decide) bz2 (by decide) (by decide) (by decide) ?_;exact .stop (by decide)
theorem dz1:DOk [1] [1] [1]:=by
 refine⟨by decide,by decide,by decide,bz1,[1],[],1,bz1,by decide,?_,by decide⟩;refine .step (by decide) (by decide) bz1 (by decide) (by decide) (by decide) ?_;exact .stop (by decide)
theorem Qvy:Qdz 0 [[-(0:Rat).num,((0:Rat).den:Int)],[1]]:=by
 show Qdz 0 [[0,1],[1]];refine⟨[0,1],?_⟩;show ChRun [0,1] [0,1] [[0,1],[1]];have e1:Tl [0,1]=[0,1]:=by decide
 have e2:Gv [0,1]=[1]:=by decide
 have e3:Tl [1]=[1]:=by decide
 have e4:Bi [1]=[1]:=by decide
 refine⟨⟨1,λ_=>[0,1],⟨⟨1,[[0,1],[1]],?_,rfl,λk hk=>?_⟩,by decide⟩,λi hi=>?_,by decide⟩,⟨1,?_⟩,λz hz=>Qa (Q0d z hz) (by decide),by decide,by decide⟩
 ·rw[e1];refine .step (by decide) (by decide) (by show trim _=_;decide) bz2 (by show Bd _ (Gv [0,1]);rw[e2];exact bz1) (m:=1) (g:=[1]) ?_ (by decide) (.stop (by decide));show GRun 1 (Tl [0,1]) (Tl (Gv [0,1])) [1];rw[e1,e2,e3];refine .step (by decide) (by decide) bz1 rz (by decide) (λz hz=>by cases hz) rfl ?_;rw[show Tl []=[] by decide];exact .stop _
 ·obtain rfl:k=0:=by omega
  exact⟨[0,1],[1],[0,1],dz2,dz1,by rw[e1,e3];exact dz2,e1.symm⟩
 ·obtain rfl:i=0:=by omega
  exact⟨bz1,by decide,bz2,by decide⟩
 ·rw[e2,e4];refine .step (by decide) (by decide) bz1 (m:=1) (r:=[]) rz rfl (λz hz=>by cases hz) (by decide) (by decide) (by decide) ?_;exact .stop (by decide)
end Orr
namespace Orr
open Go Go.Proofs Tryz Orq
set_option maxRecDepth 10000
theorem Qha{q:Rat}{c:Uo}:Uk 324 [.one (.row []),.agg (aq q c)] [.one (.row [])]:=by
 refine Fu func324 rfl ?_;refine Ue [.z 5] rfl ?_;refine Uj (S:=Unit) 1 (λL1 _=>(10,.v (.oi 0))::(5,.v (.one (.row [])))::L1) (λ_=>[.blk 90 (aq q c)]) (λ_=>0) (λ_=>True) () trivial rfl rfl λ_ _=>?_
 exact Ug [.f rfl] rfl
theorem mE:Uk 326 [.one (.row [])] [.one (.row [])]:=by
 refine Fu func326 rfl ?_;refine Ue [.z 3] rfl ?_;refine Uj (S:=Unit) 0 (λL1 _=>(8,.v (.oi 0))::(3,.v (.one (.row [])))::L1) (λ_=>[]) (λ_=>0) (λ_=>True) () trivial rfl rfl λ_ _=>?_
 exact Ug [.f rfl] rfl
theorem Qg7:Uk 328 [.one (.row [])] [.one (.row [])]:=by
 refine Fu func328 rfl ?_;refine Ue [.z 3] rfl ?_;refine Uj (S:=Unit) 0 (λL1 _=>(8,.v (.oi 0))::(3,.v (.one (.row [])))::L1) (λ_=>[]) (λ_=>0) (λ_=>True) () trivial rfl rfl λ_ _=>?_
 exact Ug [.f rfl] rfl
theorem Qhb:Uk 331 [.one (.row [])] [.one (.row [])]:=by
 refine Fu func331 rfl ?_;refine Ue [.z 3,.k Qg7] rfl ?_;refine Uj (S:=Unit) 0 (λL1 _=>(11,.v (.oi 0))::(3,.v (.one (.row [])))::L1) (λ_=>[]) (λ_=>0) (λ_=>True) () trivial rfl rfl λ_ _=>?_
 exact Ug [.f rfl] rfl
section
variable{q:Rat}{c:Uo}
theorem Qg9:Uk 294 [.one (.row []),.agg (aq q c)] [.one (.row [])]:=by
 refine Fu func294 rfl ?_;refine Ue [.k Qha,.z 6] rfl ?_;refine Uj (S:=Unit) 1 (λL1 _=>(7,.v (.oi 0))::(6,.v (.one (.row [])))::L1) (λ_=>[.blk 90 (aq q c)]) (λ_=>0) (λ_=>True) () trivial rfl rfl λ_ _=>?_
 exact Ug [.f rfl,.k mE] rfl rfl (by simp[U0])
theorem Quo:Uk 295 [.one (.row []),.agg (aq q c)] [.one (.row [])]:=Uh func295 rfl [.t rfl,.z 4] rfl
theorem Qb9:Uk 329 [.one (.row []),.agg (aq q c)] [.one (.row [])]:=Uh func329 rfl [.k Qhb,.t rfl] rfl
theorem Quj:Uk 296 [.one (.row []),.agg (aq q c)] [.one (.row [])]:=by
 refine Fu func296 rfl ?_;refine Ue [.k Qg9,.k Qb9] rfl ?_;refine Uj (S:=Unit) 1 (λL1 _=>(7,.v (.oi 0))::(5,.v (.one (.row [])))::L1) (λ_=>[.blk 90 (aq q c)]) (λ_=>0) (λ_=>True) () trivial rfl rfl λ_ _=>?_
 exact Ug [.f rfl,.f rfl,.k mE] rfl
abbrev zPq:Us:=[.row [],.row [],.row [],.row [],.bool false,.row [],.int .i64 0]
theorem Qb8:Uk 330 [.one (.row []),.agg (aq q c)] [.agg zPq,.agg zPq,.one (.bool false)]:=Uh func330 rfl [.k Qg7,.t rfl] rfl
theorem Qul:Uk 297 [.one (.row []),.agg (aq q c)] [.one (.row [])]:=Uh func297 rfl [.k Qb8,.t rfl,.z 4] rfl
theorem Quk:Uk 298 [.one (.row []),.agg (aq q c)] [.one (.row [])]:=by
 refine Fu func298 rfl ?_;refine Ue [.k Qhb,.z 6] rfl ?_;refine Uj (S:=Unit) 1 (λL1 _=>(15,.v (.oi 0))::(6,.v (.one (.row [])))::L1) (λ_=>[.blk 90 (aq q c)]) (λ_=>0) (λ_=>True) () trivial rfl rfl λ_ _=>?_
 exact Ug [.f rfl,.k mE] rfl
theorem UD(k:Nat)(hk:k<5):Uk 201 [.oi k,.one (.row []),.agg (aq q c)] [.one (.row [])]:=by
 refine(?_:Uk 263 [.oi k,.one (.row []),.agg (aq q c)] [.one (.row [])]->_) ?_
 ·intro h;exact Uh func201 rfl [.k h] rfl
 ·rcases(show k=0\/k=1\/k=2\/k=3\/k=4 by omega)with rfl|rfl|rfl|rfl|rfl
  ·exact Uh func263 rfl [.t rfl,.k Qg9] rfl
  ·exact Uh func263 rfl [.f rfl,.t rfl,.k Quo] rfl
  ·exact Uh func263 rfl [.f rfl,.f rfl,.t rfl,.k Quj] rfl
  ·exact Uh func263 rfl [.f rfl,.f rfl,.f rfl,.t rfl,.k Qul] rfl
  ·exact Uh func263 rfl [.f rfl,.f rfl,.f rfl,.f rfl,.k Quk] rfl
end
theorem CO:Uk 200 [.one (.row []),.one (.row [])] [.one (.row [])]:=by
 refine Fu func200 rfl ?_;refine Ue [] rfl ?_;refine Uj (S:=Unit) 0 (λL1 _=>(9,.v (.oi 0))::L1) (λ_=>[]) (λ_=>0) (λ_=>True) () trivial rfl rfl λ_ _=>?_
 exact Ug [.f rfl] rfl
end Orr
namespace Orr
open Go Go.Proofs Tryz Orq
set_option maxRecDepth 10000
abbrev cC:Uo:=[[-(0:Rat).num,((0:Rat).den:Int)],[1]]
abbrev Qx3:Us:=[.nils,.nils,.nils,.bool false,.nils,.bool false,.nils,.bool false,.nils,.bool false,.nils,.int .i64 0,.nils]
abbrev Qx4:Us:=aq 0 cC++[.row [],.int .i64 0,.nils]
abbrev Qkj(k i:Nat):Us:=match Nat.blt k i with
 |true=>Qx4
 |false=>Qx3
abbrev mdl(np nd:Int)(i:Nat):Us:=[.int .i64 np,.int .i64 nd,.nils]++fr 0++Qkj 0 i++Qkj 1 i++Qkj 2 i++Qkj 3 i++Qkj 4 i
set_option maxHeartbeats 4000000 in
theorem Qer{np nd:Int}:U5 prog 128 [.one (.ow 0 0)] [.blk 207 (mdl np nd 0)] [] [.blk 207 (mdl np nd 5)]:=by
 have hq:Qs 2000000 (0:Rat):=⟨by decide,by decide⟩;have cr:=wC hq Qvy;refine Fu func128 rfl ?_;refine Ue [.k cr] rfl ?_;refine Uj (S:=Nat) 2 (λL1 i=>(9,.v (.oi i))::L1) (λi=>[.blk 207 (mdl np nd i),.blk 90 (aq 0 cC)]) (λi=>5-i) (λi=>i<=5) 0 (by decide) rfl rfl λi hi=>?_
 rcases(show i=0\/i=1\/i=2\/i=3\/i=4\/i=5 by omega)with rfl|rfl|rfl|rfl|rfl|rfl
 ·exact go tt [.t rfl,.i 0,.i 0,.i 0,.k (UD 0 (by decide)),.k CO,.i 0] rfl (by simp[U0]) (rd 1 (by omega) (by omega) rfl)
 ·exact go tt [.t rfl,.i 1,.i 1,.i 1,.k (UD 1 (by decide)),.k CO,.i 1] rfl (by simp[U0]) (rd 2 (by omega) (by omega) rfl)
 ·exact go tt [.t rfl,.i 2,.i 2,.i 2,.k (UD 2 (by decide)),.k CO,.i 2] rfl (by simp[U0]) (rd 3 (by omega) (by omega) rfl)
 ·exact go tt [.t rfl,.i 3,.i 3,.i 3,.k (UD 3 (by decide)),.k CO,.i 3] rfl (by simp[U0]) (rd 4 (by omega) (by omega) rfl)
 ·exact go tt [.t rfl,.i 4,.i 4,.i 4,.k (UD 4 (by decide)),.k CO,.i 4] rfl (by simp[U0]) (rd 5 (by omega) (by omega) rfl)
 ·exact Ui [] [0] [.f rfl] rfl
theorem Qtl{np nd:Int}(h1:1<=np/\np<=6)(h2:0<=nd/\nd<=2):U5 prog 55 [.oi np,.oi nd] [] [.one (.ow 0 0),.oi 0] [.blk 207 (mdl np nd 5)]:=by
 have co:=KF (n:=0) (by decide);rw[show((0:Int):Rat)=0 from rfl]at co;refine Fu func55 rfl ?_;exact Ui [] [0] [.F,.f (by simp;omega),.f (by simp;omega),.f (by simp;omega),.k co,.c [0] Qer] rfl
theorem Qmp{a b:Int}(ha:-9223372036854775808<=a/\a<=9223372036854775807)(hb:-9223372036854775808<=b/\b<=9223372036854775807):∃(N nd:Int) (ms:Us),(1<=N/\N<=4)/\(0<=nd/\nd<=2)/\EOk 0 (AI N nd)/\N=1+Pd a 4/\nd=Pd b 3 /\
 U5 prog 11 [.oi a,.oi b] [] [.agg [.ow 0 0,.sh ms,.int .i64 N],.one (.bool true)] (enB 0 (AI N nd)):=by
 have w1:=Eu (v:=a) (n:=4) (by decide);have w2:=Eu (v:=b) (n:=3) (by decide);have c1:=Cc (v:=a) (n:=4) ha (by decide);have c2:=Cc (v:=b) (n:=3) hb (by decide);obtain⟨N,hN⟩:=nmE (1+Pd a 4);obtain⟨nd,hnd⟩:=nmE (Pd b 3);have hN4:1<=N/\N<=4:=by omega
 have hd2:0<=nd/\nd<=2:=by omega
 have cn:=Qex (np:=N) (nd:=nd) (by omega) hd2;have cm:=Qtl (np:=N) (nd:=nd) (by omega) hd2;refine⟨N,nd,mdl N nd 5,hN4,hd2,Qi2 (by omega) hd2,hN,hnd,?_⟩;refine Fu func11 rfl ?_;exact Ui [8] [1,2,3,4,5,6,7] [.k c1,.r 12 (eI hN.symm),.k c2,.r 14 (eI hnd.symm),.c [1,2,3,4,5,6,7] cn,.c [8] cm,.t rfl,.t rfl] rfl (by simp[U0];omega)
abbrev enL(E:Es)(ms:Us)(N:Int):Uu:=[.blk 80 (mO 0 E.q),tB E.np E.nd E.M,bS E.s E.M E.q,bT E.t E.M E.q,bH E.h E.M E.q,bP E.p E.M E.q,bD E.d E.M E.q,.blk 27 [.ow 0 0,.sh ms,.int .i64 N]]
set_option maxHeartbeats 8000000 in
theorem jJ{a b n d:Int}{l:List RawOp}(ha:-9223372036854775808≤a/\a≤9223372036854775807)(hb:-9223372036854775808≤b/\b≤9223372036854775807)(hl:∀x∈l,x.Ok)(hn:-9223372036854775808≤n/\n≤9223372036854775807)(hd:-9223372036854775808≤d/\d≤9223372036854775807):Uk 7 [.oi a,.oi b,.one (.row (qM l)),.oi n,.oi d] [.one (.bool true)]:=by
 obtain⟨N,nd,ms,hN,hnd,h0,_,_,cb⟩:=Qmp ha hb;have hll:=Qcy l;refine Fu func7 rfl (ln 2 rfl rfl λhcl=>?_);rw[hll]at hcl;refine Ue [.c Uw cb,.f rfl] rfl ?_;refine Uj (S:=Nat×Es) 8 (λL1 s=>(13,.v (.oi (s.1:Int)))::L1) (λs=>enL s.2 ms N) (λs=>6-s.1) (λs=>s.1<=6/\s.1<=l.length/\EOk (67000000*s.1) s.2) (0,AI N nd) ⟨by show 0<=6;decide,Qh _,h0.mono (show(0:Int)<=67000000*((0:Nat):Int) by decide)⟩ rfl rfl λ⟨i,E⟩ ⟨hi,hi2,hE⟩=>?_
 dsimp only at hi hi2 hE ⊢;by_cases hr:i<l.length/\i<6
 ·obtain⟨x,hx⟩:=gxE (l:=l) (i:=i) hr.1;obtain⟨E',e1,e2,e3⟩:=Qoh (ms:=ms) hE (by omega) hN (hl x (Qc hx));refine Uf [.T,.T,.x (Qcx hx),.c Uw e3] rfl ?_;have e:67000000*(i:Int)+67000000=67000000*((i+1:Nat):Int):=by omega
  rw[e]at e1;exact rd (i+1,E') (by dsimp only;omega) ⟨hr.2,hr.1,e1⟩ rfl
 have ck:=xH (np:=E.np) (nd:=E.nd) (M:=E.M) (s:=E.s) (t:=E.t) (h:=E.h) (p:=E.p) (d:=E.d) hE.q;have cf:=wW (q:=E.q) (hE.q.mono (by decide));have ct:=BM (q:=E.q) (hE.q.mono (by decide));have ccl:=Qoi hE;obtain⟨F,f1,f2,_,f3⟩:=Qg6 hE (by omega) hE.q (by decide);rw[Qd2 hE]at f2 f3;have f2:F.m=E.m:=f2;have f3:EnD 17 [.one (.ow 0 0),.agg (rl E.q)] E [.oi 0] F:=f3;obtain⟨_,_,q1,q2,_⟩:=Qio f2;have cE1:=uB (E:=E);have cE2:=uB (E:=F);rw[f2]at cE2;have csm:=Qun (E:=F) (F:=E) f1 (show E.M=F.M from q1.symm) (show E.q=F.q from q2.symm);have w1:=Cc (v:=n) (n:=9) hn (by decide);have w2:=Cc (v:=d) (n:=4) hd (by decide);have b1:=Eu (v:=n) (n:=9) (by decide);have b2:=Eu (v:=d) (n:=4) (by decide);have co:=Qrq (n:=1+Pd n 9) (d:=1+Pd d 4) (by omega) (by omega);have hg:=Qj2 (a:=1+Pd n 9) (b:=1+Pd d 4) (by omega) (by omega);have hqo:=Qj0 (qY (z:=1+Pd n 9) (by omega)) (qY (z:=1+Pd d 4) (by omega)) (by decide);obtain⟨r,hr2⟩:=nmE (Gd (1+Pd n 9) (1+Pd d 4));rw[<-hr2]at co hg hqo;have cs:=Qtu (a:=E.q) (b:=r) (hE.q.mono (by decide)) (hqo.mono (by decide));obtain⟨t,ht⟩:=nmE (E.q-r);have hlt:t<E.q:=by rw[ht];grind
 have htq:Qs 257 t:=by rw[ht,Rat.sub_eq_add_neg];exact Qjz hE.q (oL (hqo.mono (by decide)))
 rw[<-ht]at cs;have ct2:=BM (q:=t) (htq.mono (by decide));obtain⟨G,_,_,g3,g4⟩:=Qg6 f1 (by omega) htq (by decide);have gq:=Qum f1 (by omega) htq (by decide);have hA:F.m.q=E.q:=q2;have hre:(F.m.adv t).2=8\/(F.m.adv t).2=1:=by
  unfold Em.adv;by_cases a:Qs 128 t
  ·rw[if_pos a,if_pos (by rw[hA];exact hlt)];exact .inl rfl
  ·rw[if_neg a];exact .inr rfl
 have hne:(F.m.adv t).2≠0:=by omega
 rw[(Qmc hne).2]at gq;rw[g3 hne]at g4;by_cases hj:i<l.length
 all_goals
  first
  |refine Ue [.T,.F,.c Uw ck,.k cf,.lo,.c Ux ccl,.lo,.c Uw cE1,.g 57 false rfl,.k ct,.c Uw f3,.g 65 false rfl,.lo,.c Ux csm,.g 72 false rfl,.lo,.c Uw cE2,.f (by simp)] rfl ?_ (by simp[U0])
  |refine Ue [.F,.f rfl,.c Uw ck,.k cf,.lo,.c Ux ccl,.lo,.c Uw cE1,.g 57 false rfl,.k ct,.c Uw f3,.g 65 false rfl,.lo,.c Ux csm,.g 72 false rfl,.lo,.c Uw cE2,.f (by simp)] rfl ?_ (by simp[U0])
  rcases hre with e|e
  ·rw[e]at g4 gq;exact Ug [.k w1,.k w2,.k co,.k cs,.k ct2,.c Uw g4,.k ct2,.lo,.c Uw gq,.t rfl,.t rfl,.t rfl,.t rfl,.c Ux csm,.t rfl,.k IL] rfl rfl (by simp[U0];omega)
  ·rw[e]at g4 gq;exact Ug [.k w1,.k w2,.k co,.k cs,.k ct2,.c Uw g4,.k ct2,.lo,.c Uw gq,.f rfl,.t rfl,.t rfl,.t rfl,.c Ux csm,.t rfl,.k IL] rfl rfl (by simp[U0];omega)
end Orr
namespace Orr
open Go Go.Proofs Tryz
variable{H:Type}{enc:TypeId×Value->H}{w:World}{base:Nat}{spare:Nat->Bool}{held:Bool}
theorem Sp{α:Type}{l:List α}{n i:Nat}(h:l.length=n)(hi:i<n):∃x,l[i]? = some x:=⟨l[i]'(by omega),Qe (by omega)⟩
end Orr
namespace Orr
open Go Go.Proofs Tryz Go.ChangeShapes Go.WideShapes Go.ChangeAt Go.RowKit Go.WideElems
theorem Qn1{w:World}{a:Addr}{v:Value}(h:w.cell? a=some v):a.spot=none/\a.block<w.heap.size:=by
 simp only[World.cell?]at h
 split at h
 ·rename_i c t fr hc
  split at h
  ·cases h
  ·rename_i hs;refine⟨by cases e:a.spot with|none=>rfl|some _=>simp[e]at hs,?_⟩;exact(Array.getElem?_eq_some_iff.1 hc).1
 ·cases h
theorem Qmb{a:Addr}(h:a.spot=none)(n m:Nat):(a.add n).add m=⟨a.block,a.off+n+m,none⟩:=by
 obtain⟨b,o,s⟩:=a;simp only at h;subst h;simp only[Addr.add]
 split
 ·rename_i h;subst h
  split
  ·rename_i h;subst h;simp
  ·simp
 ·split
  ·rename_i h;subst h;simp
  ·simp
def fr0(w:World):Fr:=⟨λb=>b<w.heap.size,λ_=>False,w,λ_=>False,λ_=>none⟩
theorem AH(w:World):HS (fr0 w) (ob []) (nw []) (λ_=>none) (λ_=>False) w where
 size:=Ql _
 kept:=λb hb=>⟨hb,rfl,Iff.rfl⟩
 ids:=λi h=>h.elim
 nj:=λi h=>by rw[yS]at h;cases h
 io:=⟨rfl,rfl⟩
 blk:=λi=>by rw[yS];trivial
 nk:=λi g c m h _=>by rw[yS]at h;cases h
 inj:=λi j g c m c' m' h _ _ _=>by rw[yS]at h;cases h
 mlt:=λb h=>h.elim
 m0:=λb _ h=>h.elim
 un:=λi _=>⟨rfl,rfl⟩
 uj:=λi _ h=>h.elim
theorem Qqg{w w':World}{bl:Nat->OB}{U:Nat->Prop}{E:B6}{M:Nat->Prop}(h:HS (fr0 w) bl U E M w'){p:MemPlace}(hp:p.block<w.heap.size):w.sameAt w' p:=by
 cases p with
 |cell b off=>simp only[World.sameAt,World.cell?];rw[(h.kept b hp).2.1];rfl
 |map b=>exact(h.kept b hp).2.1
theorem Qoy{w w':World}{bl:Nat->OB}{U:Nat->Prop}{E:B6}{M:Nat->Prop}(h:HS (fr0 w) bl U E M w')(may:MemPlace->Prop):w.keptBut w' may:=by
 refine⟨h.io.1,h.io.2,λi hi=>?_⟩;have e:w'.heap[i]? = w.heap[i]? := (h.kept i hi).2.1;rw[e];cases w.heap[i]? with
 |none=>rfl
 |some o=>cases o <;> simp
theorem JA{H:Type}{P:Program}{e:TypeId}:∀{l:List (DataW H)} {i:Nat} {d:DataW H},l[i]? = some d->∀n∈d.weights P e,n∈DataW.weightsAll P e l
 | [],i,d,h,_,_=>by simp at h
 |
  x::l,0,d,h,n,hn=>by
  simp at h;subst h;simp only[DataW.weightsAll,Qr];exact .inl hn
 |
  x::l,i+1,d,h,n,hn=>by
  simp only[DataW.weightsAll,Qr];exact .inr (JA (i:=i) (by simpa using h) n hn)
theorem Mk{H:Type}{P:Program}{t:TypeId}{fs:Array Field}{parts:List (DataW H)}(hu:P.underlying t=some (.struct fs))(hz:((DataW.agg parts).weights P t).all (· <= reachBytes)=true){i:Nat}{f:Field}{d:DataW H}(hf:fs[i]? = some f)(hd:parts[i]? = some d) :
 (d.weights P f.type).all (· <= reachBytes)=true:=by
 rw[Ju]at hz ⊢;intro n hn;refine hz n ?_;simp only[DataW.weights,hu];exact DataW.weights_mem_each (j:=i) (by rw[Q9];simp[hf]) hd n hn
variable{H:Type}{enc:TypeId×Value->H}{w:World}
abbrev O0:Nat->Prop:=λ_=>False
def kF(w:World)(cs:List Value)(ls:Us):Prop:=cs.length=ls.length/\∀(j:Nat) (u:LV),ls[j]? = some u->∃v,cs[j]? = some v/\LRep w O0 v u
theorem GK{α:Type}{rw_:α->Us}{Ok:α->Prop}{t e sz:Nat}(hu:prog.underlying t=some (.slice e))(hc:prog.cellsOf e=sz)(hsz:0<sz)(hb:1<=prog.bytesOf e)(hw:∀z,(rw_ z).length=sz)
 (elem:∀fuel cs x,DataW.trod enc prog w 0 (λ_=>true) true fuel e cs=some x->(x.1.weights prog e).all (· <= reachBytes)=true->∃z,Ok z/\kF w cs (rw_ z))
 {fuel:Nat} {cs:List Value} {x:DataW H×List MemPlace} (h:DataW.trod enc prog w 0 (λ_=>true) true fuel t cs=some x) (hz:(x.1.weights prog t).all (· <= reachBytes)=true) :
 ∃(v:Value) (l:List α),cs=[v]/\(∀z∈l,Ok z)/\l.length<2^47/\LRep w O0 v (.row (l.map rw_)):=by
 rcases Go.Deep.open_slice hu h with⟨rfl,_⟩|⟨a',len,cap,m,n,D,Pl,rfl,_,hlc,hcap,hm,rfl,hr⟩
 ·refine⟨_,[],rfl,by simp,Nat.two_pow_pos 47,?_⟩;exact LRep.row none 0 0 0 0 [] (λ_ _=>.bool true) (Ql _) (by decide) (by simp) (by simp) (by simp) (by simp)
 ·simp only[if_true]at hm;subst hm;rw[Ju]at hz;have hlen:len<2^47:=by
   have h0:=hz ((len+(m-len))*prog.bytesOf e) (by simp[DataW.weights,hu]);have h1:len<=(len+(m-len))*prog.bytesOf e:=by
    have:=Zc (Kw len (m-len)) hb;omega
   have h2:(len+(m-len))*prog.bytesOf e<=reachBytes:=by simpa using h0
   exact Z4 (Qa h1 h2) reachBytes_lt
  have hel:∀i,i<len->((D i).weights prog e).all (· <= reachBytes)=true:=λi hi=>by
   rw[Ju];intro k hk;refine hz k ?_;simp only[DataW.weights,hu];refine Qg _ (Qr.2 (.inl (JA (i:=i) ?_ k hk)));rw[Q9,X1 hi];rfl
  have hone:∀i,i<len->∃z cs',Ok z/\kF w cs' (rw_ z)/\∀j,j<sz->w.cell? ((a'.add (i*sz)).add j)=cs'[j]? := λi hi=>by
   obtain⟨cs',hcs,htr⟩:=hr i (by omega);rw[hc]at hcs;obtain⟨_,hl,hcell⟩:=World.cells?_some hcs;obtain⟨z,hz1,hz2⟩:=elem _ _ _ htr (hel i hi);refine⟨z,cs',hz1,hz2,λj hj=>?_⟩;rw[hcell j (by omega)]
  have hspot:0<len->a'.spot=none/\a'.block<w.heap.size:=λh0=>by
   obtain⟨z,cs',_,⟨hl,_⟩,h3⟩:=hone 0 h0;have h4:=h3 0 hsz;have:(a'.add (0*sz)).add 0=a':=by simp[Addr.add]
   rw[this,Qe (by rw[hl,hw];exact hsz)]at h4;exact Qn1 h4
  obtain⟨l,hll,hl⟩:∃l:List α,l.length=len/\∀i z,l[i]? = some z->Ok z/\∃cs',kF w cs' (rw_ z)/\∀j,j<sz->w.cell? ((a'.add (i*sz)).add j)=cs'[j]? := by
   have:∀k,k<=len->∃l:List α,l.length=k/\∀i z,l[i]? = some z->Ok z/\∃cs',kF w cs' (rw_ z)/\∀j,j<sz->w.cell? ((a'.add (i*sz)).add j)=cs'[j]? := by
    intro k
    induction k with
    |zero=>intro _;exact⟨[],rfl,λi z h=>by simp at h⟩
    |
     succ k ih =>
     intro hk;obtain⟨l,h1,h2⟩:=ih (by omega);obtain⟨z,cs',h3,h4,h5⟩:=hone k (by omega);refine⟨l++[z],by simp[h1],λi y hy=>?_⟩;rcases Zb i l.length with hi|hi
     ·rw[Zi hi]at hy;exact h2 i y hy
     ·rw[Z8 hi]at hy;have:i-l.length=0:=by
       rcases Q3 (i-l.length)with h|h
       ·exact h
       ·rw[Qu (by rw[Vr];exact h)]at hy;cases hy
      rw[this]at hy;simp at hy;subst hy;have:i=k:=by omega
      subst this;exact⟨h3,cs',h4,h5⟩
   exact this len (Ql _)
  refine⟨_,l,rfl,λz hz=>?_,by rw[hll];exact hlen,?_⟩
  ·obtain⟨i,hi⟩:=Zk.1 hz;exact(hl i z hi).1
  ·have key:LRep w O0 (.slice (some a') (l.map rw_).length m) (.row (l.map rw_)):=by
    have hgl:∀i c,(l.map rw_)[i]? = some c->∃z,l[i]? = some z/\c=rw_ z/\i<len:=λi c h=>by
     rw[Q9]at h;cases e:l[i]? with
     |none=>rw[e]at h;cases h
     |some z=>rw[e]at h;simp at h;exact⟨z,rfl,h.symm,by have:=(Qf.1 e).1;omega⟩
    have hcl:∀i c,(l.map rw_)[i]? = some c->∃cs':List Value,kF w cs' c/\∀j,j<sz->w.cell? ⟨a'.block,a'.off+i*sz+j,none⟩=cs'[j]? := λi c h=>by
     obtain⟨z,hz,rfl,hi⟩:=hgl i c h;obtain⟨_,cs',h1,h2⟩:=hl i z hz;refine⟨cs',h1,λj hj=>?_⟩;rw[<-h2 j hj,Qmb (hspot (by omega)).1]
    refine LRep.row (some a') m sz a'.block a'.off (l.map rw_) (λi j=>(w.cell? ⟨a'.block,a'.off+i*sz+j,none⟩).getD (.bool true)) (by rw[Q8];omega) ?_ ?_ ?_ ?_ ?_
    ·have:maxLen=2^63-1:=by rfl
     omega
    ·intro c hc2;obtain⟨z,_,rfl⟩:=Za.1 hc2;exact hw z
    ·intro h0;rw[Q8,hll]at h0;obtain⟨hs,hb⟩:=hspot h0;refine⟨?_,hb,by simp[O0]⟩;obtain⟨b,o,s⟩:=a';simp only at hs;rw[hs]
    ·intro i c hi j hj;obtain⟨z,_,rfl,_⟩:=hgl i c hi;obtain⟨cs',⟨h1,_⟩,h2⟩:=hcl i _ hi;have hjs:j<sz:=by rw[<-hw z];exact hj
     rw[h2 j hjs,Qe (by rw[h1];exact hj)];rfl
    ·intro i c hi j u hu2;obtain⟨z,_,rfl,_⟩:=hgl i c hi;obtain⟨cs',⟨h1,h3⟩,h2⟩:=hcl i _ hi;obtain⟨v,hv,hr2⟩:=h3 j u hu2;have hjs:j<sz:=by rw[<-hw z];exact(Qf.1 hu2).1
     show LRep w O0 ((w.cell? ⟨a'.block,a'.off+i*sz+j,none⟩).getD (.bool true)) u;rw[h2 j hjs,hv];exact hr2
   rw[Q8,hll]at key;exact key
abbrev Qzc(x:Nat):Us:=[.int .u32 (x:Int)]
theorem Qle:∀fuel cs x,DataW.trod enc prog w 0 (λ_=>true) true fuel 151 cs=some x->(x.1.weights prog 151).all (· <= reachBytes)=true->∃z:Nat,z<4294967296/\kF w cs (Qzc z):=by
 intro fuel cs x h _;obtain⟨n,rfl,_,hwf⟩:=DataW.trod_int underlying151 h;have hn:0<=n/\n<4294967296:=by
  have:0<=n/\n<=4294967295:=by simpa[Lit.wf,IntKind.min,IntKind.max,IntKind.signed,IntKind.bits]using hwf
  omega
 refine⟨n.toNat,by omega,rfl,λj u hu=>?_⟩
 match j,hu with
 |
  0,hu =>
  simp at hu;subst hu;refine⟨_,rfl,?_⟩;rw[show max n 0=n by omega];exact .int _ _
 |j+1,hu=>simp at hu
set_option maxRecDepth 20000 in
theorem XR:∀fuel cs x,DataW.trod enc prog w 0 (λ_=>true) true fuel 36 cs=some x->(x.1.weights prog 36).all (· <= reachBytes)=true->∃z:RawInt,z.Ok/\kF w cs (Lz z):=by
 intro fuel cs x h hz;obtain⟨xs,n,_,rfl,hl,hxs,hf⟩:=DataW.trod_struct underlying36 h;have hl:cs.length=2:=hl
 match cs,hl with
 |
  [v0,v1],_ =>
  obtain⟨z0,hz0⟩:=Sp (i:=0) hxs (by decide);obtain⟨z1,hz1⟩:=Sp (i:=1) hxs (by decide);have h0:=hf 0 _ rfl;have h1:=hf 1 _ rfl;rw[hz0]at h0;rw[hz1]at h1;obtain⟨b,e0,_⟩:=DataW.trod_bool underlying4 h0;have f0:v0=.bool b:=(List.cons.inj (show [v0]=[Value.bool b] from e0)).1;have hw1:=Mk underlying36 hz (i:=1) rfl (d:=z1.1) (by rw[Q9,hz1];rfl);obtain⟨v,l,e1,hlo,_,hrep⟩:=GK (sz:=1) (Ok:=λu:Nat=>u<4294967296) (rw_:=Qzc) underlying34 (by kernel_rfl) (by decide) (of_decide_eq_true (by kernel_rfl)) (λ_=>rfl) Qle h1 hw1;have f1:v1=v:=(List.cons.inj (show [v1]=[v] from e1)).1;subst f0 f1;refine⟨⟨b,l⟩,⟨hlo⟩,rfl,λj u hu=>?_⟩
  match j,hu with
  | 0,hu=>simp at hu;subst hu;exact⟨_,rfl,.bool _⟩
  | 1,hu=>simp at hu;subst hu;exact⟨_,rfl,hrep⟩
  |j+2,hu=>simp at hu
set_option maxRecDepth 20000 in
theorem bI:∀fuel cs x,DataW.trod enc prog w 0 (λ_=>true) true fuel 40 cs=some x->(x.1.weights prog 40).all (· <= reachBytes)=true->∃z:RawPt,z.Ok/\kF w cs (rwq z):=by
 intro fuel cs x h hz;obtain⟨xs,n,_,rfl,hl,hxs,hf⟩:=DataW.trod_struct underlying40 h;have hl:cs.length=5:=hl
 match cs,hl with
 |
  [v0,v1,v2,v3,v4],_ =>
  obtain⟨z0,hz0⟩:=Sp (i:=0) hxs (by decide);obtain⟨z1,hz1⟩:=Sp (i:=1) hxs (by decide);have h0:=hf 0 _ rfl;have h1:=hf 1 _ rfl;rw[hz0]at h0;rw[hz1]at h1;obtain⟨id,e4,_,hwf⟩:=DataW.trod_int underlying3 h1;have f4:v4=.int .i64 id:=(List.cons.inj (show [v4]=[Value.int .i64 id] from e4)).1;have hw0:=Mk underlying40 hz (i:=0) rfl (d:=z0.1) (by rw[Q9,hz0];rfl);obtain⟨ys,n2,_,e5,_,hys,hg⟩:=DataW.trod_struct underlying38 h0;rw[e5]at hw0;obtain⟨y0,hy0⟩:=Sp (i:=0) hys (by decide);obtain⟨y1,hy1⟩:=Sp (i:=1) hys (by decide);obtain⟨y2,hy2⟩:=Sp (i:=2) hys (by decide);have g0:=hg 0 _ rfl;have g1:=hg 1 _ rfl;have g2:=hg 2 _ rfl;rw[hy0]at g0;rw[hy1]at g1;rw[hy2]at g2;have w0:=Mk underlying38 hw0 (i:=0) rfl (d:=y0.1) (by rw[Q9,hy0];rfl);have w1:=Mk underlying38 hw0 (i:=1) rfl (d:=y1.1) (by rw[Q9,hy1];rfl);have w2:=Mk underlying38 hw0 (i:=2) rfl (d:=y2.1) (by rw[Q9,hy2];rfl);obtain⟨u0,lx,e0,hx,_,rx⟩:=GK (sz:=2) (Ok:=RawInt.Ok) (rw_:=Lz) underlying33 (by kernel_rfl) (by decide) (of_decide_eq_true (by kernel_rfl)) (λ_=>rfl) XR g0 w0;obtain⟨u1,ly,e1,hy,_,ry⟩:=GK (sz:=2) (Ok:=RawInt.Ok) (rw_:=Lz) underlying33 (by kernel_rfl) (by decide) (of_decide_eq_true (by kernel_rfl)) (λ_=>rfl) XR g1 w1;obtain⟨d,hd,hde⟩:=XR _ _ _ g2 w2;have f0:v0=u0:=(List.cons.inj (show [v0]=[u0] from e0)).1;have f1:v1=u1:=(List.cons.inj (show [v1]=[u1] from e1)).1;have hde2:kF w [v2,v3] (Lz d):=hde;subst f0 f1 f4;obtain⟨q2,hq2,r2⟩:=hde2.2 0 _ rfl;obtain⟨q3,hq3,r3⟩:=hde2.2 1 _ rfl;simp at hq2 hq3;subst hq2 hq3;refine⟨⟨lx,ly,d,id⟩,⟨hx,hy,hd,by simpa[Lit.wf,IntKind.min,IntKind.max,IntKind.signed,IntKind.bits]using hwf⟩,rfl,λj u hu=>?_⟩
  match j,hu with
  | 0,hu=>simp[rwq]at hu;subst hu;exact⟨_,rfl,rx⟩
  | 1,hu=>simp[rwq]at hu;subst hu;exact⟨_,rfl,ry⟩
  | 2,hu=>simp[rwq]at hu;subst hu;exact⟨_,rfl,r2⟩
  | 3,hu=>simp[rwq]at hu;subst hu;exact⟨_,rfl,r3⟩
  | 4,hu=>simp[rwq]at hu;subst hu;exact⟨_,rfl,.int _ _⟩
  |j+5,hu=>simp[rwq]at hu
end Orr
namespace Orr
open Go Go.Proofs Tryz Go.ChangeShapes Go.WideShapes Go.ChangeAt Go.RowKit Go.WideElems
variable{H:Type}{enc:TypeId×Value->H}{w:World}
end Orr
