/- MD3 MD4 MD5 MD6 X22 SD2 H4 En2 X20 X21 En3 EnZ En4 EnO EnQ EnP EnR RawO EnA EnE W24 EnU EnK RatZ EnB EnG WT24 WTR24 ReadN LastN -/
import Derived.Test.YtoohlnnpalgnaaaGreatPart09
import Derived.Test.YtoohlnnpalgnaaaGreatPart00
import Derived.Test.YtoohlnnpalgnaaaGreatPart08
import Derived.Test.YtoohlnnpalgnaaaGreatPart07
import Derived.Deep.Slices
import Derived.ProofKit
import Derived.OpenShut
import Derived.WideKeyArgs
import Derived.SizedLaws
set_option linter.all false
namespace Orr
open Go Go.Proofs Tryz Orq
set_option maxRecDepth 10000
set_option maxHeartbeats 8000000 in
theorem IP{l:List Pt}{a:Tm}{c:Cr}{r1:Us}(hl:∀p∈l,Sc p.c)(hn:l.length≤6)(ha:Va a):U7 prog 199 [.one (.ow 0 0),.agg (ta a)] [.blk 229 (Hm c (U3 l) r1)] [.one (.row (U9 (xP l a)))] [.blk 229 (Hm c (U3 l) (pE l a))]:=by
 have hwl:=QJ l;have cw:=mG (l:=l) (Qax hl) (by omega);have hgb:=Qh6 a;unfold pE xP gC qS;obtain⟨sg',hsg⟩:∃s,s=Fw a:=⟨_,rfl⟩;obtain⟨W,hW⟩:=nmE (Tq l);have hWs:∀p∈W,Sc p.c:=λp hp=>hl p (Nx (by rw[<-hW];exact hp))
 have mR:=λ{x y z:Pt} (hx:x∈W) (hy:y∈W) (hz:z∈W)=>lR (t:=a) (hWs x hx) (hWs y hy) (hWs z hz) ha
 have mC:=λ{x y z u:Pt} (hx:x∈W) (hy:y∈W) (hz:z∈W) (hu:u∈W)=>Qnc (t:=a) (hWs x hx) (hWs y hy) (hWs z hz) (hWs u hu) ha
 rw[<-hW]at cw hwl ⊢;rw[<-hsg]at hgb mR mC ⊢;have hW6:W.length<=6:=by omega
 have hTi:=λps=>Qcq hgb ps
 have hcp:(W.map Fe).length=W.length:=by simp
 have hcp2:=G7 W;have hdr:∀i,(U3 W).drop i=U3 (W.drop i):=λi=>by unfold U3;rw[List.map_drop]
 have hel:∀z∈U3 W,z.length=5:=λz hz=>by obtain⟨p,_,rfl⟩:=Za.1 hz;rfl
 have s7:∀x:Ct,∀y∈[Du x],y.length=7:=λx y hy=>by rw[Qk.1 hy];rfl
 have s3:∀x:P3,∀y∈[trL x],y.length=3:=λx y hy=>by rw[Qk.1 hy];rfl
 obtain⟨T,hT⟩:=nmE (A4 (ZL sg' (Rx W)));obtain⟨G,hG⟩:=nmE (Og T (VC sg' (O8 W)));have hTI:kO T:=by rw[hT];exact hTi _
 have hTm:Qmi T:=λk=>(hTI k).1
 have hGB:Qd6 G:=λk=>by rw[hG];exact pL _ _ _ k
 rw[<-hT,<-hG];have e0:(U9 (((Lx 0 W).map (PO sg'))))=[]:=rfl;refine Fx func199 rfl ?_;refine Ud [.k cw,.o 6 99 7] rfl ?_;refine Ui (S:=Nat) 4 (λL1 i=>(42,.v (.oi i))::(6,.v (.one (.orow 2 7 none)))::L1) (λi=>[.blk 229 (Hm c (U3 l) r1),.blk 105 (ta a),.row false 99 7 (U9 ((Lx i W).map (PO sg'))),.mpb (A4 (ZL sg' (Lx i W)))]) (λi=>W.length-i) (λi=>i<=W.length) 0 (Qh _) rfl rfl λi hi=>?_
 by_cases hlt:i<W.length
 ·obtain⟨x,hx⟩:=gxE (l:=W) (i:=i) hlt;have xm:=Qc hx;obtain⟨V,hV⟩:=nmE (W.drop (i+1));have hVl:V.length=W.length-(i+1):=by rw[hV,Q8]
  have hVm:∀p∈V,p∈W:=λp hp=>by rw[hV]at hp;exact Qz hp
  have eV:(U3 W).drop (i+1)=U3 V:=by rw[hdr,<-hV]
  rw[<-LA W x i];refine go tt [.T,.x (Tj hx),.r 49 (eI (b:=((i+1:Nat):Int)) (by omega)),.i (i+1),.r 50 (UA eV)] rfl (by simp only[U4];(repeat' apply And.intro) <;> first|omega|exact hel) ?_;have hVr:=G7 V;refine Ui (S:=Nat) 5 (λL1 j=>(52,.v (.oi j))::(6,.v (.one (.orow 2 7 none)))::L1) (λj=>[.blk 229 (Hm c (U3 l) r1),.blk 105 (ta a),.row false 99 7 (U9 ((p3j W x i j).map (PO sg'))),.mpb (A4 (ZL sg' (p3j W x i j))),.blk 40 (Fe x)]) (λj=>V.length-j) (λj=>j<=V.length) 0 (Qh _) rfl rfl λj hj=>?_
  by_cases hltj:j<V.length
  ·obtain⟨y,hy⟩:=gxE (l:=V) (i:=j) hltj;have ym:=hVm y (Qc hy);have hy':(W.drop (i+1))[j]? = some y:=by rw[<-hV];exact hy
   obtain⟨U,hU⟩:=nmE (V.drop (j+1));have hUl:U.length=V.length-(j+1):=by rw[hU,Q8]
   have hUm:∀p∈U,p∈W:=λp hp=>by rw[hU]at hp;exact hVm p (Qz hp)
   have hUW:U=(W.drop (i+1)).drop (j+1):=by rw[hU,hV]
   have eU:(U3 W).drop (i+j+2)=U3 U:=by rw[hdr,hU,hV,Jw];congr 2;omega
   have hUr:=G7 U;rw[<-LO W x y i j];refine go tt [.T,.x (Tj hy),.r 61 (eI (b:=((i+j+2:Nat):Int)) (by omega)),.i (i+j+2),.r 62 (UA eU)] rfl (by simp only[U4];(repeat' apply And.intro) <;> first|omega|exact hel) ?_;refine Ui (S:=Nat) 6 (λL1 k=>(64,.v (.oi k))::(6,.v (.one (.orow 2 7 none)))::L1) (λk=>[.blk 229 (Hm c (U3 l) r1),.blk 105 (ta a),.row false 99 7 (U9 ((qA W x y i j k).map (PO sg'))),.mpb (A4 (ZL sg' (qA W x y i j k))),.blk 40 (Fe x),.blk 40 (Fe y)]) (λk=>U.length-k) (λk=>k<=U.length) 0 (Qh _) rfl rfl λk hk=>?_
   by_cases hltk:k<U.length
   ·obtain⟨z,hz⟩:=gxE (l:=U) (i:=k) hltk;have zm:=hUm z (Qc hz);have hlen:=oZ hW6 (k:=k) hx hy';have en:=LI (x:=x) (y:=y) (by rw[<-hUW];exact hz);have et:=dB sg' (qA W x y i j k) (x,y,z);rw[<-en]at et;refine go tt [.T,.x (Tj hz),.k (mR xm ym zm),.s (sz:=7) (s7 _)] rfl (by simp[U4,Pu] <;> omega) ?_;exact rd (k+1) (by omega) hltk (by rw[et,en,Yh];simp[U9];rfl)
   ·have e:=vQ (x:=x) (k:=k) hy' (by rw[<-hUW];omega);rw[e];refine go tt [.F] rfl (by simp[U4] <;> omega) ?_;exact rd (j+1) (by omega) hltj rfl
  ·have e:=yO (x:=x) (j:=j) hx (by rw[<-hV];omega);rw[e];refine go tt [.F] rfl (by simp[U4] <;> omega) ?_;exact rd (i+1) (by omega) hlt rfl
 rw[Qaq (show i=W.length by omega),<-hT];have hiW:¬i<W.length:=hlt;clear hlt;obtain⟨C3,hC3⟩:=nmE ((Rx W).map (PO sg'));have hC3l:C3.length<=20:=by rw[hC3,Q9];exact(VV hW6).1
 rw[<-hC3];refine Ud [.F] rfl ?_;have eC:U9 C3=U9 (C3++(Ex 0 W).map (HO sg')):=by rw[show Ex 0 W=[] from rfl,X9,Zw]
 rw[eC];refine Ui (S:=Nat) 5 (λL1 i=>(97,.v (.oi i))::(6,.v (.one (.orow 2 7 none)))::L1) (λi=>[.blk 229 (Hm c (U3 l) r1),.blk 105 (ta a),.row false 99 7 (U9 (C3++(Ex i W).map (HO sg'))),.mpb T,.mpb (Og T (VC sg' (Ex i W)))]) (λi=>W.length-i) (λi=>i<=W.length) 0 (Qh _) rfl rfl λi hi=>?_
 by_cases hlt:i<W.length
 ·obtain⟨x,hx⟩:=gxE (l:=W) (i:=i) hlt;have xm:=Qc hx;obtain⟨V,hV⟩:=nmE (W.drop (i+1));have hVl:V.length=W.length-(i+1):=by rw[hV,Q8]
  have hVm:∀p∈V,p∈W:=λp hp=>by rw[hV]at hp;exact Qz hp
  have eV:(U3 W).drop (i+1)=U3 V:=by rw[hdr,<-hV]
  have hVr:=G7 V;rw[<-Qjk W x i];refine go tt [.T,.x (Tj hx),.r 104 (eI (b:=((i+1:Nat):Int)) (by omega)),.i (i+1),.r 105 (UA eV)] rfl (by simp only[U4];(repeat' apply And.intro) <;> first|omega|exact hel) ?_;refine Ui (S:=Nat) 6 (λL1 j=>(107,.v (.oi j))::(6,.v (.one (.orow 2 7 none)))::L1) (λj=>[.blk 229 (Hm c (U3 l) r1),.blk 105 (ta a),.row false 99 7 (U9 (C3++(p4j W x i j).map (HO sg'))),.mpb T,.mpb (Og T (VC sg' (p4j W x i j))),.blk 40 (Fe x)]) (λj=>V.length-j) (λj=>j<=V.length) 0 (Qh _) rfl rfl λj hj=>?_
  by_cases hltj:j<V.length
  ·obtain⟨y,hy⟩:=gxE (l:=V) (i:=j) hltj;have ym:=hVm y (Qc hy);have hy':(W.drop (i+1))[j]? = some y:=by rw[<-hV];exact hy
   obtain⟨U,hU⟩:=nmE (V.drop (j+1));have hUl:U.length=V.length-(j+1):=by rw[hU,Q8]
   have hUm:∀p∈U,p∈W:=λp hp=>by rw[hU]at hp;exact hVm p (Qz hp)
   have hUW:U=(W.drop (i+1)).drop (j+1):=by rw[hU,hV]
   have eU:(U3 W).drop (i+j+2)=U3 U:=by rw[hdr,hU,hV,Jw];congr 2;omega
   have hUr:=G7 U;rw[<-Qjl W x y i j];refine go tt [.T,.x (Tj hy),.r 116 (eI (b:=((i+j+2:Nat):Int)) (by omega)),.i (i+j+2),.r 117 (UA eU)] rfl (by simp only[U4];(repeat' apply And.intro) <;> first|omega|exact hel) ?_;refine Ui (S:=Nat) 7 (λL1 k=>(119,.v (.oi k))::(6,.v (.one (.orow 2 7 none)))::L1) (λk=>[.blk 229 (Hm c (U3 l) r1),.blk 105 (ta a),.row false 99 7 (U9 (C3++(p4k W x y i j k).map (HO sg'))),.mpb T,.mpb (Og T (VC sg' (p4k W x y i j k))),.blk 40 (Fe x),.blk 40 (Fe y)]) (λk=>U.length-k) (λk=>k<=U.length) 0 (Qh _) rfl rfl λk hk=>?_
   by_cases hltk:k<U.length
   ·obtain⟨z,hz⟩:=gxE (l:=U) (i:=k) hltk;have zm:=hUm z (Qc hz);have hz':((W.drop (i+1)).drop (j+1))[k]? = some z:=by rw[<-hUW];exact hz
    obtain⟨R,hR⟩:=nmE (U.drop (k+1));have hRl:R.length=U.length-(k+1):=by rw[hR,Q8]
    have hRm:∀p∈R,p∈W:=λp hp=>by rw[hR]at hp;exact hUm p (Qz hp)
    have hRW:R=((W.drop (i+1)).drop (j+1)).drop (k+1):=by rw[hR,hUW]
    have eR:(U3 W).drop (i+j+k+3)=U3 R:=by rw[hdr,hRW,Jw,Jw];congr 2;omega
    have hRr:=G7 R;rw[<-Qjn W x y z i j k];refine go tt [.T,.x (Tj hz),.r 130 (eI (b:=((i+j+k+3:Nat):Int)) (by omega)),.i (i+j+k+3),.r 131 (UA eR)] rfl (by simp only[U4];(repeat' apply And.intro) <;> first|omega|exact hel) ?_;refine Ui (S:=Nat) 8 (λL1 m=>(133,.v (.oi m))::(6,.v (.one (.orow 2 7 none)))::L1) (λm=>[.blk 229 (Hm c (U3 l) r1),.blk 105 (ta a),.row false 99 7 (U9 (C3++(p4m W x y z i j k m).map (HO sg'))),.mpb T,.mpb (Og T (VC sg' (p4m W x y z i j k m))),.blk 40 (Fe x),.blk 40 (Fe y),.blk 40 (Fe z)]) (λm=>R.length-m) (λm=>m<=R.length) 0 (Qh _) rfl rfl λm hm=>?_
    by_cases hltm:m<R.length
    ·obtain⟨u,hu⟩:=gxE (l:=R) (i:=m) hltm;have um:=hRm u (Qc hu);have hlen:=Qp3 hW6 (m:=m) hx hy' hz';have en:=Qjm (x:=x) (y:=y) (z:=z) (by rw[<-hRW];exact hu);have et:=nR sg' T (p4m W x y z i j k m) (x,y,z,u);rw[<-en]at et;have cf:=Qua (F:=Og T (VC sg' (p4m W x y z i j k m))) (s:=(qM sg' x y z u).want) (n0:=x.id) (n1:=y.id) (n2:=z.id) (n3:=u.id) hTI (hgb _);refine go tt [.T,.x (Tj hu),.k (mC xm ym zm um),.s (sz:=7) (s7 _),.c [4,3] cf] rfl (by simp[U4,Pu] <;> omega) ?_;exact rd (m+1) (by omega) hltm (by rw[et,en,Yh,<-Zd];simp[U9];rfl)
    ·have e:=Qp2 (x:=x) (y:=y) (m:=m) hz' (by rw[<-hRW];omega);rw[e];refine go tt [.F] rfl (by simp[U4] <;> omega) ?_;exact rd (k+1) (by omega) hltk rfl
   ·have e:=Qp1 (x:=x) (k:=k) hy' (by rw[<-hUW];omega);rw[e];refine go tt [.F] rfl (by simp[U4] <;> omega) ?_;exact rd (j+1) (by omega) hltj rfl
  ·have e:=Qp0 (x:=x) (j:=j) hx (by rw[<-hV];omega);rw[e];refine go tt [.F] rfl (by simp[U4] <;> omega) ?_;exact rd (i+1) (by omega) hlt rfl
 rw[Qqh (show i=W.length by omega),<-hG];obtain⟨C4,hC4⟩:=nmE (C3++(O8 W).map (HO sg'));rw[<-hC4];refine Ud [.F] rfl ?_;refine ozM 0 13 84 3 rfl rfl ?_;have eT:([]:Us)=ZW ((Lx 0 W).filter (yJ T G)):=rfl;rw[eT];refine Ui (S:=Nat) 6 (λL1 i=>(174,.v (.oi i))::L1) (λi=>[.blk 229 [.bool true,pl c.now.p,sg c.now.lo.num,mg c.now.lo.num,sg (c.now.lo.den:Int),mg (c.now.lo.den:Int),sg c.now.hi.num,mg c.now.hi.num,sg (c.now.hi.den:Int),mg (c.now.hi.den:Int),.row (Ce c.l),.int .i64 c.ev,.row (U3 l),.orow 5 3 none],.blk 105 (ta a),.row false 99 7 (U9 C4),.mpb T,.mpb G,.row false 84 3 (ZW ((Lx i W).filter (yJ T G)))]) (λi=>W.length-i) (λi=>i<=W.length) 0 (Qh _) rfl rfl λi hi=>?_
 by_cases hlt:i<W.length
 ·obtain⟨x,hx⟩:=gxE (l:=W) (i:=i) hlt;obtain⟨V,hV⟩:=nmE (W.drop (i+1));have hVl:V.length=W.length-(i+1):=by rw[hV,Q8]
  have eV:(U3 W).drop (i+1)=U3 V:=by rw[hdr,<-hV]
  have hVr:=G7 V;rw[<-LA W x i];refine go tt [.T,.x (Tj hx),.r 181 (eI (b:=((i+1:Nat):Int)) (by omega)),.i (i+1),.r 182 (UA eV)] rfl (by simp only[U4];(repeat' apply And.intro) <;> first|omega|exact hel) ?_;refine Ui (S:=Nat) 7 (λL1 j=>(184,.v (.oi j))::L1) (λj=>[.blk 229 [.bool true,pl c.now.p,sg c.now.lo.num,mg c.now.lo.num,sg (c.now.lo.den:Int),mg (c.now.lo.den:Int),sg c.now.hi.num,mg c.now.hi.num,sg (c.now.hi.den:Int),mg (c.now.hi.den:Int),.row (Ce c.l),.int .i64 c.ev,.row (U3 l),.orow 5 3 none],.blk 105 (ta a),.row false 99 7 (U9 C4),.mpb T,.mpb G,.row false 84 3 (ZW ((p3j W x i j).filter (yJ T G))),.blk 40 (Fe x)]) (λj=>V.length-j) (λj=>j<=V.length) 0 (Qh _) rfl rfl λj hj=>?_
  by_cases hltj:j<V.length
  ·obtain⟨y,hy⟩:=gxE (l:=V) (i:=j) hltj;have hy':(W.drop (i+1))[j]? = some y:=by rw[<-hV];exact hy
   obtain⟨U,hU⟩:=nmE (V.drop (j+1));have hUl:U.length=V.length-(j+1):=by rw[hU,Q8]
   have hUW:U=(W.drop (i+1)).drop (j+1):=by rw[hU,hV]
   have eU:(U3 W).drop (i+j+2)=U3 U:=by rw[hdr,hU,hV,Jw];congr 2;omega
   have hUr:=G7 U;rw[<-LO W x y i j];refine go tt [.T,.x (Tj hy),.r 193 (eI (b:=((i+j+2:Nat):Int)) (by omega)),.i (i+j+2),.r 194 (UA eU)] rfl (by simp only[U4];(repeat' apply And.intro) <;> first|omega|exact hel) ?_;refine Ui (S:=Nat) 8 (λL1 k=>(196,.v (.oi k))::L1) (λk=>[.blk 229 [.bool true,pl c.now.p,sg c.now.lo.num,mg c.now.lo.num,sg (c.now.lo.den:Int),mg (c.now.lo.den:Int),sg c.now.hi.num,mg c.now.hi.num,sg (c.now.hi.den:Int),mg (c.now.hi.den:Int),.row (Ce c.l),.int .i64 c.ev,.row (U3 l),.orow 5 3 none],.blk 105 (ta a),.row false 99 7 (U9 C4),.mpb T,.mpb G,.row false 84 3 (ZW ((qA W x y i j k).filter (yJ T G))),.blk 40 (Fe x),.blk 40 (Fe y)]) (λk=>U.length-k) (λk=>k<=U.length) 0 (Qh _) rfl rfl λk hk=>?_
   by_cases hltk:k<U.length
   ·obtain⟨z,hz⟩:=gxE (l:=U) (i:=k) hltk;have hlen:=oZ hW6 (k:=k) hx hy';have en:=LI (x:=x) (y:=y) (by rw[<-hUW];exact hz);have hfl:=Y0 (yJ T G) (qA W x y i j k);have htl:=sT ((qA W x y i j k).filter (yJ T G));by_cases h1:ZC T [x.id,y.id,z.id]≠0
    ·by_cases h2:BU G [x.id,y.id,z.id]=true
     ·have ef:yJ T G (x,y,z)=false:=by unfold yJ nE;simp[h2]
      have eF:=Qhs (ps:=qA W x y i j k) ef;rw[<-en]at eF;refine go tt [.T,.x (Tj hz),.g 211 true (decide_eq_true h1),.f (by rw[h2];rfl)] rfl (by simp only[U4];(repeat' apply And.intro) <;> first|exact hTm|exact hGB|omega|(simp only[Q5,Xl];omega)) ?_;exact rd (k+1) (by omega) hltk (by rw[eF];rfl)
     ·have h2:BU G [x.id,y.id,z.id]=false:=by simpa using h2
      have ef:yJ T G (x,y,z)=true:=by unfold yJ nE;simp[h2,h1]
      have eF:=Qu9 (ps:=qA W x y i j k) ef;rw[<-en]at eF;refine go tt [.T,.x (Tj hz),.g 211 true (decide_eq_true h1),.t (by rw[h2];rfl),.s (sz:=3) (s3 (x,y,z))] rfl (by simp only[U4];(repeat' apply And.intro) <;> first|exact hTm|exact hGB|omega|(simp only[Q5,Xl];omega)) ?_;exact rd (k+1) (by omega) hltk (by rw[eF];simp[ZW];rfl)
    ·have ef:yJ T G (x,y,z)=false:=by unfold yJ nE;simp[h1]
     have eF:=Qhs (ps:=qA W x y i j k) ef;rw[<-en]at eF;refine go tt [.T,.x (Tj hz),.g 211 false (decide_eq_false h1),.f rfl] rfl (by simp only[U4];(repeat' apply And.intro) <;> first|exact hTm|exact hGB|omega|(simp only[Q5,Xl];omega)) ?_;exact rd (k+1) (by omega) hltk (by rw[eF];rfl)
   ·have e:=vQ (x:=x) (k:=k) hy' (by rw[<-hUW];omega);rw[e];refine go tt [.F] rfl (by simp[U4] <;> omega) ?_;exact rd (j+1) (by omega) hltj rfl
  ·have e:=yO (x:=x) (j:=j) hx (by rw[<-hV];omega);rw[e];refine go tt [.F] rfl (by simp[U4] <;> omega) ?_;exact rd (i+1) (by omega) hlt rfl
 rw[Qaq (show i=W.length by omega)];rw[hC4,hC3];exact Uh [2,5] [0] [.F] rfl
theorem Qx0{T:Nat}{t:Rat}{Bc:Tm->List Ct}{Br:Tm->Us}{r0:Us}(ht:Qs 1640000 t)(hB:BuildOk Bc)
 (hb:∀a c r1,Va a->CrOk c->U7 prog 199 [.one (.ow 0 0),.agg (ta a)] [.blk T (Hm c r0 r1)] [.one (.row (U9 (Bc a)))] [.blk T (Hm c r0 (Br a))])
 {K:Nat} {c c':Cr} {r1 r1':Us} {n:Int} (hc:CrOk c) (hev:0<=c.ev/\c.ev+K<=1000000000000000000) (h:Ft c.now t<=0) (hg:HW Bc Br t K c r1 0=some (c',r1',n)) :
 U7 prog 396 [.one (.ow 0 0),.agg (rl t),.one (.ofn 199 [.ow 0 0] [])] [.blk T (Hm c r0 r1)] [.oi n,.oi 0] [.blk T (Hm c' r0 r1')]:=by
 have qt:Qb t:=ht.mono (by decide);have c1:=Dn hc.n.tb qt;refine Fx func396 rfl ?_;refine Ud [.c [0] (QF hc.n),.k c1,.f (by simpa using h)] rfl ?_;refine Ui (S:=Nat×Cr×Us×Int) 2 (λL1 s=>(8,.v (.oi s.2.2.2))::L1) (λs=>[.blk T (Hm s.2.1 r0 s.2.2.1),.blk 42 (rl t)]) (λs=>s.1) (λs=>CrOk s.2.1/\(0<=s.2.1.ev/\s.2.1.ev+s.1<=1000000000000000000)/\(0<=s.2.2.2/\s.2.2.2+s.1<=1000000000000000000)/\HW Bc Br t s.1 s.2.1 s.2.2.1 s.2.2.2=some (c',r1',n)) (K,c,r1,0) ⟨hc,hev,⟨Int.le_refl 0,by dsimp only;omega⟩,hg⟩ rfl rfl λ⟨k,x,r,m⟩ ⟨j1,j2,j3,j4⟩=>?_
 dsimp only at j1 j2 j3 j4 ⊢;cases k with
 |zero=>cases j4
 |
  succ k =>
  simp only[HW]at j4;obtain⟨ws,w1,j4⟩:=Qd.1 j4;obtain⟨o,o1,j4⟩:=Qd.1 j4;have cn:=MW (T:=T) (r0:=r0) (r1:=r) j1 w1 o1;have ca:=VO (U5 t.num) (U5 (t.den:Int)) (Qa ht.1 (by decide)) (Qa ht.2 (by decide)) (by rw[Se];exact ht.mono (by decide));rw[Se]at ca;cases o with
  |
   none =>
   injection j4 with j4;injection j4 with e1 j4;injection j4 with e2 e3;subst e1;subst e2;subst e3;exact Uh [] [0] [.c [0] cn,.g 25 true rfl,.t rfl,.k ca] rfl
  |
   some a =>
   have ha:=LD j1 w1 o1;dsimp only at j4;have cc:=Dn ha.tb qt;by_cases h0:0<Ft a t
   ·rw[if_pos h0]at j4;injection j4 with j4;injection j4 with e1 j4;injection j4 with e2 e3;subst e1;subst e2;subst e3;exact Uh [] [0] [.c [0] cn,.g 25 false rfl,.k cc,.t (by simpa using h0),.k ca] rfl
   ·rw[if_neg h0]at j4;obtain⟨w2,l1,j4⟩:=Qd.1 j4;have j1':=Eu j1 w1;have cl:=Pe (b:=a) (l:=[]) ha.tb (λt ht=>by cases ht) (by decide) rfl;have cb:=hb a { x with l:=ws } r ha j1';have cy:=UU (T:=T) (r0:=r0) (r1:=Br a) j1' ha (hB.p a ha) (hB.n a ha) l1;have hf:decide (0<Ft a t)=false:=by simpa using h0
    refine Ue [.c [0] cn,.g 25 false rfl,.k cc,.f hf,.k cl,.c [0] cb,.c [0] cy] rfl ?_;exact rd (k,⟨a,w2,x.ev+1⟩,Br a,m+1) (by dsimp only;omega) ⟨lay_ok _ j1' ha (hB.p a ha) (hB.n a ha) l1,by dsimp only;omega,by dsimp only;omega,j4⟩ rfl
theorem Qtr{t:Rat}{l:List Pt}{K:Nat}{c c':Cr}{r1 r1':Us}{n:Int}(ht:Qs 1640000 t)(hl:∀p∈l,Sc p.c)(hn:l.length≤6)(hc:CrOk c)(hev:0≤c.ev/\c.ev+K≤1000000000000000000)(h:Ft c.now t≤0)(hg:HW (xP l) (pE l) t K c r1 0=some (c',r1',n)) :
 U7 prog 432 [.one (.ow 0 0),.agg (rl t)] [.blk 229 (Hm c (U3 l) r1)] [.oi n,.oi 0] [.blk 229 (Hm c' (U3 l) r1')]:=by
 have cg:=Qx0 (T:=229) (r0:=U3 l) ht (pH hl hn) (λa c r1 ha _=>IP (c:=c) (r1:=r1) hl hn ha) hc hev h hg;refine Fx func432 rfl ?_;exact Uh [] [0] [.k (Nz (ht.mono (by decide))),.c [0] cg] rfl
theorem mX{c:Cr}{r0:Us}{ts:List P3}(ht:ts.length<=1000):U7 prog 83 [.one (.ow 0 0)] [.blk 229 (Hm c r0 (ZW ts))] [.one (.row (ZW ts))] [.blk 229 (Hm c r0 (ZW ts))]:=by
 have hl:=sT ts;have h3:∀y∈ZW ts,y.length=3:=λy hy=>by obtain⟨m,_,rfl⟩:=Za.1 hy;rfl
 refine Fx func83 rfl ?_;exact Uh [1] [0] [.s (sz:=3) h3] rfl (by simp[U4] <;> omega)

theorem BG{c:Cr}{l l':List Pt}{r1:Us}{ws:List Wt}(hc:CrOk c)(hl:∀p∈l',Sc p.c)(hn:l'.length≤6)(h:Tn c.l c.now (Fp (xP l' c.now))=some ws) :
 U7 prog 436 [.one (.ow 0 0),.agg [pts l'],.oi 0] [.blk 229 (Hm c (U3 l) r1)] [.oi 0] [.blk 229 (Hm ⟨c.now,ws,c.ev⟩ (U3 l') (pE l' c.now))]:=by
 have hB:=pH hl hn;have cn:=QF (T:=229) (c:=c) (r0:=U3 l') (r1:=r1) hc.n;have cb:=IP (c:=c) (r1:=r1) hl hn hc.n;have cg:=YK (T:=229) (r0:=U3 l') (r1:=pE l' c.now) hc hc.n (I7 hc.n) (Yd 0) (hB.p _ hc.n) (hB.n _ hc.n) h;refine Fx func436 rfl ?_;exact Uh [] [0] [.f rfl,.c [0] cn,.c [0] cb,.c [0] cg] rfl
theorem Qm5{lx ly:Us}{px py:Um}{x y:LV}{d id:Int}{c:Cr}{l:List Pt}{r1:Us}{ws:List Wt}(hx:IsInts lx px)(hy:IsInts ly py)(hd:Gg x y d)(hk:Cs 4294967294 1073741824 (Crv.mk px py d))(hll:l.length<=900)
 (he:WT l ⟨Crv.norm (Crv.mk px py d),id⟩=0) (hc:CrOk c) (hl:∀p∈put l ⟨Crv.norm (Crv.mk px py d),id⟩,Sc p.c) (hn:(put l ⟨Crv.norm (Crv.mk px py d),id⟩).length≤6) (h:Tn c.l c.now (Fp (xP (put l ⟨Crv.norm (Crv.mk px py d),id⟩) c.now))=some ws) :
 U7 prog 434 [.one (.ow 0 0),.agg [.row lx,.row ly,x,y,.int .i64 id]] [.blk 229 (Hm c (U3 l) r1)] [.oi 0] [.blk 229 (Hm ⟨c.now,ws,c.ev⟩ (U3 (put l ⟨Crv.norm (Crv.mk px py d),id⟩)) (pE (put l ⟨Crv.norm (Crv.mk px py d),id⟩) c.now))]:=by
 have cp:=wN (l:=l) (id:=id) hx hy hd hk (by omega);rw[if_pos he,he]at cp;have cw:=BG (l:=l) (r1:=r1) hc hl hn h;refine Fx func434 rfl ?_;obtain⟨b,l',rfl,rfl,_⟩:=hd;exact Uh [] [0] [.k cp,.c [0] cw] rfl
theorem Qes{lx ly:Us}{px py:Um}{x y:LV}{d id:Int}{c:Cr}{l l':List Pt}{r1:Us}{ws:List Wt}(hx:IsInts lx px)(hy:IsInts ly py)(hd:Gg x y d)(hk:Cs 4294967294 1073741824 (Crv.mk px py d))(hll:l.length<=6)(h:has l id=true)(hc:CrOk c)
 (hl':l'=l.set (Rk l id) (Pt.mk (Crv.norm (Crv.mk px py d)) id)) (hs:∀p∈l',Sc p.c) (hw:Tn c.l c.now (Fp (xP l' c.now))=some ws) :
 U7 prog 435 [.one (.ow 0 0),.agg [.row lx,.row ly,x,y,.int .i64 id]] [.blk 229 (Hm c (U3 l) r1)] [.oi 0] [.blk 229 (Hm ⟨c.now,ws,c.ev⟩ (U3 l') (pE l' c.now))]:=by
 have ct1:=UR (l:=l) hx hy hd hk (by omega) h;rw[<-hl']at ct1;have cw:=BG (c:=c) (l:=l) (l':=l') (r1:=r1) hc hs (by rw[hl',Xd];omega) hw;obtain⟨b,r,rfl,rfl,_⟩:=hd;refine Fx func435 rfl ?_;exact Uh [] [0] [.k ct1,.c [0] cw] rfl
theorem Qer{id:Int}{c:Cr}{l l':List Pt}{r1:Us}{ws:List Wt}(hll:l.length<=6)(h:has l id=true)(hc:CrOk c)
 (hl':l'=l.take (Rk l id)++l.drop (Rk l id+1)) (hs:∀p∈l',Sc p.c) (hw:Tn c.l c.now (Fp (xP l' c.now))=some ws) :
 U7 prog 433 [.one (.ow 0 0),.oi id] [.blk 229 (Hm c (U3 l) r1)] [.oi 0] [.blk 229 (Hm ⟨c.now,ws,c.ev⟩ (U3 l') (pE l' c.now))]:=by
 have ct1:=UG (l:=l) (id:=id) (by omega) h;rw[<-hl']at ct1;have cw:=BG (c:=c) (l:=l) (l':=l') (r1:=r1) hc hs (by rw[hl',Qu,Qp,Q8];omega) hw;refine Fx func433 rfl ?_;exact Uh [] [0] [.k ct1,.c [0] cw] rfl
theorem Qba{c:Cr}{r0:Us}{r1:Us}:U7 prog 67 [.one (.ow 0 0)] [.blk 229 (Hm c r0 r1)] [.one (.ow 1 0)] [.blk 229 (Hm c r0 r1),.blk 229 (Hm c r0 r1)]:=by
 refine Fx func67 rfl ?_;exact Uh [] [0,1] [] rfl
theorem Qnm{lx ly:Us}{px py:Um}{x y:LV}{d id:Int}{c:Cr}{l l':List Pt}{r1:Us}{ws:List Wt}(hx:IsInts lx px)(hy:IsInts ly py)(hd:Gg x y d)(hk:Cs 4294967294 1073741824 (Crv.mk px py d))(hll:l.length<=900)(h:has l id=true)(hc:CrOk c)
 (hl':l'=l.set (Rk l id) (Pt.mk (Crv.norm (Crv.mk px py d)) id)) (hs:∀p∈l',Sc p.c) (hw:Tn c.l c.now (Fp (VI l' c.now))=some ws) :
 U7 prog 394 [.one (.ow 0 0),.agg [.row lx,.row ly,x,y,.int .i64 id]] [.blk 220 (Hm c (U3 l) r1)] [.oi 0] [.blk 220 (Hm ⟨c.now,ws,c.ev⟩ (U3 l') (pA l' c.now))]:=by
 have ct1:=UR (l:=l) hx hy hd hk (by omega) h;rw[<-hl']at ct1;have cw:=jZ (c:=c) (l:=l) (l':=l') (r1:=r1) hc hs (by rw[hl',Xd];omega) hw;obtain⟨b,r,rfl,rfl,_⟩:=hd;refine Fx func394 rfl ?_;exact Uh [] [0] [.k ct1,.c [0] cw] rfl
theorem Qnk{id:Int}{c:Cr}{l l':List Pt}{r1:Us}{ws:List Wt}(hll:l.length<=900)(h:has l id=true)(hc:CrOk c)
 (hl':l'=l.take (Rk l id)++l.drop (Rk l id+1)) (hs:∀p∈l',Sc p.c) (hw:Tn c.l c.now (Fp (VI l' c.now))=some ws) :
 U7 prog 390 [.one (.ow 0 0),.oi id] [.blk 220 (Hm c (U3 l) r1)] [.oi 0] [.blk 220 (Hm ⟨c.now,ws,c.ev⟩ (U3 l') (pA l' c.now))]:=by
 have ct1:=UG (l:=l) (id:=id) (by omega) h;rw[<-hl']at ct1;have cw:=jZ (c:=c) (l:=l) (l':=l') (r1:=r1) hc hs (by rw[hl',Qu,Qp,Q8];omega) hw;refine Fx func390 rfl ?_;exact Uh [] [0] [.k ct1,.c [0] cw] rfl
theorem Qx1{T:Nat}{t:Rat}{Bc:Tm->List Ct}{Br:Tm->Us}{r0:Us}(ht:Qs 1640000 t)(hB:BuildOk Bc)
 (hb:∀a c r1,Va a->CrOk c->U7 prog 197 [.one (.ow 0 0),.agg (ta a)] [.blk T (Hm c r0 r1)] [.one (.row (U9 (Bc a)))] [.blk T (Hm c r0 (Br a))])
 {K:Nat} {c c':Cr} {r1 r1':Us} {n:Int} (hc:CrOk c) (hev:0<=c.ev/\c.ev+K<=1000000000000000000) (h:Ft c.now t<=0) (hg:HW Bc Br t K c r1 0=some (c',r1',n)) :
 U7 prog 396 [.one (.ow 0 0),.agg (rl t),.one (.ofn 197 [.ow 0 0] [])] [.blk T (Hm c r0 r1)] [.oi n,.oi 0] [.blk T (Hm c' r0 r1')]:=by
 have qt:Qb t:=ht.mono (by decide);have c1:=Dn hc.n.tb qt;refine Fx func396 rfl ?_;refine Ud [.c [0] (QF hc.n),.k c1,.f (by simpa using h)] rfl ?_;refine Ui (S:=Nat×Cr×Us×Int) 2 (λL1 s=>(8,.v (.oi s.2.2.2))::L1) (λs=>[.blk T (Hm s.2.1 r0 s.2.2.1),.blk 42 (rl t)]) (λs=>s.1) (λs=>CrOk s.2.1/\(0<=s.2.1.ev/\s.2.1.ev+s.1<=1000000000000000000)/\(0<=s.2.2.2/\s.2.2.2+s.1<=1000000000000000000)/\HW Bc Br t s.1 s.2.1 s.2.2.1 s.2.2.2=some (c',r1',n)) (K,c,r1,0) ⟨hc,hev,⟨Int.le_refl 0,by dsimp only;omega⟩,hg⟩ rfl rfl λ⟨k,x,r,m⟩ ⟨j1,j2,j3,j4⟩=>?_
 dsimp only at j1 j2 j3 j4 ⊢;cases k with
 |zero=>cases j4
 |
  succ k =>
  simp only[HW]at j4;obtain⟨ws,w1,j4⟩:=Qd.1 j4;obtain⟨o,o1,j4⟩:=Qd.1 j4;have cn:=MW (T:=T) (r0:=r0) (r1:=r) j1 w1 o1;have ca:=VO (U5 t.num) (U5 (t.den:Int)) (Qa ht.1 (by decide)) (Qa ht.2 (by decide)) (by rw[Se];exact ht.mono (by decide));rw[Se]at ca;cases o with
  |
   none =>
   injection j4 with j4;injection j4 with e1 j4;injection j4 with e2 e3;subst e1;subst e2;subst e3;exact Uh [] [0] [.c [0] cn,.g 25 true rfl,.t rfl,.k ca] rfl
  |
   some a =>
   have ha:=LD j1 w1 o1;dsimp only at j4;have cc:=Dn ha.tb qt;by_cases h0:0<Ft a t
   ·rw[if_pos h0]at j4;injection j4 with j4;injection j4 with e1 j4;injection j4 with e2 e3;subst e1;subst e2;subst e3;exact Uh [] [0] [.c [0] cn,.g 25 false rfl,.k cc,.t (by simpa using h0),.k ca] rfl
   ·rw[if_neg h0]at j4;obtain⟨w2,l1,j4⟩:=Qd.1 j4;have j1':=Eu j1 w1;have cl:=Pe (b:=a) (l:=[]) ha.tb (λt ht=>by cases ht) (by decide) rfl;have cb:=hb a { x with l:=ws } r ha j1';have cy:=UU (T:=T) (r0:=r0) (r1:=Br a) j1' ha (hB.p a ha) (hB.n a ha) l1;have hf:decide (0<Ft a t)=false:=by simpa using h0
    refine Ue [.c [0] cn,.g 25 false rfl,.k cc,.f hf,.k cl,.c [0] cb,.c [0] cy] rfl ?_;exact rd (k,⟨a,w2,x.ev+1⟩,Br a,m+1) (by dsimp only;omega) ⟨lay_ok _ j1' ha (hB.p a ha) (hB.n a ha) l1,by dsimp only;omega,by dsimp only;omega,j4⟩ rfl
def Qxu(l:List Pt)(a:Tm):Cr:=⟨a,(Fp (BX l a)).map fresh,0⟩
theorem Qtt{t:Rat}{l:List Pt}{K:Nat}{c c':Cr}{r1 r1':Us}{n:Int}(ht:Qs 1640000 t)(hl:∀p∈l,Sc p.c)(hn:l.length≤10)(hc:CrOk c)(hev:0≤c.ev/\c.ev+K≤1000000000000000000)(h:Ft c.now t≤0)(hg:HW (BX l) (brH l) t K c r1 0=some (c',r1',n)) :
 U7 prog 422 [.one (.ow 0 0),.agg (rl t)] [.blk 225 (Hm c (U3 l) r1)] [.oi n,.oi 0] [.blk 225 (Hm c' (U3 l) r1')]:=by
 have cg:=Qx1 (T:=225) (r0:=U3 l) ht (pR hl hn) (λa c r1 ha _=>IN (c:=c) (r1:=r1) hl hn ha) hc hev h hg;refine Fx func422 rfl ?_;exact Uh [] [0] [.k (Nz (ht.mono (by decide))),.c [0] cg] rfl
theorem Qtu{c:Cr}{l s:List Pt}(hs:s.length<=1000000):U7 prog 82 [.one (.ow 0 0)] [.blk 225 (Hm c (U3 l) (U3 s))] [.one (ids (s.map (·.id)))] [.blk 225 (Hm c (U3 l) (U3 s))]:=by
 have hcl:=G7 s;refine Fx func82 rfl ?_;refine Ud [.o 3 3 1] rfl ?_;refine Ui (S:=Nat) 2 (λL1 i=>(11,.v (.oi i))::(3,.v (.one (.orow 1 1 none)))::L1) (λi=>[.blk 225 (Hm c (U3 l) (U3 s)),.row false 3 1 (((s.take i).map (·.id)).map λ(z:Int)=>[LV.int .i64 z])]) (λi=>s.length-i) (λi=>i<=s.length) 0 (Qh _) rfl rfl λi hi=>?_
 by_cases hlt:i<s.length
 ·obtain⟨p,hp⟩:=gxE (l:=s) (i:=i) hlt;have hg:(((s.take (i+1)).map (·.id)).map λ(z:Int)=>[LV.int .i64 z])=(((s.take i).map (·.id)).map λ(z:Int)=>[LV.int .i64 z])++[[.int .i64 p.id]]:=by
   rw[Zv,hp];simp
  refine Ue [.t (by simp[hcl];omega),.x (Ty hp),.s (sz:=1) (l:=[[.int .i64 p.id]]) (λc hc=>by rw[Qk.1 hc];rfl)] rfl ?_;exact rd (i+1) (by omega) hlt (by rw[hg];rfl)
 ·obtain rfl:i=s.length:=by omega
  rw[Q6];exact Uh [1] [0] [.f (by simp[hcl])] rfl
abbrev ZO(k:Nat)(np nd:Int)(M:List Pt)(q:Rat)(s t h p d:Cr):Ut:=[.blk 80 (pJ k q),tB np nd M,bS s M q,bT t M q,bH h M q,bP p M q,bD d M q]
abbrev Q0l(k:Nat):Ur:=[.oif 74 (k+2) 0,.oif 75 (k+3) 0,.oif 76 (k+4) 0,.oif 77 (k+5) 0,.oif 78 (k+6) 0]
theorem IE{np nd:Int}{Mt M:List Pt}{q:Rat}{s t h p d:Cr}:U7 prog 71 [.one (.ow 0 0)] [.blk 80 (pJ 0 q),tB np nd Mt,bS s M q,bT t M q,bH h M q,bP p M q,bD d M q] [.agg (Q0l 0)] [.blk 80 (pJ 0 q),tB np nd Mt,bS s M q,bT t M q,bH h M q,bP p M q,bD d M q]:=by
 refine Fx func71 rfl ?_;exact Uh [] [0,1,2,3,4,5,6] [] rfl
abbrev zE(k i:Nat)(a b:OB):OB:=match Nat.blt k i with
 |true=>b
 |false=>a
theorem Qe0{np nd id:Int}{M M':List Pt}{q:Rat}{s t h p d s' t' h' p' d':Cr}{lx ly l3:Us}{bn:Bool}{e1 e2 e3 e4 e5:Int}
 (ht:U7 prog 132 [.one (.ow 0 0),.agg [.row lx,.row ly,.bool bn,.row l3,.int .i64 id]] [tB np nd M] [.oi 0] [tB np nd M'])
 (h1:U7 prog 393 [.one (.ow 0 0),.agg [.row lx,.row ly,.bool bn,.row l3,.int .i64 id]] [bS s M q] [.oi e1] [bS s' M' q])
 (h2:U7 prog 419 [.one (.ow 0 0),.agg [.row lx,.row ly,.bool bn,.row l3,.int .i64 id]] [bT t M q] [.oi e2] [bT t' M' q])
 (h3:U7 prog 424 [.one (.ow 0 0),.agg [.row lx,.row ly,.bool bn,.row l3,.int .i64 id]] [bH h M q] [.oi e3] [bH h' M' q])
 (h4:U7 prog 429 [.one (.ow 0 0),.agg [.row lx,.row ly,.bool bn,.row l3,.int .i64 id]] [bP p M q] [.oi e4] [bP p' M' q])
 (h5:U7 prog 434 [.one (.ow 0 0),.agg [.row lx,.row ly,.bool bn,.row l3,.int .i64 id]] [bD d M q] [.oi e5] [bD d' M' q]) :
 U7 prog 58 [.one (.ow 0 0),.oi id,.agg [.row lx,.row ly,.bool bn,.row l3]] (ZO 0 np nd M q s t h p d) [.oi 0] (ZO 0 np nd M' q s' t' h' p' d'):=by
 refine Fx func58 rfl ?_;refine Ud [.c [1] ht,.f rfl,.c Uv IE] rfl ?_;refine Ui (S:=Nat) 9 (λL1 i=>(25,.v (.oi i))::L1) (λi=>[.blk 80 (pJ 0 q),tB np nd M',zE 0 i (bS s M q) (bS s' M' q),zE 1 i (bT t M q) (bT t' M' q),zE 2 i (bH h M q) (bH h' M' q),zE 3 i (bP p M q) (bP p' M' q),zE 4 i (bD d M q) (bD d' M' q),.blk 38 [.row lx,.row ly,.bool bn,.row l3],.blk 40 [.row lx,.row ly,.bool bn,.row l3,.int .i64 id]]) (λi=>5-i) (λi=>i<=5) 0 (by decide) rfl rfl λi hi=>?_
 rcases(show i=0\/i=1\/i=2\/i=3\/i=4\/i=5 by omega)with rfl|rfl|rfl|rfl|rfl|rfl
 ·exact go tt [.t rfl,.i 0,.c [2] h1] rfl (by simp[U4]) (rd 1 (by omega) (by omega) rfl)
 ·exact go tt [.t rfl,.i 1,.c [3] h2] rfl (by simp[U4]) (rd 2 (by omega) (by omega) rfl)
 ·exact go tt [.t rfl,.i 2,.c [4] h3] rfl (by simp[U4]) (rd 3 (by omega) (by omega) rfl)
 ·exact go tt [.t rfl,.i 3,.c [5] h4] rfl (by simp[U4]) (rd 4 (by omega) (by omega) rfl)
 ·exact go tt [.t rfl,.i 4,.c [6] h5] rfl (by simp[U4]) (rd 5 (by omega) (by omega) rfl)
 ·exact Uh [] [0,1,2,3,4,5,6] [.f rfl] rfl
theorem Qbg{np nd id:Int}{M:List Pt}{q:Rat}{s t h p d:Cr}{lx ly l3:Us}{bn:Bool}{e:Int}(he:e≠0)
 (ht:U7 prog 132 [.one (.ow 0 0),.agg [.row lx,.row ly,.bool bn,.row l3,.int .i64 id]] [tB np nd M] [.oi e] [tB np nd M]) :
 U7 prog 58 [.one (.ow 0 0),.oi id,.agg [.row lx,.row ly,.bool bn,.row l3]] (ZO 0 np nd M q s t h p d) [.oi e] (ZO 0 np nd M q s t h p d):=by
 refine Fx func58 rfl ?_;exact Uh [] [0,1,2,3,4,5,6] [.c [1] ht,.t (by simpa using he)] rfl
theorem Qfi{np nd id:Int}{M M':List Pt}{q:Rat}{s t h p d s' t' h' p' d':Cr}{lx ly l3:Us}{bn:Bool}{e1 e2 e3 e4 e5:Int}
 (ht:U7 prog 114 [.one (.ow 0 0),.agg [.row lx,.row ly,.bool bn,.row l3,.int .i64 id]] [tB np nd M] [.oi 0] [tB np nd M'])
 (h1:U7 prog 394 [.one (.ow 0 0),.agg [.row lx,.row ly,.bool bn,.row l3,.int .i64 id]] [bS s M q] [.oi e1] [bS s' M' q])
 (h2:U7 prog 420 [.one (.ow 0 0),.agg [.row lx,.row ly,.bool bn,.row l3,.int .i64 id]] [bT t M q] [.oi e2] [bT t' M' q])
 (h3:U7 prog 425 [.one (.ow 0 0),.agg [.row lx,.row ly,.bool bn,.row l3,.int .i64 id]] [bH h M q] [.oi e3] [bH h' M' q])
 (h4:U7 prog 430 [.one (.ow 0 0),.agg [.row lx,.row ly,.bool bn,.row l3,.int .i64 id]] [bP p M q] [.oi e4] [bP p' M' q])
 (h5:U7 prog 435 [.one (.ow 0 0),.agg [.row lx,.row ly,.bool bn,.row l3,.int .i64 id]] [bD d M q] [.oi e5] [bD d' M' q]) :
 U7 prog 49 [.one (.ow 0 0),.oi id,.agg [.row lx,.row ly,.bool bn,.row l3]] (ZO 0 np nd M q s t h p d) [.oi 0] (ZO 0 np nd M' q s' t' h' p' d'):=by
 refine Fx func49 rfl ?_;refine Ud [.c [1] ht,.f rfl,.c Uv IE] rfl ?_;refine Ui (S:=Nat) 9 (λL1 i=>(25,.v (.oi i))::L1) (λi=>[.blk 80 (pJ 0 q),tB np nd M',zE 0 i (bS s M q) (bS s' M' q),zE 1 i (bT t M q) (bT t' M' q),zE 2 i (bH h M q) (bH h' M' q),zE 3 i (bP p M q) (bP p' M' q),zE 4 i (bD d M q) (bD d' M' q),.blk 38 [.row lx,.row ly,.bool bn,.row l3],.blk 40 [.row lx,.row ly,.bool bn,.row l3,.int .i64 id]]) (λi=>5-i) (λi=>i<=5) 0 (by decide) rfl rfl λi hi=>?_
 rcases(show i=0\/i=1\/i=2\/i=3\/i=4\/i=5 by omega)with rfl|rfl|rfl|rfl|rfl|rfl
 ·exact go tt [.t rfl,.i 0,.c [2] h1] rfl (by simp[U4]) (rd 1 (by omega) (by omega) rfl)
 ·exact go tt [.t rfl,.i 1,.c [3] h2] rfl (by simp[U4]) (rd 2 (by omega) (by omega) rfl)
 ·exact go tt [.t rfl,.i 2,.c [4] h3] rfl (by simp[U4]) (rd 3 (by omega) (by omega) rfl)
 ·exact go tt [.t rfl,.i 3,.c [5] h4] rfl (by simp[U4]) (rd 4 (by omega) (by omega) rfl)
 ·exact go tt [.t rfl,.i 4,.c [6] h5] rfl (by simp[U4]) (rd 5 (by omega) (by omega) rfl)
 ·exact Uh [] [0,1,2,3,4,5,6] [.f rfl] rfl
theorem Qbk{np nd id:Int}{M:List Pt}{q:Rat}{s t h p d:Cr}{lx ly l3:Us}{bn:Bool}{e:Int}(he:e≠0)
 (ht:U7 prog 114 [.one (.ow 0 0),.agg [.row lx,.row ly,.bool bn,.row l3,.int .i64 id]] [tB np nd M] [.oi e] [tB np nd M]) :
 U7 prog 49 [.one (.ow 0 0),.oi id,.agg [.row lx,.row ly,.bool bn,.row l3]] (ZO 0 np nd M q s t h p d) [.oi e] (ZO 0 np nd M q s t h p d):=by
 refine Fx func49 rfl ?_;exact Uh [] [0,1,2,3,4,5,6] [.c [1] ht,.t (by simpa using he)] rfl
theorem Qet{np nd id:Int}{M M':List Pt}{q:Rat}{s t h p d s' t' h' p' d':Cr}{e1 e2 e3 e4 e5:Int}
 (ht:U7 prog 133 [.one (.ow 0 0),.oi id] [tB np nd M] [.oi 0] [tB np nd M'])
 (h1:U7 prog 390 [.one (.ow 0 0),.oi id] [bS s M q] [.oi e1] [bS s' M' q])
 (h2:U7 prog 418 [.one (.ow 0 0),.oi id] [bT t M q] [.oi e2] [bT t' M' q])
 (h3:U7 prog 423 [.one (.ow 0 0),.oi id] [bH h M q] [.oi e3] [bH h' M' q])
 (h4:U7 prog 428 [.one (.ow 0 0),.oi id] [bP p M q] [.oi e4] [bP p' M' q])
 (h5:U7 prog 433 [.one (.ow 0 0),.oi id] [bD d M q] [.oi e5] [bD d' M' q]) :
 U7 prog 59 [.one (.ow 0 0),.oi id] (ZO 0 np nd M q s t h p d) [.oi 0] (ZO 0 np nd M' q s' t' h' p' d'):=by
 refine Fx func59 rfl ?_;refine Ud [.c [1] ht,.f rfl,.c Uv IE] rfl ?_;refine Ui (S:=Nat) 7 (λL1 i=>(19,.v (.oi i))::L1) (λi=>[.blk 80 (pJ 0 q),tB np nd M',zE 0 i (bS s M q) (bS s' M' q),zE 1 i (bT t M q) (bT t' M' q),zE 2 i (bH h M q) (bH h' M' q),zE 3 i (bP p M q) (bP p' M' q),zE 4 i (bD d M q) (bD d' M' q)]) (λi=>5-i) (λi=>i<=5) 0 (by decide) rfl rfl λi hi=>?_
 rcases(show i=0\/i=1\/i=2\/i=3\/i=4\/i=5 by omega)with rfl|rfl|rfl|rfl|rfl|rfl
 ·exact go tt [.t rfl,.i 0,.c [2] h1] rfl (by simp[U4]) (rd 1 (by omega) (by omega) rfl)
 ·exact go tt [.t rfl,.i 1,.c [3] h2] rfl (by simp[U4]) (rd 2 (by omega) (by omega) rfl)
 ·exact go tt [.t rfl,.i 2,.c [4] h3] rfl (by simp[U4]) (rd 3 (by omega) (by omega) rfl)
 ·exact go tt [.t rfl,.i 3,.c [5] h4] rfl (by simp[U4]) (rd 4 (by omega) (by omega) rfl)
 ·exact go tt [.t rfl,.i 4,.c [6] h5] rfl (by simp[U4]) (rd 5 (by omega) (by omega) rfl)
 ·exact Uh [] [0,1,2,3,4,5,6] [.f rfl] rfl
theorem Qbb{np nd id:Int}{M:List Pt}{q:Rat}{s t h p d:Cr}{e:Int}(he:e≠0)
 (ht:U7 prog 133 [.one (.ow 0 0),.oi id] [tB np nd M] [.oi e] [tB np nd M]) :
 U7 prog 59 [.one (.ow 0 0),.oi id] (ZO 0 np nd M q s t h p d) [.oi e] (ZO 0 np nd M q s t h p d):=by
 refine Fx func59 rfl ?_;exact Uh [] [0,1,2,3,4,5,6] [.c [1] ht,.t (by simpa using he)] rfl
theorem Qa9{np nd:Int}{M:List Pt}{q r:Rat}{s t h p d s' t' h' p' d':Cr}{x0 x1 x2 x3:LV}{a b n1 n2 n3 n4 n5:Int}(ha:Gg x0 x1 a)(hb:Gg x2 x3 b)(sa:Ff a<=4294967295)(sb:Ff b<=4294967295)(hr:Gj a b=r)(hs:Qs 128 r)(hq:Qs 128 q)(hqr:q<=r)
 (h1:U7 prog 388 [.one (.ow 0 0),.agg (rl r)] [bS s M q] [.oi n1,.oi 0] [bS s' M r])
 (h2:U7 prog 417 [.one (.ow 0 0),.agg (rl r)] [bT t M q] [.oi n2,.oi 0] [bT t' M r])
 (h3:U7 prog 422 [.one (.ow 0 0),.agg (rl r)] [bH h M q] [.oi n3,.oi 0] [bH h' M r])
 (h4:U7 prog 427 [.one (.ow 0 0),.agg (rl r)] [bP p M q] [.oi n4,.oi 0] [bP p' M r])
 (h5:U7 prog 432 [.one (.ow 0 0),.agg (rl r)] [bD d M q] [.oi n5,.oi 0] [bD d' M r]) :
 U7 prog 17 [.one (.ow 0 0),.agg [x0,x1,x2,x3]] (ZO 0 np nd M q s t h p d) [.oi 0] (ZO 0 np nd M r s' t' h' p' d'):=by
 have cm:=CZ ha hb sa sb;rw[hr]at cm;obtain⟨b1,r1,rfl,rfl,_⟩:=ha;obtain⟨b2,r2,rfl,rfl,_⟩:=hb;have cc:=Ck (a:=r) (b:=q) (hs.mono (by decide)) (hq.mono (by decide));have l1:=ZD.2 hs.1;have l2:(Gd r.den).length<=4:=by simpa using ZD.2 hs.2
 have hc:¬Hf r q<0:=λh=>absurd (Ba.1 h) (Rat.not_lt.2 hqr)
 refine Fx func17 rfl ?_;refine Ud [.k cm,.f (by simp[kL];omega),.f (by simp[kL];omega),.k cc,.f (by simpa using hc),.c Uv IE] rfl ?_;refine Ui (S:=Nat) 8 (λL1 i=>(32,.v (.oi i))::L1) (λi=>[.blk 80 (pJ 0 q),tB np nd M,zE 0 i (bS s M q) (bS s' M r),zE 1 i (bT t M q) (bT t' M r),zE 2 i (bH h M q) (bH h' M r),zE 3 i (bP p M q) (bP p' M r),zE 4 i (bD d M q) (bD d' M r),.blk 42 (rl r)]) (λi=>5-i) (λi=>i<=5) 0 (by decide) rfl rfl λi hi=>?_
 rcases(show i=0\/i=1\/i=2\/i=3\/i=4\/i=5 by omega)with rfl|rfl|rfl|rfl|rfl|rfl
 ·exact go tt [.t rfl,.i 0,.c [2] h1] rfl (by simp[U4]) (rd 1 (by omega) (by omega) rfl)
 ·exact go tt [.t rfl,.i 1,.c [3] h2] rfl (by simp[U4]) (rd 2 (by omega) (by omega) rfl)
 ·exact go tt [.t rfl,.i 2,.c [4] h3] rfl (by simp[U4]) (rd 3 (by omega) (by omega) rfl)
 ·exact go tt [.t rfl,.i 3,.c [5] h4] rfl (by simp[U4]) (rd 4 (by omega) (by omega) rfl)
 ·exact go tt [.t rfl,.i 4,.c [6] h5] rfl (by simp[U4]) (rd 5 (by omega) (by omega) rfl)
 ·exact Uh [] [0,1,2,3,4,5,6] [.f rfl] rfl
theorem xE{np nd:Int}{M:List Pt}{q r:Rat}{s t h p d:Cr}{x0 x1 x2 x3:LV}{a b:Int}(ha:Gg x0 x1 a)(hb:Gg x2 x3 b)(sa:Ff a<=4294967295)(sb:Ff b<=4294967295)(hr:Gj a b=r)(hs:¬Qs 128 r) :
 U7 prog 17 [.one (.ow 0 0),.agg [x0,x1,x2,x3]] (ZO 0 np nd M q s t h p d) [.oi 1] (ZO 0 np nd M q s t h p d):=by
 have cm:=CZ ha hb sa sb;rw[hr]at cm;obtain⟨b1,r1,rfl,rfl,_⟩:=ha;obtain⟨b2,r2,rfl,rfl,_⟩:=hb;refine Fx func17 rfl ?_;by_cases h1:Ff r.num<=128
 ·have h2:¬Ff (r.den:Int)<=128:=λh=>hs ⟨h1,h⟩
  have l1:=ZD.2 h1;have l2:=mt ZD.1 h2;exact Uh [] [0,1,2,3,4,5,6] [.k cm,.f (by simp[kL];omega),.t (by simp[kL]at l2 ⊢;omega)] rfl
 ·have l1:=mt ZD.1 h1;exact Uh [] [0,1,2,3,4,5,6] [.k cm,.t (by simp[kL];omega),.t rfl] rfl
theorem AA{np nd:Int}{M:List Pt}{q r:Rat}{s t h p d:Cr}{x0 x1 x2 x3:LV}{a b:Int}(ha:Gg x0 x1 a)(hb:Gg x2 x3 b)(sa:Ff a<=4294967295)(sb:Ff b<=4294967295)(hr:Gj a b=r)(hs:Qs 128 r)(hq:Qs 128 q)(hqr:r<q) :
 U7 prog 17 [.one (.ow 0 0),.agg [x0,x1,x2,x3]] (ZO 0 np nd M q s t h p d) [.oi 8] (ZO 0 np nd M q s t h p d):=by
 have cm:=CZ ha hb sa sb;rw[hr]at cm;obtain⟨b1,r1,rfl,rfl,_⟩:=ha;obtain⟨b2,r2,rfl,rfl,_⟩:=hb;have cc:=Ck (a:=r) (b:=q) (hs.mono (by decide)) (hq.mono (by decide));have l1:=ZD.2 hs.1;have l2:(Gd r.den).length<=4:=by simpa using ZD.2 hs.2
 have hc:Hf r q<0:=Ba.2 hqr;refine Fx func17 rfl ?_;exact Uh [] [0,1,2,3,4,5,6] [.k cm,.f (by simp[kL];omega),.f (by simp[kL];omega),.k cc,.t (by simpa using hc)] rfl
theorem BR{c:Cr}{l l':List Pt}{r1:Us}{ws:List Wt}(hc:CrOk c)(hl:∀p∈l',Sc p.c)(hn:l'.length≤10)(h:Tn c.l c.now (Fp (BX l' c.now))=some ws) :
 U7 prog 426 [.one (.ow 0 0),.agg [pts l'],.oi 0] [.blk 225 (Hm c (U3 l) r1)] [.oi 0] [.blk 225 (Hm ⟨c.now,ws,c.ev⟩ (U3 l') (brH l' c.now))]:=by
 have hB:=pR hl hn;have cn:=QF (T:=225) (c:=c) (r0:=U3 l') (r1:=r1) hc.n;have cb:=IN (c:=c) (r1:=r1) hl hn hc.n;have cg:=YK (T:=225) (r0:=U3 l') (r1:=brH l' c.now) hc hc.n (I7 hc.n) (Yd 0) (hB.p _ hc.n) (hB.n _ hc.n) h;refine Fx func426 rfl ?_;exact Uh [] [0] [.f rfl,.c [0] cn,.c [0] cb,.c [0] cg] rfl
theorem Qm9{lx ly:Us}{px py:Um}{x y:LV}{d id:Int}{c:Cr}{l:List Pt}{r1:Us}{ws:List Wt}(hx:IsInts lx px)(hy:IsInts ly py)(hd:Gg x y d)(hk:Cs 4294967294 1073741824 (Crv.mk px py d))(hll:l.length<=900)
 (he:WT l ⟨Crv.norm (Crv.mk px py d),id⟩=0) (hc:CrOk c) (hl:∀p∈put l ⟨Crv.norm (Crv.mk px py d),id⟩,Sc p.c) (hn:(put l ⟨Crv.norm (Crv.mk px py d),id⟩).length≤10) (h:Tn c.l c.now (Fp (BX (put l ⟨Crv.norm (Crv.mk px py d),id⟩) c.now))=some ws) :
 U7 prog 424 [.one (.ow 0 0),.agg [.row lx,.row ly,x,y,.int .i64 id]] [.blk 225 (Hm c (U3 l) r1)] [.oi 0] [.blk 225 (Hm ⟨c.now,ws,c.ev⟩ (U3 (put l ⟨Crv.norm (Crv.mk px py d),id⟩)) (brH (put l ⟨Crv.norm (Crv.mk px py d),id⟩) c.now))]:=by
 have cp:=wN (l:=l) (id:=id) hx hy hd hk (by omega);rw[if_pos he,he]at cp;have cw:=BR (l:=l) (r1:=r1) hc hl hn h;refine Fx func424 rfl ?_;obtain⟨b,l',rfl,rfl,_⟩:=hd;exact Uh [] [0] [.k cp,.c [0] cw] rfl
theorem Qey{lx ly:Us}{px py:Um}{x y:LV}{d id:Int}{c:Cr}{l l':List Pt}{r1:Us}{ws:List Wt}(hx:IsInts lx px)(hy:IsInts ly py)(hd:Gg x y d)(hk:Cs 4294967294 1073741824 (Crv.mk px py d))(hll:l.length<=10)(h:has l id=true)(hc:CrOk c)
 (hl':l'=l.set (Rk l id) (Pt.mk (Crv.norm (Crv.mk px py d)) id)) (hs:∀p∈l',Sc p.c) (hw:Tn c.l c.now (Fp (BX l' c.now))=some ws) :
 U7 prog 425 [.one (.ow 0 0),.agg [.row lx,.row ly,x,y,.int .i64 id]] [.blk 225 (Hm c (U3 l) r1)] [.oi 0] [.blk 225 (Hm ⟨c.now,ws,c.ev⟩ (U3 l') (brH l' c.now))]:=by
 have ct1:=UR (l:=l) hx hy hd hk (by omega) h;rw[<-hl']at ct1;have cw:=BR (c:=c) (l:=l) (l':=l') (r1:=r1) hc hs (by rw[hl',Xd];omega) hw;obtain⟨b,r,rfl,rfl,_⟩:=hd;refine Fx func425 rfl ?_;exact Uh [] [0] [.k ct1,.c [0] cw] rfl
theorem Qex{id:Int}{c:Cr}{l l':List Pt}{r1:Us}{ws:List Wt}(hll:l.length<=10)(h:has l id=true)(hc:CrOk c)
 (hl':l'=l.take (Rk l id)++l.drop (Rk l id+1)) (hs:∀p∈l',Sc p.c) (hw:Tn c.l c.now (Fp (BX l' c.now))=some ws) :
 U7 prog 423 [.one (.ow 0 0),.oi id] [.blk 225 (Hm c (U3 l) r1)] [.oi 0] [.blk 225 (Hm ⟨c.now,ws,c.ev⟩ (U3 l') (brH l' c.now))]:=by
 have ct1:=UG (l:=l) (id:=id) (by omega) h;rw[<-hl']at ct1;have cw:=BR (c:=c) (l:=l) (l':=l') (r1:=r1) hc hs (by rw[hl',Qu,Qp,Q8];omega) hw;refine Fx func423 rfl ?_;exact Uh [] [0] [.k ct1,.c [0] cw] rfl
theorem Qbf{c:Cr}{r0:Us}{r1:Us}:U7 prog 65 [.one (.ow 0 0)] [.blk 225 (Hm c r0 r1)] [.one (.ow 1 0)] [.blk 225 (Hm c r0 r1),.blk 225 (Hm c r0 r1)]:=by
 refine Fx func65 rfl ?_;exact Uh [] [0,1] [] rfl
theorem BN{c:Cr}{l l':List Pt}{r1:Us}{ws:List Wt}(hc:CrOk c)(hl:∀p∈l',Sc p.c)(hn:l'.length≤10)(h:Tn c.l c.now (Fp (pQ l' c.now))=some ws) :
 U7 prog 431 [.one (.ow 0 0),.agg [pts l'],.oi 0] [.blk 227 (Hm c (U3 l) r1)] [.oi 0] [.blk 227 (Hm ⟨c.now,ws,c.ev⟩ (U3 l') (brP l' c.now))]:=by
 have hB:=Qej hl hn;have cn:=QF (T:=227) (c:=c) (r0:=U3 l') (r1:=r1) hc.n;have cb:=IB (c:=c) (r1:=r1) hl hn hc.n;have cg:=YK (T:=227) (r0:=U3 l') (r1:=brP l' c.now) hc hc.n (I7 hc.n) (Yd 0) (hB.p _ hc.n) (hB.n _ hc.n) h;refine Fx func431 rfl ?_;exact Uh [] [0] [.f rfl,.c [0] cn,.c [0] cb,.c [0] cg] rfl
theorem Qnh{lx ly:Us}{px py:Um}{x y:LV}{d id:Int}{c:Cr}{l:List Pt}{r1:Us}{ws:List Wt}(hx:IsInts lx px)(hy:IsInts ly py)(hd:Gg x y d)(hk:Cs 4294967294 1073741824 (Crv.mk px py d))(hll:l.length<=900)
 (he:WT l ⟨Crv.norm (Crv.mk px py d),id⟩=0) (hc:CrOk c) (hl:∀p∈put l ⟨Crv.norm (Crv.mk px py d),id⟩,Sc p.c) (hn:(put l ⟨Crv.norm (Crv.mk px py d),id⟩).length≤10) (h:Tn c.l c.now (Fp (pQ (put l ⟨Crv.norm (Crv.mk px py d),id⟩) c.now))=some ws) :
 U7 prog 429 [.one (.ow 0 0),.agg [.row lx,.row ly,x,y,.int .i64 id]] [.blk 227 (Hm c (U3 l) r1)] [.oi 0] [.blk 227 (Hm ⟨c.now,ws,c.ev⟩ (U3 (put l ⟨Crv.norm (Crv.mk px py d),id⟩)) (brP (put l ⟨Crv.norm (Crv.mk px py d),id⟩) c.now))]:=by
 have cp:=wN (l:=l) (id:=id) hx hy hd hk (by omega);rw[if_pos he,he]at cp;have cw:=BN (l:=l) (r1:=r1) hc hl hn h;refine Fx func429 rfl ?_;obtain⟨b,l',rfl,rfl,_⟩:=hd;exact Uh [] [0] [.k cp,.c [0] cw] rfl
theorem Qfc{lx ly:Us}{px py:Um}{x y:LV}{d id:Int}{c:Cr}{l l':List Pt}{r1:Us}{ws:List Wt}(hx:IsInts lx px)(hy:IsInts ly py)(hd:Gg x y d)(hk:Cs 4294967294 1073741824 (Crv.mk px py d))(hll:l.length<=10)(h:has l id=true)(hc:CrOk c)
 (hl':l'=l.set (Rk l id) (Pt.mk (Crv.norm (Crv.mk px py d)) id)) (hs:∀p∈l',Sc p.c) (hw:Tn c.l c.now (Fp (pQ l' c.now))=some ws) :
 U7 prog 430 [.one (.ow 0 0),.agg [.row lx,.row ly,x,y,.int .i64 id]] [.blk 227 (Hm c (U3 l) r1)] [.oi 0] [.blk 227 (Hm ⟨c.now,ws,c.ev⟩ (U3 l') (brP l' c.now))]:=by
 have ct1:=UR (l:=l) hx hy hd hk (by omega) h;rw[<-hl']at ct1;have cw:=BN (c:=c) (l:=l) (l':=l') (r1:=r1) hc hs (by rw[hl',Xd];omega) hw;obtain⟨b,r,rfl,rfl,_⟩:=hd;refine Fx func430 rfl ?_;exact Uh [] [0] [.k ct1,.c [0] cw] rfl
theorem Qfb{id:Int}{c:Cr}{l l':List Pt}{r1:Us}{ws:List Wt}(hll:l.length<=10)(h:has l id=true)(hc:CrOk c)
 (hl':l'=l.take (Rk l id)++l.drop (Rk l id+1)) (hs:∀p∈l',Sc p.c) (hw:Tn c.l c.now (Fp (pQ l' c.now))=some ws) :
 U7 prog 428 [.one (.ow 0 0),.oi id] [.blk 227 (Hm c (U3 l) r1)] [.oi 0] [.blk 227 (Hm ⟨c.now,ws,c.ev⟩ (U3 l') (brP l' c.now))]:=by
 have ct1:=UG (l:=l) (id:=id) (by omega) h;rw[<-hl']at ct1;have cw:=BN (c:=c) (l:=l) (l':=l') (r1:=r1) hc hs (by rw[hl',Qu,Qp,Q8];omega) hw;refine Fx func428 rfl ?_;exact Uh [] [0] [.k ct1,.c [0] cw] rfl
theorem Qbi{c:Cr}{r0:Us}{r1:Us}:U7 prog 66 [.one (.ow 0 0)] [.blk 227 (Hm c r0 r1)] [.one (.ow 1 0)] [.blk 227 (Hm c r0 r1),.blk 227 (Hm c r0 r1)]:=by
 refine Fx func66 rfl ?_;exact Uh [] [0,1] [] rfl
theorem xA{np nd:Int}{M:List Pt}{q:Rat}{s t h p d:Cr}(hq:Qs 128 q):U7 prog 32 [.one (.ow 0 0)] (ZO 0 np nd M q s t h p d) [.agg (rl q)] (ZO 0 np nd M q s t h p d):=by
 refine Fx func32 rfl ?_;exact Uh [] [0,1,2,3,4,5,6] [.k (Nz (hq.mono (by decide)))] rfl
abbrev en2(np nd:Int)(M:List Pt)(q:Rat)(s t h p d:Cr)(np' nd':Int)(M':List Pt)(q':Rat)(s' t' h' p' d':Cr):Ut:=[.blk 80 (pJ 0 q),tB np nd M,bS s M q,bT t M q,bH h M q,bP p M q,bD d M q,.blk 80 (pJ 7 q'),tB np' nd' M',bS s' M' q',bT t' M' q',bH h' M' q',bP p' M' q',bD d' M' q']
theorem xI{np nd:Int}{M:List Pt}{q:Rat}{s t h p d:Cr}(hq:Qs 128 q):U7 prog 13 [.one (.ow 0 0)] (ZO 0 np nd M q s t h p d) [.one (.ow 7 0)] (en2 np nd M q s t h p d np nd M q s t h p d):=by
 refine Fx func13 rfl ?_;exact Uh [] [0,1,2,3,4,5,6,13,7,8,9,10,11,12] [.lo,.c [1,7] Qgm,.lo,.c Uv (xA hq),.lo,.c [2,8] Qfl,.lo,.c [3,9] Qbp,.lo,.c [4,10] Qbf,.lo,.c [5,11] Qbi,.lo,.c [6,12] Qba] rfl
abbrev anw(S W H P:List Pt)(T:List P3):Ur:=[ids (S.map (·.id)),ids (W.map (·.id)),ids (H.map (·.id)),ids (P.map (·.id)),.row (ZW T)]
theorem Qnu{np nd:Int}{M S W H P:List Pt}{T:List P3}{r2:Us}{q:Rat}{s t h p d:Cr}(hS:S.length<=1000000)(hH:H.length<=1000000)(hT:T.length<=1000)(hW:W=[]\/∃w,W=[w])(hP:P=[]\/∃a b,P=[a,b]) :
 U7 prog 26 [.one (.ow 0 0)] [.blk 80 (pJ 0 q),tB np nd M,.blk 220 (Hm s (U3 M) (U3 S)),.blk 223 (Tf t (U3 M) (W.map Fe,r2)),.blk 225 (Hm h (U3 M) (U3 H)),.blk 227 (Hm p (U3 M) (U3 P)),.blk 229 (Hm d (U3 M) (ZW T))]
  [.agg (anw S W H P T)] [.blk 80 (pJ 0 q),tB np nd M,.blk 220 (Hm s (U3 M) (U3 S)),.blk 223 (Tf t (U3 M) (W.map Fe,r2)),.blk 225 (Hm h (U3 M) (U3 H)),.blk 227 (Hm p (U3 M) (U3 P)),.blk 229 (Hm d (U3 M) (ZW T))]:=by
 have c1:=Qt5 (c:=s) (l:=M) hS;have c2:=Qtu (c:=h) (l:=M) hH;have c3:=mX (c:=d) (r0:=U3 M) hT;rcases hW with rfl|⟨w,rfl⟩
 ·have c4:=Qfu (c:=t) (r0:=U3 M) (r2:=r2);rcases hP with rfl|⟨a,b,rfl⟩
  ·have c5:=wM (c:=p) (r0:=U3 M);refine Fx func26 rfl ?_;exact Uh [] [0,1,2,3,4,5,6] [.c [2] c1,.c [4] c2,.c [6] c3,.c [3] c4,.f rfl,.c [5] c5,.f rfl] rfl
  ·have c5:=lP (c:=p) (r0:=U3 M) (a:=a) (b:=b);refine Fx func26 rfl ?_;exact Uh [] [0,1,2,3,4,5,6] [.c [2] c1,.c [4] c2,.c [6] c3,.c [3] c4,.f rfl,.c [5] c5,.t rfl] rfl
 ·have c4:=Qny (c:=t) (r0:=U3 M) (r2:=r2) (w:=w);rcases hP with rfl|⟨a,b,rfl⟩
  ·have c5:=wM (c:=p) (r0:=U3 M);refine Fx func26 rfl ?_;exact Uh [] [0,1,2,3,4,5,6] [.c [2] c1,.c [4] c2,.c [6] c3,.c [3] c4,.t rfl,.c [5] c5,.f rfl] rfl
  ·have c5:=lP (c:=p) (r0:=U3 M) (a:=a) (b:=b);refine Fx func26 rfl ?_;exact Uh [] [0,1,2,3,4,5,6] [.c [2] c1,.c [4] c2,.c [6] c3,.c [3] c4,.t rfl,.c [5] c5,.t rfl] rfl
abbrev wY(M:List Pt)(q:Rat):Ur:=anw (Sf (tq q) M) (Nc (Fw (tq q)) M).1 (S9 M (tq q)) (ZP (Fw (tq q)) M) (qS (Fw (tq q)) M)
theorem Qay(sg:Um->Int)(M:List Pt):(Nc sg M).1=[]\/∃w,(Nc sg M).1=[w]:=by
 by_cases h:0<M.length
 ·obtain⟨a,ha,_⟩:=Nq sg M.length M (Ql _) h;exact .inr ⟨a,ha⟩
 ·obtain rfl:=Qj (by omega:M.length=0);exact .inl rfl
theorem rQ(sg:Um->Int)(M:List Pt):ZP sg M=[]\/∃a b,ZP sg M=[a,b]:=by
 match M with
 | []=>exact .inl rfl
 | [_]=>exact .inl rfl
 |_::_::_=>exact .inr ⟨_,_,rfl⟩
theorem jX{np nd:Int}{M:List Pt}{q:Rat}{s t h p d:Cr}(hM:M.length<=6):U7 prog 26 [.one (.ow 0 0)] (ZO 0 np nd M q s t h p d) [.agg (wY M q)] (ZO 0 np nd M q s t h p d) :=
 Qnu (by rw[Nu];omega) (by have:=YG M (tq q);omega) (by have:=qP (Fw (tq q)) hM;omega) (Qay _ _) (rQ _ _)
theorem Qbj{np nd:Int}{M:List Pt}{q r:Rat}{s t h p d s' t' h' p' d':Cr}{b1 b2:Bool}{r1 r2:Us}(hq:Qs 128 q)(hM:M.length<=6)
 (ha:U7 prog 17 [.one (.ow 0 0),.agg [.bool b1,.row r1,.bool b2,.row r2]] (ZO 0 np nd M q s t h p d) [.oi 0] (ZO 0 np nd M r s' t' h' p' d')) :
 U7 prog 20 [.one (.ow 0 0),.agg [.bool b1,.row r1,.bool b2,.row r2]] (ZO 0 np nd M q s t h p d) [.agg (wY M r),.oi 0] (ZO 0 np nd M q s t h p d):=by
 refine Fx func20 rfl ?_;exact Uh [] [0,1,2,3,4,5,6] [.c U0 (xI hq),.c Uz ha,.f rfl,.c Uz (jX hM)] rfl
abbrev Qxp:Ur:=[.row [],.row [],.row [],.row [],.row []]
theorem Qfg{np nd:Int}{M:List Pt}{q:Rat}{s t h p d:Cr}{b1 b2:Bool}{r1 r2:Us}{e:Int}(he:e≠0)(hq:Qs 128 q)
 (ha:U7 prog 17 [.one (.ow 0 0),.agg [.bool b1,.row r1,.bool b2,.row r2]] (ZO 0 np nd M q s t h p d) [.oi e] (ZO 0 np nd M q s t h p d)) :
 U7 prog 20 [.one (.ow 0 0),.agg [.bool b1,.row r1,.bool b2,.row r2]] (ZO 0 np nd M q s t h p d) [.agg Qxp,.oi e] (ZO 0 np nd M q s t h p d):=by
 refine Fx func20 rfl ?_;exact Uh [] [0,1,2,3,4,5,6] [.c U0 (xI hq),.c Uz ha,.t (by simpa using he)] rfl
abbrev Qkt(k i:Nat)(e:Int):LV:=match Nat.blt k i with
 |true=>.int .i64 e
 |false=>.int .i64 0
theorem Qep{np nd:Int}{M:List Pt}{q:Rat}{s t h p d:Cr}:U7 prog 22 [.one (.ow 0 0)] (ZO 0 np nd M q s t h p d) [.agg [.int .i64 s.ev,.int .i64 t.ev,.int .i64 h.ev,.int .i64 p.ev,.int .i64 d.ev]] (ZO 0 np nd M q s t h p d):=by
 refine Fx func22 rfl ?_;refine Ud [.c Uv IE] rfl ?_;refine Ui (S:=Nat) 9 (λL1 i=>(8,.v (.oi i))::L1) (λi=>[.blk 80 (pJ 0 q),tB np nd M,bS s M q,bT t M q,bH h M q,bP p M q,bD d M q,.blk 63 [.int .i64 0,.int .i64 0,.int .i64 0,.int .i64 0,.int .i64 0],.blk 63 [Qkt 0 i s.ev,Qkt 1 i t.ev,Qkt 2 i h.ev,Qkt 3 i p.ev,Qkt 4 i d.ev]]) (λi=>5-i) (λi=>i<=5) 0 (by decide) rfl rfl λi hi=>?_
 rcases(show i=0\/i=1\/i=2\/i=3\/i=4\/i=5 by omega)with rfl|rfl|rfl|rfl|rfl|rfl
 ·exact go tt [.t rfl,.i 0,.c [2] YW,.i 0] rfl (by simp[U4]) (rd 1 (by omega) (by omega) rfl)
 ·exact go tt [.t rfl,.i 1,.c [3] Qbo,.i 1] rfl (by simp[U4]) (rd 2 (by omega) (by omega) rfl)
 ·exact go tt [.t rfl,.i 2,.c [4] YW,.i 2] rfl (by simp[U4]) (rd 3 (by omega) (by omega) rfl)
 ·exact go tt [.t rfl,.i 3,.c [5] YW,.i 3] rfl (by simp[U4]) (rd 4 (by omega) (by omega) rfl)
 ·exact go tt [.t rfl,.i 4,.c [6] YW,.i 4] rfl (by simp[U4]) (rd 5 (by omega) (by omega) rfl)
 ·exact Uh [] [0,1,2,3,4,5,6] [.f rfl] rfl
abbrev Iw(l:List Wt):List Ct:=Fp (l.map (·.c))
def SG(s t h p d:Cr):Nat->Us
 | 0=>[]
 | 1=>[]++U9 (Iw s.l)
 | 2=>[]++U9 (Iw s.l)++U9 (Iw t.l)
 | 3=>[]++U9 (Iw s.l)++U9 (Iw t.l)++U9 (Iw h.l)
 | 4=>[]++U9 (Iw s.l)++U9 (Iw t.l)++U9 (Iw h.l)++U9 (Iw p.l)
 |_=>[]++U9 (Iw s.l)++U9 (Iw t.l)++U9 (Iw h.l)++U9 (Iw p.l)++U9 (Iw d.l)
theorem Qm3{np nd:Int}{M:List Pt}{q:Rat}{s t h p d:Cr}(hs:CrOk s)(ht:CrOk t)(hh:CrOk h)(hp:CrOk p)(hd:CrOk d):U7 prog 24 [.one (.ow 0 0)] (ZO 0 np nd M q s t h p d) [.one (.row (U9 (Iw s.l++Iw t.l++Iw h.l++Iw p.l++Iw d.l)))] (ZO 0 np nd M q s t h p d):=by
 have e:U9 (Iw s.l++Iw t.l++Iw h.l++Iw p.l++Iw d.l)=SG s t h p d 5:=by simp[U9,SG]
 rw[e];have ln:∀{c:Cr},CrOk c->(U9 (Iw c.l)).length<=1000:=λ{c} hc=>by rw[Pu,M4,Q9];exact hc.k
 have l1:=ln hs;have l2:=ln ht;have l3:=ln hh;have l4:=ln hp;have l5:=ln hd;have k1:(U9 (Fp (s.l.map (·.c)))).length<=1000:=ln hs;have k2:(U9 (Fp (t.l.map (·.c)))).length<=1000:=ln ht;have k3:(U9 (Fp (h.l.map (·.c)))).length<=1000:=ln hh;have k4:(U9 (Fp (p.l.map (·.c)))).length<=1000:=ln hp;have k5:(U9 (Fp (d.l.map (·.c)))).length<=1000:=ln hd;have m1:(SG s t h p d 1).length<=1000:=by show([]++U9 (Iw s.l)).length<=_;simp only[Qu,Xl];omega
 have m2:(SG s t h p d 2).length<=2000:=by show([]++U9 (Iw s.l)++U9 (Iw t.l)).length<=_;simp only[Qu,Xl];omega
 have m3:(SG s t h p d 3).length<=3000:=by show([]++U9 (Iw s.l)++U9 (Iw t.l)++U9 (Iw h.l)).length<=_;simp only[Qu,Xl];omega
 have m4:(SG s t h p d 4).length<=4000:=by show([]++U9 (Iw s.l)++U9 (Iw t.l)++U9 (Iw h.l)++U9 (Iw p.l)).length<=_;simp only[Qu,Xl];omega
 have m0:(SG s t h p d 0).length=0:=rfl;refine Fx func24 rfl ?_;refine Ud [.o 3 99 7,.c Uv IE] rfl ?_;refine Ui (S:=Nat) 8 (λL1 i=>(8,.v (.oi i))::(3,.v (.one (.orow 7 7 none)))::L1) (λi=>[.blk 80 (pJ 0 q),tB np nd M,bS s M q,bT t M q,bH h M q,bP p M q,bD d M q,.row false 99 7 (SG s t h p d i)]) (λi=>5-i) (λi=>i<=5) 0 (by decide) rfl rfl λi hi=>?_
 rcases(show i=0\/i=1\/i=2\/i=3\/i=4\/i=5 by omega)with rfl|rfl|rfl|rfl|rfl|rfl
 ·exact go tt [.t rfl,.i 0,.c [2] (UW hs),.s (Oa _)] rfl (by simp only[U4];omega) (rd 1 (by omega) (by omega) rfl)
 ·exact go tt [.t rfl,.i 1,.c [3] (Qfq ht),.s (Oa _)] rfl (by simp only[U4];omega) (rd 2 (by omega) (by omega) rfl)
 ·exact go tt [.t rfl,.i 2,.c [4] (UW hh),.s (Oa _)] rfl (by simp only[U4];omega) (rd 3 (by omega) (by omega) rfl)
 ·exact go tt [.t rfl,.i 3,.c [5] (UW hp),.s (Oa _)] rfl (by simp only[U4];omega) (rd 4 (by omega) (by omega) rfl)
 ·exact go tt [.t rfl,.i 4,.c [6] (UW hd),.s (Oa _)] rfl (by simp only[U4];omega) (rd 5 (by omega) (by omega) rfl)
 ·exact Uh [7] [0,1,2,3,4,5,6] [.f rfl] rfl
theorem Qru:∀p∈([]:List Pt),Sc p.c:=λ_ h=>by cases h
theorem Ql9:∀x∈([]:List Ct),Cp x.p:=λ_ h=>by cases h
theorem sA:Uj 193 [.one (.row [])] [.agg [.row []],.oi 0]:=by
 refine Fx func193 rfl ?_;refine Ud [.f rfl] rfl ?_;refine nlb 1 rfl rfl rfl ?_;refine Ui (S:=Unit) 2 (λL1 _=>(14,.v (.oi 0))::L1) (λ_=>[.blk 218 [.nils],.blk 218 [.row []]]) (λ_=>0) (λ_=>True) () trivial rfl rfl λ_ _=>?_
 exact Uf [.f rfl] rfl
abbrev zT(r0 r1 r2:LV):OB:=.blk 223 [.bool false,.nils,.bool false,.nils,.bool false,.nils,.bool false,.nils,.bool false,.nils,.nils,.int .i64 0,r0,r1,r2]
theorem Qrs{a:Tm}:U7 prog 254 [.one (.ow 0 0),.agg (ta a),.one (.row [])] [zT (.row []) .nils (.orow 1 10 none),.row false 323 10 []] [.one (.row [])] [zT (.row []) .nils (.orow 1 10 none),.row false 323 10 []]:=by
 refine Fx func254 rfl ?_;exact Uh [] [0,1] [.t rfl] rfl
theorem Ql7{a:Tm}:U7 prog 196 [.one (.ow 0 0),.agg (ta a)] [zT (.row []) .nils .nils] [.one (.row [])] [zT (.row []) (.row []) (.row [])]:=by
 refine Fx func196 rfl ?_;refine Ud [] rfl ?_;refine oz 0 14 323 10 rfl rfl ?_;refine Ud [.k (Iu (l:=[])),.c [0,2] (Qrs (a:=a)),.o 5 99 7] rfl ?_;refine Ui (S:=Unit) 4 (λL1 _=>(29,.v (.oi 0))::(5,.v (.one (.orow 3 7 none)))::L1) (λ_=>[zT (.row []) (.row []) (.orow 2 10 none),.blk 105 (ta a),.row false 323 10 [],.row false 99 7 []]) (λ_=>0) (λ_=>True) () trivial rfl rfl λ_ _=>?_
 exact Uh [2,3] [0] [.f rfl] rfl
theorem Ql8:Uj 257 [.agg [.row []]] [.one (.row [])]:=mG (l:=[]) (λ_ h=>by cases h) (by decide)
theorem Qta{a:Tm}(ha:Va a):Uj 251 [.agg (ta a),.one (.row [])] [.one (.row [])]:=wB (l:=[]) Qru (by decide) ha
theorem Ql5{a:Tm}(ha:Va a):U7 prog 197 [.one (.ow 0 0),.agg (ta a)] [.blk 225 (mA (.row []) .nils)] [.one (.row [])] [.blk 225 (mA (.row []) (.row []))]:=by
 have cn:Uj 256 [.agg (ta a),.one (.row [])] [.one (.row [])]:=eY (R:=[]) Qru (by decide) ha;have cc:U7 prog 253 [.agg (ta a),.one (.row [])] [] [.one (.orow 0 7 none)] [.row false 99 7 []]:=SK (l:=[]) Qru (by decide) ha;refine Fx func197 rfl ?_;exact Uh [2] [0] [.k Ql8,.k (Qta ha),.k cn,.k (Iu (l:=[])),.k (Qta ha),.c [2] cc,.t rfl] rfl
theorem Ql6{a:Tm}:U7 prog 198 [.one (.ow 0 0),.agg (ta a)] [.blk 227 (mA (.row []) .nils)] [.one (.row [])] [.blk 227 (mA (.row []) (.row []))]:=by
 refine Fx func198 rfl ?_;refine Ud [.k (Iu (l:=[]))] rfl ?_;refine nlc 0 13 rfl rfl rfl ?_;exact Uh [] [0] [.t rfl] rfl
theorem Ql4{a:Tm}:U7 prog 199 [.one (.ow 0 0),.agg (ta a)] [.blk 229 (mA (.row []) .nils)] [.one (.row [])] [.blk 229 (mA (.row []) (.row []))]:=by
 refine Fx func199 rfl ?_;refine Ud [.k Ql8,.o 6 99 7] rfl ?_;refine Ui (S:=Unit) 4 (λL1 _=>(42,.v (.oi 0))::(6,.v (.one (.orow 2 7 none)))::L1) (λ_=>[.blk 229 (mA (.row []) .nils),.blk 105 (ta a),.row false 99 7 [],.mpb (A4 (ZL (Fw a) []))]) (λ_=>0) (λ_=>True) () trivial rfl rfl λ_ _=>?_
 refine Ud [.f rfl] rfl ?_;refine Ui (S:=Unit) 5 (λL1 _=>(97,.v (.oi 0))::(6,.v (.one (.orow 2 7 none)))::L1) (λ_=>[.blk 229 (mA (.row []) .nils),.blk 105 (ta a),.row false 99 7 [],.mpb (A4 (ZL (Fw a) [])),.mpb (Og (A4 (ZL (Fw a) [])) (VC (Fw a) []))]) (λ_=>0) (λ_=>True) () trivial rfl rfl λ_ _=>?_
 refine Ud [.f rfl] rfl ?_;refine ozM 0 13 84 3 rfl rfl ?_;refine Ui (S:=Unit) 6 (λL1 _=>(174,.v (.oi 0))::L1) (λ_=>[.blk 229 [.bool false,.nils,.bool false,.nils,.bool false,.nils,.bool false,.nils,.bool false,.nils,.nils,.int .i64 0,.row [],.orow 5 3 none],.blk 105 (ta a),.row false 99 7 [],.mpb (A4 (ZL (Fw a) [])),.mpb (Og (A4 (ZL (Fw a) [])) (VC (Fw a) [])),.row false 84 3 []]) (λ_=>0) (λ_=>True) () trivial rfl rfl λ_ _=>?_
 exact Uh [2,5] [0] [.f rfl] rfl
section
variable{x y x' y':LV}{n d:Int}(h1:Gg x y n)(h2:Gg x' y' d)(bn:Ff n<=4294967295)(bd:Ff d<=4294967295)(ht:Qs 1640000 (Gj n d))
include h1 h2 bn bd ht
theorem Qrr:U7 prog 123 [.agg [x,y,x',y'],.one (.row [])] [] [.one (.ow 0 0),.oi 0] [.blk 220 (Hm ⟨tq (Gj n d),[],0⟩ [] [])]:=by
 have co:=VO h1 h2 bn bd (ht.mono (by decide));have cb:U7 prog 195 [.one (.ow 0 0),.agg (ta (tq (Gj n d)))] [.blk 220 (mA (.row []) .nils)] [.one (.row [])] [.blk 220 (mA (.row []) (.row []))]:=Qbl (l:=[]) Qru (by decide) (IG ht);have cg:=YV (T:=220) (r0:=[]) (r1:=[]) (IG ht) Ql9 (by decide);obtain⟨b,l1,rfl,rfl,_⟩:=h1;obtain⟨b',l2,rfl,rfl,_⟩:=h2;refine Fx func123 rfl ?_;exact Uh [] [2] [.k sA,.f rfl,.k co,.c [2] cb,.c [2] cg] rfl
theorem Qrt:U7 prog 124 [.agg [x,y,x',y'],.one (.row [])] [] [.one (.ow 0 0),.oi 0] [.blk 223 (Tf ⟨tq (Gj n d),[],0⟩ [] ([],[]))]:=by
 have co:=VO h1 h2 bn bd (ht.mono (by decide));have cg:=Qbm (T:=223) (r0:=[]) (r1:=([],[])) (IG ht) Ql9 (by decide);obtain⟨b,l1,rfl,rfl,_⟩:=h1;obtain⟨b',l2,rfl,rfl,_⟩:=h2;refine Fx func124 rfl ?_;exact Uh [] [2] [.k sA,.f rfl,.k co,.c [2] (Ql7 (a:=tq (Gj n d))),.c [2] cg] rfl
theorem Qrp:U7 prog 125 [.agg [x,y,x',y'],.one (.row [])] [] [.one (.ow 0 0),.oi 0] [.blk 225 (Hm ⟨tq (Gj n d),[],0⟩ [] [])]:=by
 have co:=VO h1 h2 bn bd (ht.mono (by decide));have cg:=YV (T:=225) (r0:=[]) (r1:=[]) (IG ht) Ql9 (by decide);obtain⟨b,l1,rfl,rfl,_⟩:=h1;obtain⟨b',l2,rfl,rfl,_⟩:=h2;refine Fx func125 rfl ?_;exact Uh [] [2] [.k sA,.f rfl,.k co,.c [2] (Ql5 (IG ht)),.c [2] cg] rfl
theorem Qrq:U7 prog 126 [.agg [x,y,x',y'],.one (.row [])] [] [.one (.ow 0 0),.oi 0] [.blk 227 (Hm ⟨tq (Gj n d),[],0⟩ [] [])]:=by
 have co:=VO h1 h2 bn bd (ht.mono (by decide));have cg:=YV (T:=227) (r0:=[]) (r1:=[]) (IG ht) Ql9 (by decide);obtain⟨b,l1,rfl,rfl,_⟩:=h1;obtain⟨b',l2,rfl,rfl,_⟩:=h2;refine Fx func126 rfl ?_;exact Uh [] [2] [.k sA,.f rfl,.k co,.c [2] (Ql6 (a:=tq (Gj n d))),.c [2] cg] rfl
theorem Qro:U7 prog 127 [.agg [x,y,x',y'],.one (.row [])] [] [.one (.ow 0 0),.oi 0] [.blk 229 (Hm ⟨tq (Gj n d),[],0⟩ [] [])]:=by
 have co:=VO h1 h2 bn bd (ht.mono (by decide));have cg:=YV (T:=229) (r0:=[]) (r1:=[]) (IG ht) Ql9 (by decide);obtain⟨b,l1,rfl,rfl,_⟩:=h1;obtain⟨b',l2,rfl,rfl,_⟩:=h2;refine Fx func127 rfl ?_;exact Uh [] [2] [.k sA,.f rfl,.k co,.c [2] (Ql4 (a:=tq (Gj n d))),.c [2] cg] rfl
end
end Orr
namespace Orr
open Go Go.Proofs Tryz Orq
set_option maxRecDepth 10000
theorem Quj{np nd:Int}(h1:1<=np/\np<=6)(h2:0<=nd/\nd<=2):U7 prog 121 [.oi np,.oi nd] [] [.one (.ow 0 0),.oi 0] [.blk 159 [.int .i64 np,.int .i64 nd,.nils]]:=by
 refine Fx func121 rfl ?_;exact Uh [] [0] [.F,.f (by simp;omega),.f (by simp;omega),.f (by simp;omega)] rfl
theorem Qts{np nd:Int}(h1:1<=np/\np<=6)(h2:0<=nd/\nd<=2):U7 prog 54 [.oi np,.oi nd] [] [.one (.ow 0 0),.oi 0] (ZO 0 np nd [] 0 (Qxw [] (tq 0)) (Qxx [] (tq 0)) (Qxu [] (tq 0)) (Qxv [] (tq 0)) (Qxt [] (tq 0))):=by
 have ez:Gj (0:Rat).num ((0:Rat).den:Int)=0:=by decide
 have hq:Qs 1640000 (Gj (0:Rat).num ((0:Rat).den:Int)):=by rw[ez];exact⟨by decide,by decide⟩
 have i1:=U5 (0:Rat).num;have i2:=U5 ((0:Rat).den:Int);have c1:=Qrr i1 i2 (by decide) (by decide) hq;have c2:=Qrt i1 i2 (by decide) (by decide) hq;have c3:=Qrp i1 i2 (by decide) (by decide) hq;have c4:=Qrq i1 i2 (by decide) (by decide) hq;have c5:=Qro i1 i2 (by decide) (by decide) hq;rw[ez]at c1 c2 c3 c4 c5;have ci:=Quh (n:=0) (by decide);rw[show((0:Int):Rat)=0 from rfl,Lo]at ci;refine Fx func54 rfl ?_;refine Ud [.c [0] (Quj h1 h2),.f rfl] rfl ?_;refine nlc 0 2 rfl rfl rfl ?_;exact Uh [] [1,0,2,3,4,5,6] [.k ci,.c [2] c1,.c [3] c2,.c [4] c3,.c [5] c4,.c [6] c5] rfl
theorem UT{l:Um}(hl:l.length<=1000000):Uj 76 [.one (ids l),.one (ids l)] [.one (.bool true)]:=by
 have hll:(l.map λ(x:Int)=>[LV.int .i64 x]).length=l.length:=by simp
 refine Fx func76 rfl ?_;refine Ud [.f (by simp)] rfl ?_;refine Ui (S:=Nat) 0 (λL1 i=>(14,.v (.oi i))::L1) (λ_=>[]) (λi=>l.length-i) (λi=>i<=l.length) 0 (Qh _) rfl rfl λi hi=>?_
 by_cases h:i<l.length
 ·have hx:=G6 (f:=λ(x:Int)=>[LV.int .i64 x]) (Qe h);refine Ue [.t (by simp;omega),.x hx,.x hx,.f (by simp)] rfl ?_;exact rd (i+1) (by omega) h rfl
 ·exact Uf [.f (by simp;omega)] rfl
theorem Qf1{l:List P3}(hl:l.length<=1000000):Uj 77 [.one (.row (ZW l)),.one (.row (ZW l))] [.one (.bool true)]:=by
 have hll:(ZW l).length=l.length:=by simp[ZW]
 refine Fx func77 rfl ?_;refine Ud [.f (by simp)] rfl ?_;refine Ui (S:=Nat) 0 (λL1 i=>(14,.v (.oi i))::L1) (λ_=>[]) (λi=>l.length-i) (λi=>i<=l.length) 0 (Qh _) rfl rfl λi hi=>?_
 by_cases h:i<l.length
 ·have hx:=G6 (f:=trL) (Qe h);refine Ue [.t (by simp;omega),.x hx,.x hx,.f (by simp)] rfl ?_;exact rd (i+1) (by omega) h rfl
 ·exact Uf [.f (by simp;omega)] rfl
theorem Qm6{np nd np' nd':Int}{M:List Pt}{q:Rat}{s t h p d s' t' h' p' d':Cr}(hM:M.length≤6)(hok:∀x∈M,Qd8 4294967294 1073741824 x)(hq:Qs 128 q):U7 prog 21 [.one (.ow 0 0),.one (.ow 7 0)] (en2 np nd M q s t h p d np' nd' M q s' t' h' p' d') [.one (.bool true)] (en2 np nd M q s t h p d np' nd' M q s' t' h' p' d'):=by
 have ca:=mN (np:=np) (nd:=nd) hok (by omega);have ca':=mN (np:=np') (nd:=nd') hok (by omega);have cc:=Ck (a:=q) (b:=q) (hq.mono (by decide)) (hq.mono (by decide));have e0:Hf q q=0:=by rcases Ng q q with⟨e,h⟩|⟨e,h⟩|⟨e,h⟩ <;> grind
 rw[e0]at cc;have hll:(M.map Fe).length=M.length:=by simp
 have l1:(Sf (tq q) M).length<=6:=by rw[Nu];exact hM
 have l3:=YG M (tq q);have l5:=qP (Fw (tq q)) hM;have s1:=UT (l:=(Sf (tq q) M).map (·.id)) (by rw[Q9];omega);have s2:=UT (l:=(Nc (Fw (tq q)) M).1.map (·.id)) (by rw[Q9];rcases Qay (Fw (tq q)) M with e|⟨w,e⟩ <;> rw[e] <;> simp);have s3:=UT (l:=(S9 M (tq q)).map (·.id)) (by rw[Q9];omega);have s4:=UT (l:=(ZP (Fw (tq q)) M).map (·.id)) (by rw[Q9];rcases rQ (Fw (tq q)) M with e|⟨a,b,e⟩ <;> rw[e] <;> simp);have s5:=Qf1 (l:=qS (Fw (tq q)) M) (by omega);refine Fx func21 rfl ?_;refine Ud [.lo,.c [1] ca,.lo,.c [8] ca',.k cc,.g 31 false rfl,.f (by simp)] rfl ?_;refine Ui (S:=Nat) 14 (λL1 i=>(40,.v (.oi i))::L1) (λ_=>en2 np nd M q s t h p d np' nd' M q s' t' h' p' d') (λi=>M.length-i) (λi=>i<=M.length) 0 (Qh _) rfl rfl λi hi=>?_
 by_cases h:i<M.length
 ·obtain⟨x,hx⟩:=gxE (l:=M) (i:=i) h;have hxo:=hok x (Qc hx);have cs:=lL hxo.1 hxo.1 hxo.2 hxo.2;rw[show Eh x.c x.c=true by simp[Eh]]at cs;refine Ue [.t (by simp;omega),.x (Tj hx),.x (Tj hx),.g 53 false (by simp),.x (Tj hx),.k cs,.f rfl] rfl ?_;exact rd (i+1) (by omega) h rfl
 ·exact Uh [] [0,1,2,3,4,5,6,7,8,9,10,11,12,13] [.f (by simp;omega),.c Uv (jX hM),.c [7,8,9,10,11,12,13] (jX hM),.k s1,.t rfl,.k s2,.t rfl,.k s3,.t rfl,.k s4,.t rfl,.k s5] rfl
def Em.ins(A:Em)(p:Pt):Em×Int:=(if Na A.np A.nd A.M p=0 then { A with M:=put A.M p }else A,Na A.np A.nd A.M p)
def Em.rep(A:Em)(p:Pt):Em×Int:=(if Px A.nd A.M p=0 then { A with M:=A.M.set (Rk A.M p.id) p }else A,Px A.nd A.M p)
def Em.del(A:Em)(id:Int):Em×Int:=if has A.M id=true then({ A with M:=A.M.take (Rk A.M id)++A.M.drop (Rk A.M id+1) },0)else(A,5)
open Classical in
noncomputable def Em.adv(A:Em)(t:Rat):Em×Int:=if Qs 128 t then(if t<A.q then(A,8)else({ A with q:=t,s:=A.s+(cnt (VI A.M) A.q t:Nat),t:=A.t+(cnt (AE A.M) A.q t:Nat),h:=A.h+(cnt (BX A.M) A.q t:Nat),p:=A.p+(cnt (pQ A.M) A.q t:Nat),d:=A.d+(cnt (xP A.M) A.q t:Nat) },0))else(A,1)
theorem Qs0{np nd:Int}{k:Crv}(hn:ZI k)(hnd:nd<=2)(h1:A3 k=true)(h2:¬nd<RY k):Sc k:=by
 obtain⟨s1,s2,s3⟩:=WC.1 h1;unfold RY at h2;exact⟨hn,s1,s2,s3,by omega,by omega⟩
theorem Qi2{p:Pt}(h:Ol p=true):(0<=p.id/\p.id<=1048576)/\A3 p.c=true:=by
 simp only[Ol,Zn,decide_eq_true_iff]at h;exact⟨⟨h.1,h.2.1⟩,h.2.2⟩
theorem dG{M:List Pt}(hs:Mp M){p:Pt}(h:has M p.id=true):Mp (M.set (Rk M p.id) p):=by
 have hl:=YO h;have hid:∀(x:Pt),M[Rk M p.id]? = some x->x.id=p.id:=λx hx=>by
  simp only[has,hx]at h;exact of_decide_eq_true h
 unfold Mp;rw[Yc];intro i j hi hj hij;rw[Xd]at hi hj;have hx:=Qe hi;have hy:=Qe hj;have hlt:=Qs3 hs hij hx hy;rw[List.getElem_set,List.getElem_set]
 split
 ·rename_i e;subst e;rw[if_neg (by omega)];have:=hid _ hx;omega
 ·split
  ·rename_i e;subst e;have:=hid _ hy;omega
  ·exact hlt
theorem JX{M:List Pt}{i:Nat}{p x:Pt}(h:x∈M.set i p):x=p\/x∈M:=by
 rcases Jp h with h|h
 ·exact .inr h
 ·exact .inl h
theorem LH{M:List Pt}{i:Nat}{x:Pt}(h:x∈M.take i++M.drop (i+1)):x∈M:=by
 rcases Qq.1 h with h|h
 ·exact Qo h
 ·exact Qz h
theorem sJ{M:List Pt}(hs:Mp M)(i:Nat):Mp (M.take i++M.drop (i+1)):=by
 have h:=hs;unfold Mp at h ⊢;rw[<-Zh i M,Xw]at h;refine Xw.2 ⟨h.1,?_,λx hx y hy=>h.2.2 x hx y ?_⟩
 ·have:M.drop (i+1)=(M.drop i).drop 1:=by rw[Jw]
  rw[this];exact h.2.1.sublist (List.drop_sublist _ _)
 ·have:M.drop (i+1)=(M.drop i).drop 1:=by rw[Jw]
  rw[this]at hy;exact Qz hy
abbrev kA(f:Nat)(args:Uu)(E:Es)(res:Uu)(E':Es):Prop:=U7 prog f args (enB 0 E) res (enB 0 E')
theorem UO{E:Es}{b:Int}(h:EOk b E){lx ly:Us}{px py:Um}{x y:LV}{d id:Int}(hx:IsInts lx px)(hy:IsInts ly py)(hd:Gg x y d)(hk:Cs 4294967294 1073741824 (Crv.mk px py d)) :
 ∃E',EOk b E'/\E'.m=(E.m.ins ⟨Crv.norm (Crv.mk px py d),id⟩).1/\kA 58 [.one (.ow 0 0),.oi id,.agg [.row lx,.row ly,x,y]] E [.one (.int .i64 (E.m.ins ⟨Crv.norm (Crv.mk px py d),id⟩).2)] E':=by
 have hM:=h.m.m;have hl6:=hM.ln;have ct:=Quk (np:=E.np) (nd:=E.nd) (l:=E.M) (id:=id) hx hy hd hk (by omega);obtain⟨p,hp⟩:=nmE (Pt.mk (Crv.norm (Crv.mk px py d)) id);have hpn:ZI p.c:=by rw[hp];exact Crv.nml _
 by_cases e:Na E.np E.nd E.M p=0
 ·have e0:Ol p=true/\has E.M p.id=false/\¬E.nd<RY p.c/\¬E.np<=(E.M.length:Int):=by
   unfold Na at e;by_cases a1:Ol p=false
   ·rw[if_pos a1]at e;cases e
   rw[if_neg a1]at e;by_cases a2:has E.M p.id=true
   ·rw[if_pos a2]at e;cases e
   rw[if_neg a2]at e;by_cases a3:E.nd<RY p.c
   ·rw[if_pos a3]at e;cases e
   rw[if_neg a3]at e;by_cases a4:E.np<=(E.M.length:Int)
   ·rw[if_pos a4]at e;cases e
   exact⟨by simpa using a1,by simpa using a2,a3,a4⟩
  obtain⟨f1,f2,f3,f4⟩:=e0;obtain⟨g1,g2⟩:=Qi2 f1;have hsc:=Qs0 (np:=E.np) hpn h.nd.2 g2 f3;have hpl:(put E.M p).length<=6:=by rw[oI];have:=h.np.2;omega
  have hM':MOk (put E.M p):=⟨λz hz=>by rcases NW hz with rfl|hz;exact hsc;exact hM.sc z hz,hpl,EP hM.so f2⟩;have hME:MEn E.np E.nd (put E.M p):=⟨hM',by rw[oI];have:=h.np.2;omega,λz hz=>by rcases NW hz with rfl|hz;omega;exact h.m.deg z hz,λz hz=>by rcases NW hz with rfl|hz;exact g1;exact h.m.id z hz⟩;have hpe:WT E.M p=0:=by unfold WT;rw[if_neg (by rw[f2];decide),if_neg (by have:=h.np.2;omega)]
  rw[hp]at e hpe hM' hME hpl;rw[e,if_pos rfl]at ct;obtain⟨w1,l1,a1⟩:=h.s.again okS hM';obtain⟨w2,l2,a2⟩:=h.t.again okT hM';obtain⟨w3,l3,a3⟩:=h.h.again okH hM';obtain⟨w4,l4,a4⟩:=h.p.again okP hM';obtain⟨w5,l5,a5⟩:=h.d.again okD hM';have c1:=Qt6 (c:=E.s) (l:=E.M) (r1:=pA E.M (tq E.q)) hx hy hd hk (by omega) hpe h.s.st.inv.ok hM'.sc (by omega) l1;have c2:=Qnx (c:=E.t) (l:=E.M) (r1:=pI E.M (tq E.q)) hx hy hd hk (by omega) hpe h.t.st.inv.ok hM'.sc (by omega) l2;have c3:=Qm9 (c:=E.h) (l:=E.M) (r1:=brH E.M (tq E.q)) hx hy hd hk (by omega) hpe h.h.st.inv.ok hM'.sc (by omega) l3;have c4:=Qnh (c:=E.p) (l:=E.M) (r1:=brP E.M (tq E.q)) hx hy hd hk (by omega) hpe h.p.st.inv.ok hM'.sc (by omega) l4;have c5:=Qm5 (c:=E.d) (l:=E.M) (r1:=pE E.M (tq E.q)) hx hy hd hk (by omega) hpe h.d.st.inv.ok hM'.sc (by omega) l5;rw[h.s.now]at c1;rw[h.t.now]at c2;rw[h.h.now]at c3;rw[h.p.now]at c4;rw[h.d.now]at c5;obtain⟨b1,r,rfl,rfl,_⟩:=hd;refine⟨⟨E.np,E.nd,put E.M ⟨Crv.norm (Crv.mk px py d),id⟩,E.q,⟨tq E.q,w1,E.s.ev⟩,⟨tq E.q,w2,E.t.ev⟩,⟨tq E.q,w3,E.h.ev⟩,⟨tq E.q,w4,E.p.ev⟩,⟨tq E.q,w5,E.d.ev⟩⟩,⟨h.np,h.nd,hME,h.q,a1,a2,a3,a4,a5,h.es,h.et,h.eh,h.ep,h.ed⟩,?_,?_⟩
  ·unfold Em.ins;show _=if Na E.np E.nd E.M _=0 then _ else _
   rw[if_pos e];rfl
  ·have e2:(E.m.ins ⟨Crv.norm (Crv.mk px py d),id⟩).2=0:=e;rw[e2];exact Qe0 ct c1 c2 c3 c4 c5
 ·rw[hp]at e;rw[if_neg e]at ct;obtain⟨b1,r,rfl,rfl,_⟩:=hd;refine⟨E,h,?_,Qbg e ct⟩;unfold Em.ins;show _=if Na E.np E.nd E.M _=0 then _ else _
  rw[if_neg e]
theorem DV{E:Es}{b:Int}(h:EOk b E){lx ly:Us}{px py:Um}{x y:LV}{d id:Int}(hx:IsInts lx px)(hy:IsInts ly py)(hd:Gg x y d)(hk:Cs 4294967294 1073741824 (Crv.mk px py d)) :
 ∃E',EOk b E'/\E'.m=(E.m.rep ⟨Crv.norm (Crv.mk px py d),id⟩).1/\kA 49 [.one (.ow 0 0),.oi id,.agg [.row lx,.row ly,x,y]] E [.one (.int .i64 (E.m.rep ⟨Crv.norm (Crv.mk px py d),id⟩).2)] E':=by
 have hM:=h.m.m;have hl6:=hM.ln;have ct:=Qof (np:=E.np) (nd:=E.nd) (l:=E.M) (id:=id) hx hy hd hk (by omega);obtain⟨p,hp⟩:=nmE (Pt.mk (Crv.norm (Crv.mk px py d)) id);have hpn:ZI p.c:=by rw[hp];exact Crv.nml _
 have hpi:p.id=id:=by rw[hp]
 by_cases e:Px E.nd E.M p=0
 ·have e0:Ol p=true/\has E.M p.id=true/\¬E.nd<RY p.c:=by
   unfold Px at e;by_cases a1:Ol p=false
   ·rw[if_pos a1]at e;cases e
   rw[if_neg a1]at e;by_cases a2:has E.M p.id=false
   ·rw[if_pos a2]at e;cases e
   rw[if_neg a2]at e;by_cases a3:E.nd<RY p.c
   ·rw[if_pos a3]at e;cases e
   exact⟨by simpa using a1,by simpa using a2,a3⟩
  obtain⟨f1,f2,f3⟩:=e0;obtain⟨g1,g2⟩:=Qi2 f1;have hsc:=Qs0 (np:=E.np) hpn h.nd.2 g2 f3;have hM':MOk (E.M.set (Rk E.M p.id) p):=⟨λz hz=>by rcases JX hz with rfl|hz;exact hsc;exact hM.sc z hz,by rw[Xd];exact hl6,dG hM.so f2⟩;have hME:MEn E.np E.nd (E.M.set (Rk E.M p.id) p):=⟨hM',by rw[Xd];exact h.m.len,λz hz=>by rcases JX hz with rfl|hz;omega;exact h.m.deg z hz,λz hz=>by rcases JX hz with rfl|hz;exact g1;exact h.m.id z hz⟩;rw[hpi]at f2 hM' hME;rw[hp]at e hM' hME;rw[e,if_pos rfl]at ct;obtain⟨w1,l1,a1⟩:=h.s.again okS hM';obtain⟨w2,l2,a2⟩:=h.t.again okT hM';obtain⟨w3,l3,a3⟩:=h.h.again okH hM';obtain⟨w4,l4,a4⟩:=h.p.again okP hM';obtain⟨w5,l5,a5⟩:=h.d.again okD hM';have c1:=Qnm (c:=E.s) (l:=E.M) (r1:=pA E.M (tq E.q)) hx hy hd hk (by omega) f2 h.s.st.inv.ok rfl hM'.sc l1;have c2:=Qft (c:=E.t) (l:=E.M) (r1:=pI E.M (tq E.q)) hx hy hd hk (by omega) f2 h.t.st.inv.ok rfl hM'.sc l2;have c3:=Qey (c:=E.h) (l:=E.M) (r1:=brH E.M (tq E.q)) hx hy hd hk (by omega) f2 h.h.st.inv.ok rfl hM'.sc l3;have c4:=Qfc (c:=E.p) (l:=E.M) (r1:=brP E.M (tq E.q)) hx hy hd hk (by omega) f2 h.p.st.inv.ok rfl hM'.sc l4;have c5:=Qes (c:=E.d) (l:=E.M) (r1:=pE E.M (tq E.q)) hx hy hd hk (by omega) f2 h.d.st.inv.ok rfl hM'.sc l5;rw[h.s.now]at c1;rw[h.t.now]at c2;rw[h.h.now]at c3;rw[h.p.now]at c4;rw[h.d.now]at c5;obtain⟨b1,r,rfl,rfl,_⟩:=hd;refine⟨⟨E.np,E.nd,E.M.set (Rk E.M id) ⟨Crv.norm (Crv.mk px py d),id⟩,E.q,⟨tq E.q,w1,E.s.ev⟩,⟨tq E.q,w2,E.t.ev⟩,⟨tq E.q,w3,E.h.ev⟩,⟨tq E.q,w4,E.p.ev⟩,⟨tq E.q,w5,E.d.ev⟩⟩,⟨h.np,h.nd,hME,h.q,a1,a2,a3,a4,a5,h.es,h.et,h.eh,h.ep,h.ed⟩,?_,?_⟩
  ·unfold Em.rep;show _=if Px E.nd E.M _=0 then _ else _
   rw[if_pos e];rfl
  ·have e2:(E.m.rep ⟨Crv.norm (Crv.mk px py d),id⟩).2=0:=e;rw[e2];exact Qfi ct c1 c2 c3 c4 c5
 ·rw[hp]at e;rw[if_neg e]at ct;obtain⟨b1,r,rfl,rfl,_⟩:=hd;refine⟨E,h,?_,Qbk e ct⟩;unfold Em.rep;show _=if Px E.nd E.M _=0 then _ else _
  rw[if_neg e]
theorem Qhi{E:Es}{b id:Int}(h:EOk b E) :
 ∃E',EOk b E'/\E'.m=(E.m.del id).1/\kA 59 [.one (.ow 0 0),.oi id] E [.one (.int .i64 (E.m.del id).2)] E':=by
 have hM:=h.m.m;have hl6:=hM.ln;by_cases f2:has E.M id=true
 ·have ct:=Qoe (np:=E.np) (nd:=E.nd) (l:=E.M) (by omega) f2;have hpl:=YO f2;have hgl:=Qh9 hpl;have hM':MOk (E.M.take (Rk E.M id)++E.M.drop (Rk E.M id+1)):=⟨λz hz=>hM.sc z (LH hz),by omega,sJ hM.so _⟩;have hME:MEn E.np E.nd (E.M.take (Rk E.M id)++E.M.drop (Rk E.M id+1)):=⟨hM',by have:=h.m.len;omega,λz hz=>h.m.deg z (LH hz),λz hz=>h.m.id z (LH hz)⟩;obtain⟨w1,l1,a1⟩:=h.s.again okS hM';obtain⟨w2,l2,a2⟩:=h.t.again okT hM';obtain⟨w3,l3,a3⟩:=h.h.again okH hM';obtain⟨w4,l4,a4⟩:=h.p.again okP hM';obtain⟨w5,l5,a5⟩:=h.d.again okD hM';have c1:=Qnk (c:=E.s) (l:=E.M) (r1:=pA E.M (tq E.q)) (by omega) f2 h.s.st.inv.ok rfl hM'.sc l1;have c2:=Qfs (c:=E.t) (l:=E.M) (r1:=pI E.M (tq E.q)) (by omega) f2 h.t.st.inv.ok rfl hM'.sc l2;have c3:=Qex (c:=E.h) (l:=E.M) (r1:=brH E.M (tq E.q)) (by omega) f2 h.h.st.inv.ok rfl hM'.sc l3;have c4:=Qfb (c:=E.p) (l:=E.M) (r1:=brP E.M (tq E.q)) (by omega) f2 h.p.st.inv.ok rfl hM'.sc l4;have c5:=Qer (c:=E.d) (l:=E.M) (r1:=pE E.M (tq E.q)) (by omega) f2 h.d.st.inv.ok rfl hM'.sc l5;rw[h.s.now]at c1;rw[h.t.now]at c2;rw[h.h.now]at c3;rw[h.p.now]at c4;rw[h.d.now]at c5;have e2:E.m.del id=({ E.m with M:=E.M.take (Rk E.M id)++E.M.drop (Rk E.M id+1) },0):=if_pos f2;rw[e2];exact⟨⟨E.np,E.nd,E.M.take (Rk E.M id)++E.M.drop (Rk E.M id+1),E.q,⟨tq E.q,w1,E.s.ev⟩,⟨tq E.q,w2,E.t.ev⟩,⟨tq E.q,w3,E.h.ev⟩,⟨tq E.q,w4,E.p.ev⟩,⟨tq E.q,w5,E.d.ev⟩⟩,⟨h.np,h.nd,hME,h.q,a1,a2,a3,a4,a5,h.es,h.et,h.eh,h.ep,h.ed⟩,rfl,Qet ct c1 c2 c3 c4 c5⟩
 ·have e2:E.m.del id=(E.m,5):=if_neg f2;rw[e2];exact⟨E,h,rfl,Qbb (show(5:Int)≠0 by decide) (Qgn (by omega) (by simpa using f2))⟩
theorem YM{E:Es}{b:Int}(h:EOk b E)(hb:b<=900000000000000000){x0 x1 x2 x3:LV}{n m:Int}{t:Rat}(ha:Gg x0 x1 n)(hc:Gg x2 x3 m)(sa:Ff n<=4294967295)(sb:Ff m<=4294967295)(ht:Gj n m=t) :
 ∃E',EOk (b+67000000) E'/\E'.m=(E.m.adv t).1/\((E.m.adv t).2≠0->E'=E)/\kA 17 [.one (.ow 0 0),.agg [x0,x1,x2,x3]] E [.one (.int .i64 (E.m.adv t).2)] E':=by
 have hM:=h.m.m;have hl6:=hM.ln;by_cases hs:Qs 128 t
 ·by_cases hp:t<E.q
  ·have e2:E.m.adv t=(E.m,8):=by unfold Em.adv;rw[if_pos hs];exact if_pos hp
   rw[e2];exact⟨E,h.mono (by omega),rfl,λ_=>rfl,AA ha hc sa sb ht hs h.q hp⟩
  ·have hqt:E.q<=t:=Rat.not_lt.1 hp;have e2:E.m.adv t=(({ E.m with q:=t,s:=E.s.ev+(cnt (VI E.M) E.q t:Nat),t:=E.t.ev+(cnt (AE E.M) E.q t:Nat),h:=E.h.ev+(cnt (BX E.M) E.q t:Nat),p:=E.p.ev+(cnt (pQ E.M) E.q t:Nat),d:=E.d.ev+(cnt (xP E.M) E.q t:Nat) }:Em),0):=by unfold Em.adv;rw[if_pos hs];exact if_neg hp
   rw[e2];have hq:Qs 1640000 t:=hs.mono (by decide);obtain⟨K1,d1,k1,g1,a1,v1,u1,_⟩:=h.s.adv okS hM hq hqt;obtain⟨K2,d2,k2,g2,a2,v2,u2,_⟩:=h.t.adv okT hM hq hqt;obtain⟨K3,d3,k3,g3,a3,v3,u3,_⟩:=h.h.adv okH hM hq hqt;obtain⟨K4,d4,k4,g4,a4,v4,u4,_⟩:=h.p.adv okP hM hq hqt;obtain⟨K5,d5,k5,g5,a5,v5,u5,_⟩:=h.d.adv okD hM hq hqt;have hcm:∀{c:Cr},c.now=tq E.q->Ft c.now t<=0:=λ{c} hn=>by
    rw[hn,Qap];exact MN.2 hqt
   have c1:=Qt4 hq hM.sc (by omega) h.s.st.inv.ok (by have:=h.es;omega) (hcm h.s.now) g1;have c2:=Qnw hq hM.sc (by omega) h.t.st.inv.ok (by have:=h.et;omega) (hcm h.t.now) g2;have c3:=Qtt hq hM.sc (by omega) h.h.st.inv.ok (by have:=h.eh;omega) (hcm h.h.now) g3;have c4:=Qng hq hM.sc (by omega) h.p.st.inv.ok (by have:=h.ep;omega) (hcm h.p.now) g4;have c5:=Qtr hq hM.sc (by omega) h.d.st.inv.ok (by have:=h.ed;omega) (hcm h.d.now) g5;refine⟨⟨E.np,E.nd,E.M,t,d1,d2,d3,d4,d5⟩,⟨h.np,h.nd,h.m,hs,a1,a2,a3,a4,a5,?_,?_,?_,?_,?_⟩,?_,λh=>absurd rfl h,Qa9 ha hc sa sb ht hs h.q hqt c1 c2 c3 c4 c5⟩
   ·have:=h.es;show 0<=d1.ev/\d1.ev<=_;omega
   ·have:=h.et;show 0<=d2.ev/\d2.ev<=_;omega
   ·have:=h.eh;show 0<=d3.ev/\d3.ev<=_;omega
   ·have:=h.ep;show 0<=d4.ev/\d4.ev<=_;omega
   ·have:=h.ed;show 0<=d5.ev/\d5.ev<=_;omega
   ·unfold Es.m;simp only[v1,v2,v3,v4,v5]
 ·have e2:E.m.adv t=(E.m,1):=by unfold Em.adv;exact if_neg hs
  rw[e2];exact⟨E,h.mono (by omega),rfl,λ_=>rfl,xE ha hc sa sb ht hs⟩
noncomputable def Em.ans(A:Em)(t:Rat):Ur:=if (A.adv t).2=0 then wY A.M t else Qxp
theorem jN{E:Es}{b:Int}(h:EOk b E)(hb:b<=900000000000000000){x0 x1 x2 x3:LV}{n m:Int}{t:Rat}(ha:Gg x0 x1 n)(hc:Gg x2 x3 m)(sa:Ff n<=4294967295)(sb:Ff m<=4294967295)(ht:Gj n m=t) :
 kA 20 [.one (.ow 0 0),.agg [x0,x1,x2,x3]] E [.agg (E.m.ans t),.one (.int .i64 (E.m.adv t).2)] E:=by
 obtain⟨E',h1,h2,h3,h4⟩:=YM h hb ha hc sa sb ht;obtain⟨b1,r1,rfl,rfl,_⟩:=ha;obtain⟨b2,r2,rfl,rfl,_⟩:=hc;unfold Em.ans;by_cases e:(E.m.adv t).2=0
 ·rw[if_pos e];rw[e]at h4 ⊢;have hs:Qs 128 t/\¬t<E.q:=by
   unfold Em.adv at e;by_cases a:Qs 128 t
   ·rw[if_pos a]at e;by_cases a':t<E.m.q
    ·rw[if_pos a']at e;cases e
    ·exact⟨a,a'⟩
   ·rw[if_neg a]at e;cases e
  have e2:E.m.adv t=(({ E.m with q:=t,s:=E.s.ev+(cnt (VI E.M) E.q t:Nat),t:=E.t.ev+(cnt (AE E.M) E.q t:Nat),h:=E.h.ev+(cnt (BX E.M) E.q t:Nat),p:=E.p.ev+(cnt (pQ E.M) E.q t:Nat),d:=E.d.ev+(cnt (xP E.M) E.q t:Nat) }:Em),0):=by unfold Em.adv;rw[if_pos hs.1];exact if_neg hs.2
  rw[e2]at h2;obtain⟨np,nd,M,q,s,u,v,p,d⟩:=E';unfold Es.m at h2;injection h2 with i1 i2 i3 i4;dsimp only at i1 i2 i3 i4;subst i1 i2 i3 i4;exact Qbj h.q h.m.m.ln h4
 ·rw[if_neg e];rw[h3 e]at h4;exact Qfg e h.q h4
end Orr
namespace Orr
open Go Go.Proofs Tryz Orq
set_option maxRecDepth 10000
theorem wV{β:Type}{k:Knd β}{M:List Pt}{q:Rat}{c:Cr}(h:At k M q c):Iw c.l=Fp (Fp (k.bc M (tq q))):=by
 unfold Iw;rw[h.st.cs,h.now]
def II(M:List Pt)(q:Rat):List Ct:=Fp (Fp (VI M (tq q)))++Fp (Fp (AE M (tq q)))++Fp (Fp (BX M (tq q)))++Fp (Fp (pQ M (tq q)))++Fp (Fp (xP M (tq q)))
theorem uE{E:Es}{b:Int}(h:EOk b E):kA 24 [.one (.ow 0 0)] E [.one (.row (U9 (II E.M E.q)))] E:=by
 have hc:=Qm3 (np:=E.np) (nd:=E.nd) (M:=E.M) (q:=E.q) h.s.st.inv.ok h.t.st.inv.ok h.h.st.inv.ok h.p.st.inv.ok h.d.st.inv.ok;have e:Iw E.s.l++Iw E.t.l++Iw E.h.l++Iw E.p.l++Iw E.d.l=II E.M E.q:=by
  rw[wV h.s,wV h.t,wV h.h,wV h.p,wV h.d];rfl
 rw[e]at hc;exact hc
theorem Qgt{E:Es}{b:Int}(h:EOk b E):(∀c∈II E.M E.q,Cp c.p)/\(II E.M E.q).length≤1000000:=by
 have hv:Va (tq E.q):=IG (h.q.mono (by decide));have S1:=okS.st _ h.m.m;have S2:=okT.st _ h.m.m;have S3:=okH.st _ h.m.m;have S4:=okP.st _ h.m.m;have S5:=okD.st _ h.m.m;constructor
 ·intro c hc;unfold II at hc;simp only[Qq]at hc;rcases hc with (((hc|hc)|hc)|hc)|hc
  ·exact S1.ok.p _ hv c (Td (Td hc))
  ·exact S2.ok.p _ hv c (Td (Td hc))
  ·exact S3.ok.p _ hv c (Td (Td hc))
  ·exact S4.ok.p _ hv c (Td (Td hc))
  ·exact S5.ok.p _ hv c (Td (Td hc))
 ·unfold II;simp only[Qu,M4];have:=S1.ok.n _ hv;have:=S2.ok.n _ hv;have:=S3.ok.n _ hv;have:=S4.ok.n _ hv;have:=S5.ok.n _ hv;have e1:(kS.bc E.M (tq E.q)).length=(VI E.M (tq E.q)).length:=rfl;have e2:(kT.bc E.M (tq E.q)).length=(AE E.M (tq E.q)).length:=rfl;have e3:(kH.bc E.M (tq E.q)).length=(BX E.M (tq E.q)).length:=rfl;have e4:(kP.bc E.M (tq E.q)).length=(pQ E.M (tq E.q)).length:=rfl;have e5:(kD.bc E.M (tq E.q)).length=(xP E.M (tq E.q)).length:=rfl;omega
abbrev Qu3(E F:Es):Ut:=en2 E.np E.nd E.M E.q E.s E.t E.h E.p E.d F.np F.nd F.M F.q F.s F.t F.h F.p F.d
theorem Qj2{E:Es}{b:Int}(h:EOk b E):∀x∈E.M,Qd8 4294967294 1073741824 x:=λx hx=>by
 have:=h.m.m.sc x hx;exact⟨this.n,this.c.mono (by decide) (by decide)⟩
theorem Qhk{E F:Es}{b:Int}(h:EOk b E)(hM:F.M=E.M)(hq:F.q=E.q):U7 prog 21 [.one (.ow 0 0),.one (.ow 7 0)] (Qu3 E F) [.one (.bool true)] (Qu3 E F):=by
 obtain⟨np,nd,M,q,s,t,v,p,d⟩:=F;dsimp only at hM hq;subst hM hq;exact Qm6 h.m.m.ln (Qj2 h) h.q
theorem Qox{E:Es}{b:Int}(h:EOk b E):U7 prog 13 [.one (.ow 0 0)] (enB 0 E) [.one (.ow 7 0)] (Qu3 E E):=xI h.q
abbrev Q0q(A:Em):Ur:=[.int .i64 A.s,.int .i64 A.t,.int .i64 A.h,.int .i64 A.p,.int .i64 A.d]
theorem uA{E:Es}:kA 22 [.one (.ow 0 0)] E [.agg (Q0q E.m)] E:=Qep
theorem Qu1{E:Es}{b:Int}(h:EOk b E):kA 26 [.one (.ow 0 0)] E [.agg (wY E.M E.q)] E:=jX h.m.m.ln
def vI(z:RawInt):Int:=Fc z.b (val z.l)
def RawInt.cutN(z:RawInt)(n:Nat):RawInt:=⟨z.b,z.l.take n⟩
theorem RawInt.Ok.cutN_ok{z:RawInt}(h:z.Ok)(n:Nat):(z.cutN n).Ok:=⟨λu hu=>h.u u (Qo hu)⟩
theorem YC{z:RawInt}(h:z.Ok):Gg (.bool z.b) (.row (lm z.l)) (vI z):=⟨z.b,z.l,rfl,rfl,h.u,rfl⟩
theorem MI{z:RawInt}(h:z.Ok){n:Nat}(hl:z.l.length<=n):Ff (vI z)<=32*n:=by
 have h1:=By z.l h.u;have e:(vI z).natAbs=val z.l:=by unfold vI Fc;split <;> simp
 refine Sj.2 ?_;rw[e,Ks];exact Z6 h1 (Zs (by decide) hl)
theorem XV(z:RawInt)(n:Nat):(z.cutN n).l.length<=n:=by show(z.l.take n).length<=n;rw[Qp];omega
theorem MG{z:RawInt}{n:Nat}(hn:n<=1000):Uj 203 [.agg (Ed z),.oi n] [.agg (Ed (z.cutN n))] :=
 Ug func203 rfl [.k (Qub (l:=z.l) hn)] rfl
theorem Qn2{t u:RawInt}:Uj 131 [.agg (Ed t++Ed u),.oi 6] [.agg (Ed (t.cutN 6)++Ed (u.cutN 6))] :=
 Ug func131 rfl [.k (MG (z:=t) (n:=6) (by decide)),.k (MG (z:=u) (n:=6) (by decide))] rfl
theorem wL{l:List RawInt}:Uj 202 [.one (.row (Ir l)),.oi 4,.oi 1] [.one (.row (Ir ((l.take 4).map (·.cutN 1))))]:=by
 have hll:=O9 l;refine Fx func202 rfl (ln 0 rfl rfl λhzl=>?_);rw[hll]at hzl;refine Ud [.o 7 36 2] rfl ?_;refine Ui (S:=Nat) 1 (λL1 i=>(8,.v (.oi i))::(7,.v (.one (.orow 0 2 none)))::L1) (λi=>[.row false 36 2 (Ir ((l.take i).map (·.cutN 1)))]) (λi=>4-i) (λi=>i<=4/\i<=l.length) 0 ⟨by decide,Qh _⟩ rfl rfl λi ⟨hi,hi2⟩=>?_
 have hil:(Ir ((l.take i).map (·.cutN 1))).length=i:=by rw[O9,Q9,Qp];omega
 by_cases h1:i<l.length
 ·by_cases h2:i<4
  ·obtain⟨z,hz⟩:=gxE (l:=l) (i:=i) h1;have hm:∀y∈[Ed (z.cutN 1)],y.length=2:=λy hy=>by rw[Qk.1 hy];rfl
   refine go tt [.g 13 true Ul,.T,.x (G6 (f:=Ed) hz),.k (MG (n:=1) (by decide)),.s (sz:=2) hm] rfl (by simp[U4,hil,-List.map_take];omega) ?_;exact rd (i+1) (by omega) ⟨h2,h1⟩ (by rw[Zv,hz];simp[Ir];rfl)
  ·have e:i=4:=by omega
   have e2:l.take 4=l.take i:=by rw[e]
   rw[e2];exact Uf [.g 13 true Ul,.F] rfl
 ·have e:l.take i=l.take 4:=by rw[Qm (by omega),Qm (by omega)]
  rw[e];exact Uf [.g 13 false Uk,.f rfl] rfl
theorem Qtq{z:RawPt}:Uj 129 [.agg (rcw z),.oi 4,.oi 1] [.agg [.row (Ir ((z.x.take 4).map (·.cutN 1))),.row (Ir ((z.y.take 4).map (·.cutN 1))),.bool z.d.b,.row (lm (z.d.l.take 1))]] :=
 Ug func129 rfl [.k (wL (l:=z.x)),.k (wL (l:=z.y)),.k (MG (z:=z.d) (n:=1) (by decide))] rfl
theorem WX:∀{l:List RawInt},(∀z∈l,z.Ok)->IsInts (Ir l) (l.map vI)
 | [],_=>trivial
 |z::l,h=>⟨⟨_,_,rfl,YC (h z (Qy ..))⟩,WX λy hy=>h y (Qg _ hy)⟩
theorem IM{x y:LV}{z:Int}(h:Gg x y z)(hl:∀l,y=.row (lm l)->l.length<=1000):Uj 74 [.agg [x,y]] [.agg (ri z)]:=by
 obtain⟨b,l,rfl,rfl,hs,rfl⟩:=h;have hl:=hl l rfl;have hv:=By l hs;have hsz:sz (val l)<=100000000:=by
  refine Qa ((Nv (k:=32*l.length)).2 ?_) (by omega);rw[Ks];exact hv
 exact Ug func74 rfl [.k (Qm7 hs (by omega) hsz),.k (Ny b (val l))] rfl
theorem xO{x y x' y':LV}{a b:Int}(h:Gg x y a)(h':Gg x' y' b)(hl:∀l,y=.row (lm l)->l.length<=1000)(hl':∀l,y'=.row (lm l)->l.length<=1000)(sa:Ff a<=90000000)(sb:Ff b<=90000000):Uj 19 [.agg [x,y,x',y']] [.agg (fr (Gj a b))]:=by
 have c1:=IM h hl;have c2:=IM h' hl';have c3:=YU sa sb;obtain⟨b1,l1,rfl,rfl,_⟩:=h;obtain⟨b2,l2,rfl,rfl,_⟩:=h';exact Ug func19 rfl [.k c1,.k c2,.k c3] rfl
theorem Qit{a b:Uo}(h:LV.row (lm a)=.row (lm b)):a.length=b.length:=by
 injection h with h;have:=congrArg List.length h;simpa[lm]using this
theorem wR{q:Rat}(hq:Qs 30000 q):Uj 19 [.agg (rl q)] [.agg (fr q)]:=by
 have e:Gj q.num (q.den:Int)=q:=by
  unfold Gj;rw[if_neg (by have:=q.den_pos;omega)];exact Z5 q
 have ln:∀{z:Int},Ff z<=30000->∀l,mg z=.row (lm l)->l.length<=1000:=λ{z} hz l h=>by
  have h1:=Rp (x:=z.natAbs) (k:=30000) hz;have:=Qit h;omega
 have h:=xO (U5 q.num) (U5 (q.den:Int)) (ln hq.1) (ln hq.2) (Qa hq.1 (by decide)) (Qa hq.2 (by decide));rw[e]at h;exact h
theorem Qi9{m b:Nat}(hb:0<b)(h:0<m % b):(-(m:Int)) % (b:Int)=-((m % b:Nat):Int)+(b:Int):=by
 have h1:=Z4 m hb;have h2:=We m b;have e:-(m:Int)=(-((m % b:Nat):Int)+(b:Int))+(b:Int)*(-((m / b:Nat):Int)-1):=by
  have:(m:Int)=((m % b:Nat):Int)+(b:Int)*((m / b:Nat):Int):=by
   have:=congrArg (λ(n:Nat)=>(n:Int)) h2
   push_cast at this ⊢
   omega
  rw[Int.mul_sub,V8];omega
 rw[e,Int.add_mul_emod_self_left];exact Int.emod_eq_of_lt (by omega) (by omega)
theorem Qbr{a:Int}{b:Nat}(ha:Ff a<=90000000)(hb:Ff (b:Int)<=90000000)(h0:0<b):∃x,Uj 135 [.agg (ri a),.agg (ri (b:Int))] [.agg (ri x),.agg (ri (a % (b:Int)))]:=by
 have cd:=mY (x:=a.natAbs) (y:=(b:Int).natAbs) ha hb (by omega);have eb:(b:Int).natAbs=b:=rfl;have sb:sg (b:Int)=.bool false:=by unfold sg;rw[decide_eq_false (by omega)]
 rw[eb]at cd;have hml:=Z4 a.natAbs h0;rcases Kd a 0 with hn|hn
 ·have sa:sg a=.bool true:=by unfold sg;rw[decide_eq_true hn]
  have m1:=Ny true (a.natAbs / b);have m2:=Ny true (a.natAbs % b);have ea:a=-(a.natAbs:Int):=by omega
  by_cases hr:a.natAbs % b=0
  ·have e:a % (b:Int)=0:=by
    rw[ea];exact Jx ((Int.dvd_neg).2 (Int.ofNat_dvd.2 (Nat.dvd_of_mod_eq_zero hr)))
   rw[e];refine⟨Fc true (a.natAbs / b),?_⟩;rw[hr]at m2 cd;rw[show Fc true 0=0 from rfl]at m2;show Uj 135 [.agg [nd a.natAbs,sg a],.agg [nd (b:Int).natAbs,sg (b:Int)]] _;rw[sa,sb,eb];exact Ug func135 rfl [.k cd,.k m1,.k m2,.t rfl] rfl
  ·have e:=Qi9 h0 (by omega:0<a.natAbs % b);rw[<-ea]at e;have os:Fc true (a.natAbs % b)=-((a.natAbs % b:Nat):Int):=rfl;have ng:decide (Fc true (a.natAbs % b)<0)=true:=by rw[os];exact decide_eq_true (by omega)
   have hsm:Ff (Fc true (a.natAbs % b))<=200000000:=by
    rw[os,Hn];exact Qa (Ri (Nat.mod_le _ _)) (Qa ha (by decide))
   have hsd:Ff (Fc true (a.natAbs / b))<=200000000:=by
    show Ff (-((a.natAbs / b:Nat):Int))<=_;rw[Hn];exact Qa (Ri (Jq _ _)) (Qa ha (by decide))
   have c1:=ZH (n:=1) (by decide);have c2:=Qf3 (a:=Fc true (a.natAbs / b)) (b:=1) hsd (by decide);have c3:=mH (a:=Fc true (a.natAbs % b)) (b:=(b:Int)) hsm (Qa hb (by decide));rw[os,<-e]at c3;rw[os]at m2 ng;refine⟨Fc true (a.natAbs / b)-1,?_⟩;show Uj 135 [.agg [nd a.natAbs,sg a],.agg [nd (b:Int).natAbs,sg (b:Int)]] _;have c3':Uj 115 [.agg (ri (-((a.natAbs % b:Nat):Int))),.agg [nd b,.bool false]] [.agg (ri (a % (b:Int)))]:=by rw[<-sb];exact c3
   rw[sa,sb,eb];exact Ug func135 rfl [.k cd,.k m1,.k m2,.f (show(!decide (-((a.natAbs % b:Nat):Int)<0))=false by rw[ng];rfl),.f rfl,.k c1,.k c2,.k c3'] rfl
 ·have sa:sg a=.bool false:=by unfold sg;rw[decide_eq_false (by omega)]
  have m1:=Ny false (a.natAbs / b);have m2:=Ny false (a.natAbs % b);have ea:a=(a.natAbs:Int):=by omega
  have e:a % (b:Int)=((a.natAbs % b:Nat):Int):=by rw[ea];rfl
  have os:Fc false (a.natAbs % b)=((a.natAbs % b:Nat):Int):=rfl;have ng:decide (((a.natAbs % b:Nat):Int)<0)=false:=decide_eq_false (by omega);rw[e];rw[os]at m2;refine⟨Fc false (a.natAbs / b),?_⟩;show Uj 135 [.agg [nd a.natAbs,sg a],.agg [nd (b:Int).natAbs,sg (b:Int)]] _;rw[sa,sb,eb];exact Ug func135 rfl [.k cd,.k m1,.k m2,.t (show(!decide (((a.natAbs % b:Nat):Int)<0))=true by rw[ng];rfl)] rfl
def PZ(x:Rat):Rat:=Gj (x.num % (x.den:Int)) (x.den:Int)
theorem Qab{x:Rat}(h:Qs 128 x):Qs 128 (PZ x):=by
 have h0:=x.den_pos;have h1:=Ye x.num (b:=(x.den:Int)) (by omega);have h2:=Js x.num (b:=(x.den:Int)) (by omega);unfold PZ Gj;rw[if_neg (by omega)];refine⟨Ph (Qa (Ri (by omega)) h.2),Pg h.2 (by decide)⟩
theorem Qn7{x y x' y':LV}{a b:Int}(h:Gg x y a)(h':Gg x' y' b)(hl:∀l,y=.row (lm l)->l.length<=1000)(hl':∀l,y'=.row (lm l)->l.length<=1000)(sa:Ff a<=90000000)(sb:Ff b<=90000000)(hq:Qs 128 (Gj a b)):Uj 61 [.agg [x,y,x',y']] [.agg (rl (PZ (Gj a b)))]:=by
 have c1:=xO h h' hl hl' sa sb;obtain⟨q,hqe⟩:=nmE (Gj a b);rw[<-hqe]at c1 hq ⊢;have c2:=IL (q:=q) (hq.mono (by decide));obtain⟨z,c3⟩:=Qbr (a:=q.num) (b:=q.den) (Qa hq.1 (by decide)) (Qa hq.2 (by decide)) q.den_pos;have h2:=Js q.num (b:=(q.den:Int)) (by have:=q.den_pos;omega);have h1:=Ye q.num (b:=(q.den:Int)) (by have:=q.den_pos;omega);have c4:=YU (a:=q.num % (q.den:Int)) (b:=(q.den:Int)) (Qa (Ri (by omega)) (Qa hq.2 (by decide))) (Qa hq.2 (by decide));have c5:=IL (q:=PZ q) ((Qab hq).mono (by decide));have l1:=ZD.2 hq.1;have l2:(Gd q.den).length<=4:=by simpa using ZD.2 hq.2
 obtain⟨b1,r1,rfl,rfl,_⟩:=h;obtain⟨b2,r2,rfl,rfl,_⟩:=h';exact Ug func61 rfl [.k c1,.k c2,.f (by simp[kL];omega),.f (by simp[kL];omega),.k c3,.k c4,.k c5] rfl
theorem Qn6{x y x' y':LV}{a b:Int}(h:Gg x y a)(h':Gg x' y' b)(hl:∀l,y=.row (lm l)->l.length<=1000)(hl':∀l,y'=.row (lm l)->l.length<=1000)(sa:Ff a<=32000)(sb:Ff b<=32000)(hq:¬Qs 128 (Gj a b)):Uj 61 [.agg [x,y,x',y']] [.agg [x,y,x',y']]:=by
 have c1:=xO h h' hl hl' (Qa sa (by decide)) (Qa sb (by decide));have hs:Qs 32000 (Gj a b):=by
  unfold Gj
  split
  ·exact⟨Ph sa,Pg (by decide) (by decide)⟩
  ·exact⟨Ph sa,Pg sb (by decide)⟩
 obtain⟨q,hqe⟩:=nmE (Gj a b);rw[<-hqe]at c1 hq hs;have c2:=IL (q:=q) (hs.mono (by decide));obtain⟨b1,r1,rfl,rfl,_⟩:=h;obtain⟨b2,r2,rfl,rfl,_⟩:=h';by_cases h1:Ff q.num<=128
 ·have h2:¬Ff (q.den:Int)<=128:=λh=>hq ⟨h1,h⟩
  have l1:=ZD.2 h1;have l2:¬(Gd q.den).length<=4:=by simpa using mt ZD.1 h2
  exact Ug func61 rfl [.k c1,.k c2,.f (by simp[kL];omega),.t (by simp[kL];omega)] rfl
 ·have l1:=mt ZD.1 h1;exact Ug func61 rfl [.k c1,.k c2,.t (by simp[kL];omega),.t rfl] rfl
theorem XL(a:Int):∀i,Ff (a^i)<=Ff a*i+1
 | 0=>by rw[Wy];show Ff 1<=_;exact Qa (by decide) (Wd 1 _)
 |
  i+1=>by
  rw[Wx];have h1:=Ga (a^i) a;have h2:=XL a i;rw[W4];omega
theorem Qfd{a:Int}{n:Nat}(ha:Ff a<=1000)(hn:n<=256):Uj 209 [.agg (G9 a),.oi n] [.agg (G9 (a^n))]:=by
 refine Fx func209 rfl ?_;refine Ud [.k (BP (z:=1) (by decide)),.r 8 (v:=.oi n) (by simp;omega),.r 9 (v:=.oi n) (by simp)] rfl ?_;refine lp (S:=Nat) 3 (λL1 i=>(10,.v (.oi i))::L1) (λi=>[.blk 36 (G9 a),.blk 36 [.bool false,.nils],.blk 36 (G9 (a^i))]) (λi=>n-i) (λi=>i<=n) 0 (Qh _) rfl (λ_ _=>rfl) (by rw[Wy];rfl) λi hi=>?_
 by_cases h:i<n
 ·have h1:=XL a i;have h2:Ff a*i<=1000*256:=Zc ha (by omega);have cm:=Pp (U5 (a^i)) (U5 a) (by omega) (by omega);rw[<-Wx]at cm;refine Ue [.t (by simp;omega),.k cm] rfl ?_;exact rd (i+1) (by omega) h rfl
 ·obtain rfl:i=n:=by omega
  exact Uf [.f (by simp)] rfl
def Ru(n d:Int):Um->Um×Int
 | []=>([],1)
 |x::l=>(A8 (Gm (Ru n d l).1 [n,d]) [x*(Ru n d l).2],(Ru n d l).2*d)
theorem bU(n d:Int):∀l,Fg (Ru n d l).1
 | []=>rfl
 |_::_=>Fz _ _
theorem pN{n d:Int}(hn:Ff n<=130)(hd:Ff d<=130):Bd 130 [n,d]:=λz hz=>by
 rcases Qn.1 hz with rfl|hz
 ·exact hn
 ·rw[Qk.1 hz];exact hd
theorem FN{n d:Int}(hn:Ff n<=130)(hd:Ff d<=130){s:Nat}:∀{l:Um},Bd s l->l.length<=8->Bd (s+140*l.length) (Ru n d l).1/\(Ru n d l).1.length<=l.length/\Ff (Ru n d l).2<=130*l.length+1
 | [],_,_=>⟨KH,Ql _,by show Ff 1<=_;exact Qa (by decide) (Wd 1 _)⟩
 |
  x::l,h,hl=>by
  rw[Q5]at hl ⊢;obtain⟨h1,h2,h3⟩:=FN hn hd (λz hz=>h z (Qg _ hz)) (by omega:l.length<=8);have hx:=h x (Qy ..);have b1:=Po (u:=4) h1 (pN hn hd) (by omega);have b2:Bd (s+(130*l.length+1)) [x*(Ru n d l).2]:=λz hz=>by
   rw[Qk.1 hz];have:=Ga x (Ru n d l).2;omega
  refine⟨U6 (YY b1 b2) (by omega),?_,?_⟩
  ·have h4:=Oi (Gm (Ru n d l).1 [n,d]) [x*(Ru n d l).2];have h5:=Tx (Ru n d l).1 [n,d];simp only[Q5,Xl]at h4 h5;show(A8 _ _).length<=_;omega
  ·have:=Ga (Ru n d l).2 d;show Ff ((Ru n d l).2*d)<=_;omega
theorem Qb9{a:Um}{j:Nat}{x:Int}(h:a[j]? = some x):a.drop j=x::a.drop (j+1):=by
 obtain⟨h1,h2⟩:=Qf.1 h;rw[Zp h1,h2]
theorem Qe3{a:Um}{n d:Int}{s:Nat}(ta:Fg a)(ha:Bd s a)(hs:s<=1000)(hl:a.length<=8)(hn:Ff n<=130)(hd:Ff d<=130)(h0:d≠0):Uj 207 [pr a,.agg (G9 n),.agg (G9 d)] [pr (Ru n d a).1,.oi 0]:=by
 have nn:=Mr (U5 n) (by omega);have nd:=Mr (U5 d) (by omega);have cn:=Hu (p:=a) ta (by omega) (U6 ha (by omega));have td:Fg [n,d]:=by simp[Fg,trim,h0]
 refine Fx func207 rfl ?_;refine Ue [.k nd,.k (Do (z:=d)),.f (by simpa using h0),.k cn,.z 8,.k nn,.k nd,.k (BP (z:=1) (by decide)),.r 25 (eI (b:=(a.length:Int)-1) (by simp))] rfl ?_;refine lp (S:=Nat) 3 (λL1 j=>(11,.v (.oi ((j:Int)-1)))::(8,.v (pr (Ru n d (a.drop j)).1))::L1) (λj=>[.blk 36 (G9 n),.blk 36 (G9 d),.blk 36 (G9 (Ru n d (a.drop j)).2)]) (λj=>j) (λj=>j<=a.length) a.length (Ql _) rfl (λ_ _=>rfl) (by rw[Yt];rfl) λj hj=>?_
 cases j with
 |zero=>exact Uf [.f (by simp)] rfl
 |
  succ j =>
  obtain⟨x,hx⟩:=gxE (l:=a) (i:=j) (by omega);obtain⟨b1,b2,b3⟩:=FN hn hd (l:=a.drop (j+1)) (λz hz=>ha z (Qz hz)) (by rw[Q8];omega);have hdl:(a.drop (j+1)).length<=8:=by rw[Q8];omega
  have e:Ru n d (a.drop j)=(A8 (Gm (Ru n d (a.drop (j+1))).1 [n,d]) [x*(Ru n d (a.drop (j+1))).2],(Ru n d (a.drop (j+1))).2*d):=by rw[Qb9 hx];rfl
  have e1:(Ru n d (a.drop j)).1=A8 (Gm (Ru n d (a.drop (j+1))).1 [n,d]) [x*(Ru n d (a.drop (j+1))).2]:=by rw[e]
  have e2:(Ru n d (a.drop j)).2=(Ru n d (a.drop (j+1))).2*d:=by rw[e]
  have tm:=bU n d (a.drop (j+1));obtain⟨P,hP⟩:=nmE ((Ru n d (a.drop (j+1))).1);obtain⟨W,hW⟩:=nmE ((Ru n d (a.drop (j+1))).2);rw[<-hP,<-hW]at e1;rw[<-hW]at e2;rw[<-hP]at b1 b2 tm;rw[<-hW]at b3;have hxs:=ha x (Qc hx);have c1:=KN tm td (by omega) (by show 2<137438953472;decide) b1 (pN hn hd) (by omega);have c2:=Pp (U5 x) (U5 W) (by omega) (by omega);have bm:=Po (u:=4) b1 (pN hn hd) (by omega);have hm:=Ga x W;have hlm:=Tx P [n,d];simp only[Q5,Xl]at hlm;have c3:=BM (p:=Gm P [n,d]) (q:=[x*W]) (by omega) (by show 1<274877906944;decide) (U6 bm (by omega)) (λz hz=>by rw[Qk.1 hz];omega);rw[<-e1]at c3;have c4:=Pp (U5 W) (U5 d) (by omega) (by omega);rw[<-e2]at c4;rw[show((j+1:Nat):Int)-1=(j:Int) by omega,<-hP,<-hW];refine Ue [.t (by simp),.k c1,.x (Pi hx),.k c2,.k c3,.k c4] rfl ?_;exact rd j (by omega) (by omega) rfl
def tH(px py:Um)(q:Rat):Crv:=⟨Fq (Ru (-q).num ((-q).den:Int) (trim px)).1 (((-q).den:Int)^(max ((trim px).length-1) ((trim py).length-1)-((trim px).length-1))),Fq (Ru (-q).num ((-q).den:Int) (trim py)).1 (((-q).den:Int)^(max ((trim px).length-1) ((trim py).length-1)-((trim py).length-1))),((-q).den:Int)^(max ((trim px).length-1) ((trim py).length-1))⟩
theorem Qfh{lx ly:Us}{px py:Um}{q:Rat}{s:Nat}(hx:IsInts lx px)(hy:IsInts ly py)(hq:Qs 128 q)(bx:Bd s px)(by_:Bd s py)(hs:s<=1000)(llx:px.length<=8)(lly:py.length<=8) :
 Cs 4294967294 1073741824 (tH px py q)/\Uj 134 [.one (.row lx),.one (.row ly),.agg (rl q)] [.agg (cl (Crv.norm (tH px py q)))]:=by
 have cx:=Ci hx (by omega) (U6 bx (by omega));have cy:=Ci hy (by omega) (U6 by_ (by omega));have cg:=Qgi (q:=q) (hq.mono (by decide));have hnq:Qs 128 (-q):=by
  refine⟨?_,?_⟩
  ·rw[Rat.neg_num,Hn];exact hq.1
  ·rw[Rat.neg_den];exact hq.2
 have hX:Bd s (trim px):=Tz bx;have hY:Bd s (trim py):=Tz by_;have lX:(trim px).length<=8:=Qa (H9 px) llx;have lY:(trim py).length<=8:=Qa (H9 py) lly;have h0:((-q).den:Int)≠0:=by have:=(-q).den_pos;omega
 have hn1:Ff (-q).num<=130:=Qa hnq.1 (by decide);have hd1:Ff ((-q).den:Int)<=130:=Qa hnq.2 (by decide);have m1:=Qe3 (Rt px) hX hs (by omega) hn1 hd1 h0;have m2:=Qe3 (Rt py) hY hs (by omega) hn1 hd1 h0;obtain⟨p1,p2,_⟩:=FN hn1 hd1 hX (by omega);obtain⟨q1,q2,_⟩:=FN hn1 hd1 hY (by omega);unfold tH;obtain⟨D,hD⟩:=nmE (((-q).den:Int));obtain⟨N,hN⟩:=nmE ((-q).num);have hgl:rl (-q)=[sg N,mg N,sg D,mg D]:=by rw[hN,hD]
 rw[hgl]at cg;rw[<-hD,<-hN]at m1 m2 p1 p2 q1 q2 ⊢;rw[<-hD]at hd1;obtain⟨X,hXe⟩:=nmE (trim px);obtain⟨Y,hYe⟩:=nmE (trim py);rw[<-hXe]at cx hX lX m1 p1 p2 ⊢;rw[<-hYe]at cy hY lY m2 q1 q2 ⊢;obtain⟨a,ha⟩:=nmE (X.length-1);obtain⟨b,hb⟩:=nmE (Y.length-1);rw[<-ha,<-hb];obtain⟨k,hk⟩:=nmE (max a b);rw[<-hk];have w1:=Qfd (a:=D) (n:=k-a) (by omega) (by omega);have w2:=Qfd (a:=D) (n:=k-b) (by omega) (by omega);have w3:=Qfd (a:=D) (n:=k) (by omega) (by omega);have z1:=XL D (k-a);have z2:=XL D (k-b);have z3:=XL D k;have y1:Ff D*(k-a)<=130*8:=Zc hd1 (by omega);have y2:Ff D*(k-b)<=130*8:=Zc hd1 (by omega);have y3:Ff D*k<=130*8:=Zc hd1 (by omega);have s1:=Sr (p:=(Ru N D X).1) (c:=D^(k-a)) (by omega) (U6 p1 (by omega)) (by omega);have s2:=Sr (p:=(Ru N D Y).1) (c:=D^(k-b)) (by omega) (U6 q1 (by omega)) (by omega);have e1:=Ge p1 (c:=D^(k-a)) (Ql _);have e2:=Ge q1 (c:=D^(k-b)) (Ql _);have f1:=Fy (Ru N D X).1 (D^(k-a));have f2:=Fy (Ru N D Y).1 (D^(k-b));have hcs:Cs 4294967294 1073741824 ⟨Fq (Ru N D X).1 (D^(k-a)),Fq (Ru N D Y).1 (D^(k-b)),D^k⟩:=⟨U6 e1 (by omega),U6 e2 (by omega),by show Ff (D^k)<=_;omega,by show(Fq _ _).length<=_;omega,by show(Fq _ _).length<=_;omega⟩;refine⟨hcs,?_⟩;have cn:=MF (Gf _) (Gf _) (U5 _) hcs;have ek:((max a b:Nat):Int)=(k:Int):=by rw[hk]
 exact Ug func134 rfl [.k cx,.k cy,.k cg,.k m1,.k m2,.k (Md X),.r 40 (eI (b:=(a:Int)) (by omega)),.k (Md Y),.r 43 (eI (b:=(b:Int)) (by omega)),.r 46 (eI (b:=(k:Int)) (by omega)),.r 52 (eI (b:=((k-a:Nat):Int)) (by omega)),.k w1,.k s1,.r 60 (eI (b:=((k-b:Nat):Int)) (by omega)),.k w2,.k s2,.k w3,.k cn] rfl rfl (by simp[U4];omega)
theorem Quw{E:Es}{b:Int}(h:EOk b E){lx ly:Us}{px py:Um}{s:Nat}{id:Int}(hx:IsInts lx px)(hy:IsInts ly py)(bx:Bd s px)(by_:Bd s py)(hs:s<=1000)(llx:px.length<=8)(lly:py.length<=8) :
 ∃E',EOk b E'/\E'.m=(E.m.rep ⟨Crv.norm (tH px py E.q),id⟩).1/\kA 60 [.one (.ow 0 0),.oi id,.one (.row lx),.one (.row ly)] E [.one (.int .i64 (E.m.rep ⟨Crv.norm (tH px py E.q),id⟩).2)] E':=by
 obtain⟨hc,cr⟩:=Qfh hx hy h.q bx by_ hs llx lly;have hcn:=hc.norm (by omega);have hnm:=Crv.nml (tH px py E.q);obtain⟨C,hC⟩:=nmE (Crv.norm (tH px py E.q));rw[<-hC]at cr hcn hnm ⊢;obtain⟨E',h1,h2,h3⟩:=DV h (id:=id) (Gf C.x) (Gf C.y) (U5 C.d) hcn;have eC:Crv.norm (Crv.mk C.x C.y C.d)=C:=Crv.norm_of hnm;rw[eC]at h2 h3;refine⟨E',h1,h2,?_⟩;refine Fx func60 rfl ?_;exact Uh [] [0,1,2,3,4,5,6] [.k cr,.c Uv h3] rfl
end Orr
namespace Orr
open Go
structure RawOp where
 k:Int
 n:Int
 d:Int
 p:RawPt
 t:RawInt
 u:RawInt
structure RawOp.Ok(o:RawOp):Prop where
 k:-9223372036854775808<=o.k/\o.k<=9223372036854775807
 n:-9223372036854775808<=o.n/\o.n<=9223372036854775807
 d:-9223372036854775808<=o.d/\o.d<=9223372036854775807
 p:o.p.Ok
 t:o.t.Ok
 u:o.u.Ok
abbrev rwo(o:RawOp):Ur:=[.int .i64 o.k,.int .i64 o.n,.int .i64 o.d]++rwq o.p++Ed o.t++Ed o.u
def qL(l:List RawOp):Us:=l.map rwo
theorem Qc6(l:List RawOp):(qL l).length=l.length:=by simp[qL]
theorem Qc5{l:List RawOp}{i:Nat}{o:RawOp}(h:l[i]? = some o):(qL l)[i]? = some (rwo o):=by rw[qL,Q7,h];rfl
end Orr
namespace Orr
open Go Go.Proofs Tryz Orq
set_option maxRecDepth 10000
def On(N:Int):Int:=if N=2 then 999 else if N=3 then 99 else 20
theorem gI(N:Int):0<=On N/\On N<=999:=by unfold On;split;decide;split;decide;decide
def UD(N:Int)(z:RawPt):Crv:=if 1<N then ⟨Gq (On N) z.x++(if 3<z.x.length then [1]else []),Gq (On N) z.y,H7 3 z.d⟩else ⟨((z.x.take 4).map (·.cutN 1)).map vI,((z.y.take 4).map (·.cutN 1)).map vI,vI (z.d.cutN 1)⟩
theorem Qkc{l:List RawInt}(h:∀a∈l,a.Ok):∀z∈(l.take 4).map (·.cutN 1),z.Ok:=λz hz=>by
 obtain⟨y,hy,rfl⟩:=Za.1 hz;exact(h y (Qo hy)).cutN_ok 1
theorem Qkb{l:List RawInt}(h:∀a∈l,a.Ok):Bd 40 (((l.take 4).map (·.cutN 1)).map vI):=λz hz=>by
 obtain⟨y,hy,rfl⟩:=Za.1 hz;obtain⟨x,hx,rfl⟩:=Za.1 hy;exact Qa (MI ((h x (Qo hx)).cutN_ok 1) (XV x 1)) (by decide)
theorem Qol{N:Int}{z:RawPt}(hz:z.Ok):Cs 40 4 (UD N z):=by
 unfold UD
 split
 ·have h:=Qb3 (gI N) z.x z.y z.d;refine⟨λy hy=>?_,U6 h.y (by decide),Qa h.d (by decide),?_,Qa h.ly (by decide)⟩
  ·rcases Qq.1 hy with hy|hy
   ·exact Qa (h.x y hy) (by decide)
   ·split at hy
    ·rw[Qk.1 hy];decide
    ·cases hy
  ·have:=h.lx;have h2:(Gq (On N) z.x).length<=3:=this;show(_++_:Um).length<=4;rw[Qu]
   split <;> simp <;> omega
 ·exact⟨Qkb hz.x,Qkb hz.y,Qa (MI (hz.d.cutN_ok 1) (XV z.d 1)) (by decide),by show(List.map _ _).length<=4;rw[Q9,Q9,Qp];omega,by show(List.map _ _).length<=4;rw[Q9,Q9,Qp];omega⟩
def pY(o:RawOp):Int:=if Pm o.k 12<10 then Pm o.p.id 6 else o.p.id
abbrev Qup(o:RawOp)(lx ly:Us)(bb:Bool)(l3:Us):Ur:=[.int .i64 o.k,.int .i64 o.n,.int .i64 o.d,.row lx,.row ly,.bool bb,.row l3,.int .i64 (pY o)]++Ed (o.t.cutN 6)++Ed (o.u.cutN 6)
abbrev oJ(ms:Ur)(N:Int):Ur:=[.ow 0 0,.sh ms,.int .i64 N]
theorem yG{most:Int}{l:List RawInt}(h:3<l.length):(Gq most l).length=3:=by unfold Gq;rw[List.length_map,List.length_take];omega
abbrev Qsu:Ur:=[.bool false,.row [[.int .u32 1]]]
theorem nD{p:Um}:IsInts (p.map G9++[Qsu]) (p++[1]):=(Gf p).append ⟨⟨_,_,rfl,false,[1],rfl,rfl,(λx hx=>by rw[Qk.1 hx];decide),rfl⟩,trivial⟩
theorem Qbh{z:RawPt}(hz:z.Ok){most:Int}(hm:0<=most/\most<=999):U7 prog 130 [.agg (rcw z),.oi most] [] [.agg [.orow 0 2 none,.row (Ar (Gq most z.y)),sg (H7 3 z.d),mg (H7 3 z.d)]] [.row false 36 2 (Ar (Gq most z.x))]:=by
 have hxl:=O9 z.x;have hyl:=O9 z.y;obtain⟨D,hD⟩:=nmE (H7 3 z.d);have cd:=US hz.d (most:=3) (by decide);have hx0:∀{i:Nat},z.x.length<=i\/3<=i->Gq most (z.x.take i)=Gq most z.x:=SI most;have hy0:∀{i:Nat},z.y.length<=i\/3<=i->Gq most (z.y.take i)=Gq most z.y:=SI most;rw[<-hD]at cd ⊢;refine Fx func130 rfl ?_;refine Ud [.k cd] rfl ?_;refine oz2 5 0 36 2 rfl rfl ?_;refine Ui (S:=Nat) 4 (λL1 i=>(6,.v (.oi i))::L1) (λi=>[.blk 38 (rcw z),.blk 38 [.nils,.nils,.bool false,.nils],.blk 38 [.orow 3 2 none,.nils,sg D,mg D],.row false 36 2 (Ar (Gq most (z.x.take i)))]) (λi=>3-i) (λi=>i<=3/\i<=z.x.length) 0 ⟨by decide,Qh _⟩ rfl rfl λi ⟨hi,hi2⟩=>?_
 have hll:=yF (most:=most) hi hi2;by_cases hr:i<z.x.length/\i<3
 ·obtain⟨a,ha⟩:=gxE (l:=z.x) (i:=i) hr.1;have hs:∀y∈[G9 (H7 most a)],y.length=2:=λy hy=>by rw[Qk.1 hy];rfl
  refine go tt [.g 17 true Ul,.T,.x (G6 (f:=Ed) ha),.k (US (hz.x a (Qc ha)) hm),.s (sz:=2) hs] rfl (by simp[U4,hll];omega) ?_;exact rd (i+1) (by omega) ⟨hr.2,hr.1⟩ (by rw[TX hr.2 ha];rfl)
 have hg1:decide ((i:Int)<((Ir z.x).length:Int))=true->i<z.x.length:=λh=>by have:=of_decide_eq_true h;omega
 rw[hx0 (by omega)];clear hll;have hfin:∀{j:Nat},j<=3/\j<=z.y.length->¬(j<z.y.length/\j<3)->Ar (Gq most (z.y.take j))=Ar (Gq most z.y):=λh1 h2=>by rw[hy0 (by omega)]
 by_cases hxx:i<z.x.length
 ·refine Ud [.g 17 true Ul,.F] rfl ?_;refine oz2 5 1 36 2 rfl rfl ?_;refine Ui (S:=Nat) 5 (λL1 j=>(7,.v (.oi j))::L1) (λj=>[.blk 38 (rcw z),.blk 38 [.nils,.nils,.bool false,.nils],.blk 38 [.orow 3 2 none,.orow 4 2 none,sg D,mg D],.row false 36 2 (Ar (Gq most z.x)),.row false 36 2 (Ar (Gq most (z.y.take j)))]) (λj=>3-j) (λj=>j<=3/\j<=z.y.length) 0 ⟨by decide,Qh _⟩ rfl rfl λj ⟨hj,hj2⟩=>?_
  have hll:=yF (most:=most) hj hj2;by_cases hr:j<z.y.length/\j<3
  ·obtain⟨a,ha⟩:=gxE (l:=z.y) (i:=j) hr.1;have hs:∀y∈[G9 (H7 most a)],y.length=2:=λy hy=>by rw[Qk.1 hy];rfl
   refine go tt [.g 40 true Ul,.T,.x (G6 (f:=Ed) ha),.k (US (hz.y a (Qc ha)) hm),.s (sz:=2) hs] rfl (by simp[U4,hll];omega) ?_;exact rd (j+1) (by omega) ⟨hr.2,hr.1⟩ (by rw[TX hr.2 ha];rfl)
  rw[hfin ⟨hj,hj2⟩ hr];by_cases hyy:j<z.y.length
  ·exact Uh [4] [3] [.g 40 true Ul,.F] rfl
  ·exact Uh [4] [3] [.g 40 false Uk,.f rfl] rfl
 ·refine Ud [.g 17 false Uk,.f rfl] rfl ?_;refine oz2 5 1 36 2 rfl rfl ?_;refine Ui (S:=Nat) 5 (λL1 j=>(7,.v (.oi j))::L1) (λj=>[.blk 38 (rcw z),.blk 38 [.nils,.nils,.bool false,.nils],.blk 38 [.orow 3 2 none,.orow 4 2 none,sg D,mg D],.row false 36 2 (Ar (Gq most z.x)),.row false 36 2 (Ar (Gq most (z.y.take j)))]) (λj=>3-j) (λj=>j<=3/\j<=z.y.length) 0 ⟨by decide,Qh _⟩ rfl rfl λj ⟨hj,hj2⟩=>?_
  have hll:=yF (most:=most) hj hj2;by_cases hr:j<z.y.length/\j<3
  ·obtain⟨a,ha⟩:=gxE (l:=z.y) (i:=j) hr.1;have hs:∀y∈[G9 (H7 most a)],y.length=2:=λy hy=>by rw[Qk.1 hy];rfl
   refine go tt [.g 40 true Ul,.T,.x (G6 (f:=Ed) ha),.k (US (hz.y a (Qc ha)) hm),.s (sz:=2) hs] rfl (by simp[U4,hll];omega) ?_;exact rd (j+1) (by omega) ⟨hr.2,hr.1⟩ (by rw[TX hr.2 ha];rfl)
  rw[hfin ⟨hj,hj2⟩ hr];by_cases hyy:j<z.y.length
  ·exact Uh [4] [3] [.g 40 true Ul,.F] rfl
  ·exact Uh [4] [3] [.g 40 false Uk,.f rfl] rfl
set_option maxHeartbeats 4000000 in
theorem Qt3{E:Es}{N:Int}{o:RawOp}{ms:Ur}(hN:1<=N/\N<=4)(ho:o.Ok):∃lx ly bb l3,IsInts lx (UD N o.p).x/\IsInts ly (UD N o.p).y/\Gg (.bool bb) (.row l3) (UD N o.p).d /\
 U7 prog 56 [.agg (oJ ms N),.agg (rwo o)] (enB 0 E) [.agg (Qup o lx ly bb l3)] (enB 0 E):=by
 have c4:=Qtq (z:=o.p);have wk:=Cj (v:=o.k) (n:=12) ho.k (by decide);have wi:=Cj (v:=o.p.id) (n:=6) ho.p.id (by decide);have cr:=Qn2 (t:=o.t) (u:=o.u);have cl:=Qbh ho.p (most:=On N) (gI N);obtain⟨i,hi⟩:=nmE (pY o);have hln:(Ir o.p.x).length=o.p.x.length:=O9 _;unfold Qup;rw[<-hi];by_cases h1:1<N
 ·have e1:UD N o.p=⟨Gq (On N) o.p.x++(if 3<o.p.x.length then [1]else []),Gq (On N) o.p.y,H7 3 o.p.d⟩:=if_pos h1;rw[e1];dsimp only;obtain⟨X,hX⟩:=nmE (Gq (On N) o.p.x);obtain⟨Y,hY⟩:=nmE (Gq (On N) o.p.y);obtain⟨D,hD⟩:=nmE (H7 3 o.p.d);have hX3:=yG (most:=On N) (l:=o.p.x);rw[<-hX]at hX3;rw[<-hX,<-hY,<-hD]at cl ⊢;have e3:∃k:Nat,(k:Int)=min N 4/\[[LV.int .i64 0],[.int .i64 0],[.int .i64 999],[.int .i64 99],[.int .i64 20]][k]? = some [.int .i64 (On N)]:=by
   rcases(show N=2\/N=3\/N=4 by omega)with rfl|rfl|rfl
   ·exact⟨2,rfl,rfl⟩
   ·exact⟨3,rfl,rfl⟩
   ·exact⟨4,rfl,rfl⟩
  obtain⟨k,k1,k2⟩:=e3;by_cases h3:3<o.p.x.length
  ·rw[if_pos h3];have hX3:=hX3 h3;have hml:(X.map G9).length=3:=by rw[Q9];exact hX3
   refine⟨_,_,_,_,nD,Gf Y,U5 D,?_⟩;refine Fx func56 rfl ?_;refine go tt [.k c4,.t (by simpa using h1),.r 19 (eI k1.symm),.x k2,.c [11] cl,.t (by simp;omega)] rfl (by simp only[U4,qT];omega) ?_;refine Ui (S:=Unit) 12 (λL1 _=>L1) (λ_=>enB 0 E++[.blk 27 (oJ ms N),.blk 44 (rwo o),.blk 44 [.int .i64 0,.int .i64 0,.int .i64 0,.nils,.nils,.bool false,.nils,.int .i64 0,.bool false,.nils,.bool false,.nils],.blk 38 [.orow 11 2 none,pl Y,sg D,mg D],.row false 36 2 (X.map G9++[Qsu])]) (λ_=>0) (λ_=>True) () trivial rfl rfl λ_ _=>?_
   by_cases hk:Pm o.k 12<10
   ·rw[hi,show pY o=Pm o.p.id 6 from if_pos hk];exact Uh [11] [0,1,2,3,4,5,6] [.f (by simp;omega),.k wk,.t (by simpa using hk),.k wi,.k cr] rfl
   ·rw[hi,show pY o=o.p.id from if_neg hk];exact Uh [11] [0,1,2,3,4,5,6] [.f (by simp;omega),.k wk,.f (by simpa using hk),.k cr] rfl
  ·rw[if_neg h3,Zw];refine⟨_,_,_,_,Gf X,Gf Y,U5 D,?_⟩;refine Fx func56 rfl ?_;by_cases hk:Pm o.k 12<10
   ·rw[hi,show pY o=Pm o.p.id 6 from if_pos hk];exact Uh [11] [0,1,2,3,4,5,6] [.k c4,.t (by simpa using h1),.r 19 (eI k1.symm),.x k2,.c [11] cl,.f (by simp;omega),.k wk,.t (by simpa using hk),.k wi,.k cr] rfl
   ·rw[hi,show pY o=o.p.id from if_neg hk];exact Uh [11] [0,1,2,3,4,5,6] [.k c4,.t (by simpa using h1),.r 19 (eI k1.symm),.x k2,.c [11] cl,.f (by simp;omega),.k wk,.f (by simpa using hk),.k cr] rfl
 ·have e1:UD N o.p=⟨((o.p.x.take 4).map (·.cutN 1)).map vI,((o.p.y.take 4).map (·.cutN 1)).map vI,vI (o.p.d.cutN 1)⟩:=if_neg h1;rw[e1];refine⟨_,_,_,_,WX (Qkc ho.p.x),WX (Qkc ho.p.y),YC (ho.p.d.cutN_ok 1),?_⟩;refine Fx func56 rfl ?_;by_cases hk:Pm o.k 12<10
  ·rw[hi,show pY o=Pm o.p.id 6 from if_pos hk];exact Uh [] [0,1,2,3,4,5,6] [.k c4,.f (by simpa using h1),.k wk,.t (by simpa using hk),.k wi,.k cr] rfl
  ·rw[hi,show pY o=o.p.id from if_neg hk];exact Uh [] [0,1,2,3,4,5,6] [.k c4,.f (by simpa using h1),.k wk,.f (by simpa using hk),.k cr] rfl
def Iz(o:RawOp)(q:Rat):Rat:=q+Gj (Pm o.n 5-1) (1+Pm o.d 4)
theorem Ez{v n:Int}(h:0<n):0<=Pm v n/\Pm v n<n:=by
 unfold Pm;rw[if_neg (by omega)];exact⟨Ye _ (by omega),Js _ h⟩
theorem tV{a b:Int}(ha:-10<=a/\a<=10)(hb:-10<=b/\b<=10):Qs 4 (Gj a b):=by
 have sz4:∀z:Int,-10<=z/\z<=10->Ff z<=4:=λz hz=>by
  have h16:(2:Nat)^4=16:=by decide
  exact Sj.2 (by omega)
 unfold Gj
 split
 ·exact⟨Ph (sz4 a ha),Pg (by decide) (by decide)⟩
 ·exact⟨Ph (sz4 a ha),Pg (sz4 b hb) (by decide)⟩
theorem tY{o:RawOp}{q:Rat}(h:Qs 128 q):Qs 257 (Iz o q):=by
 have h1:=Ez (v:=o.n) (n:=5) (by decide);have h2:=Ez (v:=o.d) (n:=4) (by decide);have:=Qj9 h ((tV (a:=Pm o.n 5-1) (b:=1+Pm o.d 4) (by omega) (by omega)).mono (by decide));exact this
abbrev enP(E:Es)(ms:Ur)(N:Int)(o:RawOp)(lx ly:Us)(bb:Bool)(l3:Us):Ut:=[.blk 80 (pJ 0 E.q),tB E.np E.nd E.M,bS E.s E.M E.q,bT E.t E.M E.q,bH E.h E.M E.q,bP E.p E.M E.q,bD E.d E.M E.q,.blk 27 (oJ ms N),.blk 44 (Qup o lx ly bb l3)]
set_option maxHeartbeats 4000000 in
theorem Qn3{E:Es}{N:Int}{o:RawOp}{ms:Ur}{lx ly:Us}{bb:Bool}{l3:Us}(ho:o.Ok)(hq:Qs 128 E.q):U7 prog 57 [.one (.ow 7 0),.one (.ow 8 0)] (enP E ms N o lx ly bb l3) [.agg (rl (Iz o E.q))] (enP E ms N o lx ly bb l3):=by
 have wn:=Cj (v:=o.n) (n:=5) ho.n (by decide);have wd:=Cj (v:=o.d) (n:=4) ho.d (by decide);have b1:=Ez (v:=o.n) (n:=5) (by decide);have b2:=Ez (v:=o.d) (n:=4) (by decide);have co:=Qx5 (n:=Pm o.n 5-1) (d:=1+Pm o.d 4) (by omega) (by omega);have cf:=wR (q:=E.q) (hq.mono (by decide));have ca:=xC (a:=E.q) (b:=Gj (Pm o.n 5-1) (1+Pm o.d 4)) (hq.mono (by decide)) ((tV (by omega) (by omega)).mono (by decide));have ct:=IL (q:=Iz o E.q) ((tY hq).mono (by decide));have cc:=xA (np:=E.np) (nd:=E.nd) (M:=E.M) (s:=E.s) (t:=E.t) (h:=E.h) (p:=E.p) (d:=E.d) hq;refine Fx func57 rfl ?_;exact Uh [] [0,1,2,3,4,5,6,7,8] [.lo,.c Uv cc,.k cf,.k wn,.k wd,.k co,.k ca,.k ct] rfl (by simp[U4];omega)
def PM(o:RawOp):Rat:=Gj (vI (o.t.cutN 6)) (vI (o.u.cutN 6))
open Classical in
noncomputable def nearT(o:RawOp):Rat:=if Qs 128 (PM o)then PZ (PM o)else PM o
noncomputable def aloneF(N:Int)(o:RawOp)(A:Em):Em×Int :=
 if Pm o.k 12<3 then A.ins ⟨Crv.norm (UD N o.p),pY o⟩
 else if Pm o.k 12=3 then A.del (pY o)
 else if Pm o.k 12=4 then A.rep ⟨Crv.norm (UD N o.p),pY o⟩
 else if Pm o.k 12=5 then A.rep ⟨Crv.norm (tH (UD N o.p).x (UD N o.p).y A.q),pY o⟩
 else if Pm o.k 12<9 then A.adv (Iz o A.q)
 else if Pm o.k 12=9 then(A,(A.adv (Iz o A.q)).2)
 else if Pm o.k 12=10 then A.adv (nearT o)
 else(A,(A.adv (nearT o)).2)
theorem Qn5{o:RawOp}(ho:o.Ok):∃x0 x1 x2 x3 n m,Gg x0 x1 n/\Gg x2 x3 m/\Ff n<=4294967295/\Ff m<=4294967295/\Gj n m=nearT o/\Uj 61 [.agg (Ed (o.t.cutN 6)++Ed (o.u.cutN 6))] [.agg [x0,x1,x2,x3]]:=by
 have i1:=YC (ho.t.cutN_ok 6);have i2:=YC (ho.u.cutN_ok 6);have s1:=MI (ho.t.cutN_ok 6) (XV o.t 6);have s2:=MI (ho.u.cutN_ok 6) (XV o.u 6);have ln:∀(z:RawInt) l,LV.row (lm (z.cutN 6).l)=.row (lm l)->l.length<=1000:=λz l h=>by
  have:=Qit h;have:=XV z 6;omega
 by_cases hq:Qs 128 (PM o)
 ·have e:nearT o=PZ (PM o):=if_pos hq;have hn:=Qab hq;rw[e];exact⟨_,_,_,_,_,_,U5 (PZ (PM o)).num,U5 ((PZ (PM o)).den:Int),Qa hn.1 (by decide),Qa hn.2 (by decide),Se _,Qn7 i1 i2 (ln o.t) (ln o.u) (by omega) (by omega) hq⟩
 ·have e:nearT o=PM o:=if_neg hq;rw[e];exact⟨_,_,_,_,_,_,i1,i2,by omega,by omega,rfl,Qn6 i1 i2 (ln o.t) (ln o.u) (by omega) (by omega) hq⟩
set_option maxHeartbeats 8000000 in
theorem Qow{E:Es}{b N:Int}{o:RawOp}{ms:Ur}(h:EOk b E)(hb:b<=900000000000000000)(hN:1<=N/\N<=4)(ho:o.Ok) :
 ∃E',EOk (b+67000000) E'/\E'.m=(aloneF N o E.m).1/\kA 12 [.agg (oJ ms N),.agg (rwo o)] E [.one (.int .i64 (aloneF N o E.m).2)] E':=by
 obtain⟨lx,ly,bb,l3,i1,i2,i3,cp⟩:=Qt3 (E:=E) (ms:=ms) hN ho;have wk:=Cj (v:=o.k) (n:=12) ho.k (by decide);have hW:=Ez (v:=o.k) (n:=12) (by decide);have hcs:=Qol (N:=N) ho.p;have hk:Cs 4294967294 1073741824 (Crv.mk (UD N o.p).x (UD N o.p).y (UD N o.p).d):=hcs.mono (by decide) (by decide);have cla:=Qn3 (E:=E) (N:=N) (ms:=ms) (lx:=lx) (ly:=ly) (bb:=bb) (l3:=l3) ho h.q;have hla:=tY (o:=o) h.q;obtain⟨x0,x1,x2,x3,n,m,n1,n2,n3,n4,n5,cnr⟩:=Qn5 ho;have eq_:E.m.q=E.q:=rfl;unfold aloneF;rw[eq_];obtain⟨W,hWe⟩:=nmE (Pm o.k 12);rw[<-hWe]at wk hW ⊢;by_cases w0:W<3
 ·rw[if_pos w0];obtain⟨E',g1,g2,g3⟩:=UO h (id:=pY o) i1 i2 i3 hk;refine⟨E',g1.mono (by omega),g2,?_⟩;refine Fx func12 rfl ?_;exact Uh [] [0,1,2,3,4,5,6] [.c Uv cp,.k wk,.T,.c Uv g3] rfl
 rw[if_neg w0];by_cases w1:W=3
 ·rw[if_pos w1];obtain⟨E',g1,g2,g3⟩:=Qhi h (id:=pY o);refine⟨E',g1.mono (by omega),g2,?_⟩;refine Fx func12 rfl ?_;exact Uh [] [0,1,2,3,4,5,6] [.c Uv cp,.k wk,.F,.T,.c Uv g3] rfl
 rw[if_neg w1];by_cases w2:W=4
 ·rw[if_pos w2];obtain⟨E',g1,g2,g3⟩:=DV h (id:=pY o) i1 i2 i3 hk;refine⟨E',g1.mono (by omega),g2,?_⟩;refine Fx func12 rfl ?_;exact Uh [] [0,1,2,3,4,5,6] [.c Uv cp,.k wk,.F,.F,.T,.c Uv g3] rfl
 rw[if_neg w2];by_cases w3:W=5
 ·rw[if_pos w3];obtain⟨E',g1,g2,g3⟩:=Quw h (id:=pY o) i1 i2 hcs.x hcs.y (by decide) (Qa hcs.lx (by decide)) (Qa hcs.ly (by decide));refine⟨E',g1.mono (by omega),g2,?_⟩;refine Fx func12 rfl ?_;exact Uh [] [0,1,2,3,4,5,6] [.c Uv cp,.k wk,.F,.F,.F,.T,.c Uv g3] rfl
 rw[if_neg w3];by_cases w4:W<9
 ·rw[if_pos w4];obtain⟨E',g1,g2,_,g3⟩:=YM h hb (U5 (Iz o E.q).num) (U5 ((Iz o E.q).den:Int)) (Qa hla.1 (by decide)) (Qa hla.2 (by decide)) (Se _);refine⟨E',g1,g2,?_⟩;refine Fx func12 rfl ?_;exact Uh [] [0,1,2,3,4,5,6] [.c Uv cp,.k wk,.F,.F,.F,.F,.T,.lo,.c [0,1,2,3,4,5,6,7,8] cla,.c Uv g3] rfl
 rw[if_neg w4];by_cases w5:W=9
 ·rw[if_pos w5];have g3:=jN h hb (U5 (Iz o E.q).num) (U5 ((Iz o E.q).den:Int)) (Qa hla.1 (by decide)) (Qa hla.2 (by decide)) (Se _);refine⟨E,h.mono (by omega),rfl,?_⟩;obtain⟨a,ha,hal⟩:∃a,a=E.m.ans (Iz o E.q)/\∃a0 a1 a2 a3 a4,a=[LV.row a0,.row a1,.row a2,.row a3,.row a4]:=⟨_,rfl,by unfold Em.ans;split <;> exact⟨_,_,_,_,_,rfl⟩⟩;rw[<-ha]at g3;obtain⟨a0,a1,a2,a3,a4,rfl⟩:=hal;refine Fx func12 rfl ?_;exact Uh [] [0,1,2,3,4,5,6] [.c Uv cp,.k wk,.F,.F,.F,.F,.F,.T,.lo,.c [0,1,2,3,4,5,6,7,8] cla,.c Uv g3] rfl
 rw[if_neg w5];by_cases w6:W=10
 ·rw[if_pos w6];obtain⟨E',g1,g2,_,g3⟩:=YM h hb n1 n2 n3 n4 n5;refine⟨E',g1,g2,?_⟩;obtain⟨b1,r1,rfl,rfl,_⟩:=n1;obtain⟨b2,r2,rfl,rfl,_⟩:=n2;refine Fx func12 rfl ?_;exact Uh [] [0,1,2,3,4,5,6] [.c Uv cp,.k wk,.F,.F,.F,.F,.F,.F,.T,.k cnr,.c Uv g3] rfl
 ·rw[if_neg w6];have g3:=jN h hb n1 n2 n3 n4 n5;refine⟨E,h.mono (by omega),rfl,?_⟩;obtain⟨b1,r1,rfl,rfl,_⟩:=n1;obtain⟨b2,r2,rfl,rfl,_⟩:=n2;obtain⟨a,ha,hal⟩:∃a,a=E.m.ans (nearT o)/\∃a0 a1 a2 a3 a4,a=[LV.row a0,.row a1,.row a2,.row a3,.row a4]:=⟨_,rfl,by unfold Em.ans;split <;> exact⟨_,_,_,_,_,rfl⟩⟩;rw[<-ha]at g3;obtain⟨a0,a1,a2,a3,a4,rfl⟩:=hal;refine Fx func12 rfl ?_;exact Uh [] [0,1,2,3,4,5,6] [.c Uv cp,.k wk,.F,.F,.F,.F,.F,.F,.F,.k cnr,.c Uv g3] rfl
end Orr
namespace Orr
open Go Go.Proofs Tryz Orq
set_option maxRecDepth 10000
theorem wK{b:Int}(h:0<=b):0<=(0:Int)/\(0:Int)<=b:=⟨Yd _,h⟩
def IY(np nd:Int):Es:=⟨np,nd,[],0,Qxw [] (tq 0),Qxx [] (tq 0),Qxu [] (tq 0),Qxv [] (tq 0),Qxt [] (tq 0)⟩
theorem YA:MOk []:=⟨λp h=>(by cases h),by decide,List.Pairwise.nil⟩
theorem Qja{np nd:Int}(h1:1<=np/\np<=6)(h2:0<=nd/\nd<=2):EOk 0 (IY np nd):=by
 have hq:Qs 1640000 (0:Rat):=⟨by decide,by decide⟩;exact⟨h1,h2,⟨YA,by show((0:Nat):Int)<=np;omega,λp h=>(by cases h),λp h=>(by cases h)⟩,(show Qs 128 (0:Rat) from⟨by decide,by decide⟩),At.begin okS YA hq,At.begin okT YA hq,At.begin okH YA hq,At.begin okP YA hq,At.begin okD YA hq,wK (Yd _),wK (Yd _),wK (Yd _),wK (Yd _),wK (Yd _)⟩
theorem Qe7{np nd:Int}(h1:1<=np/\np<=6)(h2:0<=nd/\nd<=2):U7 prog 54 [.oi np,.oi nd] [] [.one (.ow 0 0),.oi 0] (enB 0 (IY np nd)):=Qts h1 h2
theorem Qix{E:Es}{A:Em}(h:E.m=A):E.np=A.np/\E.nd=A.nd/\E.M=A.M/\E.q=A.q/\E.s.ev=A.s/\E.t.ev=A.t/\E.h.ev=A.h/\E.p.ev=A.p/\E.d.ev=A.d:=by subst h;exact⟨rfl,rfl,rfl,rfl,rfl,rfl,rfl,rfl,rfl⟩
theorem Qec{A:Em}{t:Rat}(h1:Qs 128 t)(h2:¬t<A.q):A.adv t=(({ A with q:=t,s:=A.s+(cnt (VI A.M) A.q t:Nat),t:=A.t+(cnt (AE A.M) A.q t:Nat),h:=A.h+(cnt (BX A.M) A.q t:Nat),p:=A.p+(cnt (pQ A.M) A.q t:Nat),d:=A.d+(cnt (xP A.M) A.q t:Nat) }:Em),0):=by
 unfold Em.adv;rw[if_pos h1];exact if_neg h2
theorem Qcs{z:Int}(h:-127<=z/\z<=127):Ff z<=7:=by
 have:(2:Nat)^7=128:=by decide
 exact Sj.2 (by omega)
theorem Qs.n32{s:Nat}{t:Rat}(h:Qs s t)(hs:s<=4294967295):Ff t.num<=4294967295/\Ff (t.den:Int)<=4294967295:=⟨Qa h.1 hs,Qa h.2 hs⟩
theorem Qhg{E:Es}{b:Int}{s:Nat}(h:EOk b E)(hb:b<=900000000000000000){t:Rat}(ht:Qs s t)(hs:s<=4294967295):∃E',EOk (b+67000000) E'/\E'.m=(E.m.adv t).1/\((E.m.adv t).2≠0->E'=E)/\kA 17 [.one (.ow 0 0),.agg (rl t)] E [.one (.int .i64 (E.m.adv t).2)] E' :=
 YM h hb (U5 t.num) (U5 (t.den:Int)) (ht.n32 hs).1 (ht.n32 hs).2 (Se t)
theorem Qwe{A:Em}{p:Pt}(h:Px A.nd A.M p=0):A.rep p=({ A with M:=A.M.set (Rk A.M p.id) p },0):=by unfold Em.rep;rw[h,if_pos rfl]
theorem Qpj{c:Crv}{id:Int}(h:0<=id/\id<=1048576)(hs:A3 c=true):Ol ⟨c,id⟩=true:=by
 simp[Ol,h.1,h.2,hs]
theorem Qk7{c:Crv}(h:Sc c):A3 c=true:=WC.2 ⟨h.c.x,h.c.y,h.c.d⟩
section
variable{np nd:Int}{M:List Pt}{p:Pt}
theorem Qlm(h:Ol p=true)(h2:has M p.id=true)(h3:RY p.c<=nd):Px nd M p=0:=by
 unfold Px;rw[if_neg (by rw[h];decide),if_neg (by rw[h2];decide),if_neg (by omega)]
end
end Orr
namespace Orr
theorem bz1:Bd 9000000 [1]:=λz hz=>by obtain rfl:=Qk.1 hz;decide
theorem bz2:Bd 9000000 [0,1]:=λz hz=>by
 simp only[Qn,X2,or_false]at hz;rcases hz with rfl|rfl <;> decide
theorem Q0p:∀z∈([0,1]:Um),Ff z≤1:=by
 intro z hz;simp only[Qn,X2,or_false]at hz;rcases hz with rfl|rfl <;> decide
theorem rz:RRun [1] 1 [0,1] []:=by
 refine .step (by decide) (by decide) bz2 bz1 ?_;rw[show tL [0,1] [1]=[] by decide];exact .stop (by decide)
theorem dz2:DOk [0,1] [1] [0,1]:=by
 refine⟨by decide,by decide,by decide,bz1,[0,1],[],1,bz2,by decide,?_,by decide⟩;refine .step (by decide) (by decide) bz2 (by decide) (by decide) (by decide) ?_;exact .stop (by decide)
theorem dz1:DOk [1] [1] [1]:=by
 refine⟨by decide,by decide,by decide,bz1,[1],[],1,bz1,by decide,?_,by decide⟩;refine .step (by decide) (by decide) bz1 (by decide) (by decide) (by decide) ?_;exact .stop (by decide)
theorem Qwc:Qd9 0 [[-(0:Rat).num,((0:Rat).den:Int)],[1]]:=by
 show Qd9 0 [[0,1],[1]];refine⟨[0,1],?_⟩;show ChRun [0,1] [0,1] [[0,1],[1]];have e1:Tp [0,1]=[0,1]:=by decide
 have e2:Gx [0,1]=[1]:=by decide
 have e3:Tp [1]=[1]:=by decide
 have e4:Bq [1]=[1]:=by decide
 refine⟨⟨1,λ_=>[0,1],⟨⟨1,[[0,1],[1]],?_,rfl,λk hk=>?_⟩,by decide⟩,λi hi=>?_,by decide⟩,⟨1,?_⟩,λz hz=>Qa (Q0p z hz) (by decide),by decide,by decide⟩
 ·rw[e1];refine .step (by decide) (by decide) (by show trim _=_;decide) bz2 (by show Bd _ (Gx [0,1]);rw[e2];exact bz1) (m:=1) (g:=[1]) ?_ (by decide) (.stop (by decide));show GRun 1 (Tp [0,1]) (Tp (Gx [0,1])) [1];rw[e1,e2,e3];refine .step (by decide) (by decide) bz1 rz (by decide) (λz hz=>by cases hz) rfl ?_;rw[show Tp []=[] by decide];exact .stop _
 ·obtain rfl:k=0:=by omega
  exact⟨[0,1],[1],[0,1],dz2,dz1,by rw[e1,e3];exact dz2,e1.symm⟩
 ·obtain rfl:i=0:=by omega
  exact⟨bz1,by decide,bz2,by decide⟩
 ·rw[e2,e4];refine .step (by decide) (by decide) bz1 (m:=1) (r:=[]) rz rfl (λz hz=>by cases hz) (by decide) (by decide) (by decide) ?_;exact .stop (by decide)
end Orr
namespace Orr
open Go Go.Proofs Tryz Orq
set_option maxRecDepth 10000
theorem Qhl{q:Rat}{c:Un}:Uj 324 [.one (.row []),.agg (aq q c)] [.one (.row [])]:=by
 refine Fx func324 rfl ?_;refine Ud [.z 5] rfl ?_;refine Ui (S:=Unit) 1 (λL1 _=>(10,.v (.oi 0))::(5,.v (.one (.row [])))::L1) (λ_=>[.blk 90 (aq q c)]) (λ_=>0) (λ_=>True) () trivial rfl rfl λ_ _=>?_
 exact Uf [.f rfl] rfl
theorem nJ:Uj 326 [.one (.row [])] [.one (.row [])]:=by
 refine Fx func326 rfl ?_;refine Ud [.z 3] rfl ?_;refine Ui (S:=Unit) 0 (λL1 _=>(8,.v (.oi 0))::(3,.v (.one (.row [])))::L1) (λ_=>[]) (λ_=>0) (λ_=>True) () trivial rfl rfl λ_ _=>?_
 exact Uf [.f rfl] rfl
theorem Qhh:Uj 328 [.one (.row [])] [.one (.row [])]:=by
 refine Fx func328 rfl ?_;refine Ud [.z 3] rfl ?_;refine Ui (S:=Unit) 0 (λL1 _=>(8,.v (.oi 0))::(3,.v (.one (.row [])))::L1) (λ_=>[]) (λ_=>0) (λ_=>True) () trivial rfl rfl λ_ _=>?_
 exact Uf [.f rfl] rfl
theorem Qhm:Uj 331 [.one (.row [])] [.one (.row [])]:=by
 refine Fx func331 rfl ?_;refine Ud [.z 3,.k Qhh] rfl ?_;refine Ui (S:=Unit) 0 (λL1 _=>(11,.v (.oi 0))::(3,.v (.one (.row [])))::L1) (λ_=>[]) (λ_=>0) (λ_=>True) () trivial rfl rfl λ_ _=>?_
 exact Uf [.f rfl] rfl
section
variable{q:Rat}{c:Un}
theorem Qhj:Uj 294 [.one (.row []),.agg (aq q c)] [.one (.row [])]:=by
 refine Fx func294 rfl ?_;refine Ud [.k Qhl,.z 6] rfl ?_;refine Ui (S:=Unit) 1 (λL1 _=>(7,.v (.oi 0))::(6,.v (.one (.row [])))::L1) (λ_=>[.blk 90 (aq q c)]) (λ_=>0) (λ_=>True) () trivial rfl rfl λ_ _=>?_
 exact Uf [.f rfl,.k nJ] rfl rfl (by simp[U4])
theorem Qu2:Uj 295 [.one (.row []),.agg (aq q c)] [.one (.row [])]:=Ug func295 rfl [.t rfl,.z 4] rfl
theorem Qcd:Uj 329 [.one (.row []),.agg (aq q c)] [.one (.row [])]:=Ug func329 rfl [.k Qhm,.t rfl] rfl
theorem Qux:Uj 296 [.one (.row []),.agg (aq q c)] [.one (.row [])]:=by
 refine Fx func296 rfl ?_;refine Ud [.k Qhj,.k Qcd] rfl ?_;refine Ui (S:=Unit) 1 (λL1 _=>(7,.v (.oi 0))::(5,.v (.one (.row [])))::L1) (λ_=>[.blk 90 (aq q c)]) (λ_=>0) (λ_=>True) () trivial rfl rfl λ_ _=>?_
 exact Uf [.f rfl,.f rfl,.k nJ] rfl
abbrev zPq:Ur:=[.row [],.row [],.row [],.row [],.bool false,.row [],.int .i64 0]
theorem Qcc:Uj 330 [.one (.row []),.agg (aq q c)] [.agg zPq,.agg zPq,.one (.bool false)]:=Ug func330 rfl [.k Qhh,.t rfl] rfl
theorem Quz:Uj 297 [.one (.row []),.agg (aq q c)] [.one (.row [])]:=Ug func297 rfl [.k Qcc,.t rfl,.z 4] rfl
theorem Quy:Uj 298 [.one (.row []),.agg (aq q c)] [.one (.row [])]:=by
 refine Fx func298 rfl ?_;refine Ud [.k Qhm,.z 6] rfl ?_;refine Ui (S:=Unit) 1 (λL1 _=>(15,.v (.oi 0))::(6,.v (.one (.row [])))::L1) (λ_=>[.blk 90 (aq q c)]) (λ_=>0) (λ_=>True) () trivial rfl rfl λ_ _=>?_
 exact Uf [.f rfl,.k nJ] rfl
theorem UI(k:Nat)(hk:k<5):Uj 201 [.oi k,.one (.row []),.agg (aq q c)] [.one (.row [])]:=by
 refine(?_:Uj 263 [.oi k,.one (.row []),.agg (aq q c)] [.one (.row [])]->_) ?_
 ·intro h;exact Ug func201 rfl [.k h] rfl
 ·rcases(show k=0\/k=1\/k=2\/k=3\/k=4 by omega)with rfl|rfl|rfl|rfl|rfl
  ·exact Ug func263 rfl [.t rfl,.k Qhj] rfl
  ·exact Ug func263 rfl [.f rfl,.t rfl,.k Qu2] rfl
  ·exact Ug func263 rfl [.f rfl,.f rfl,.t rfl,.k Qux] rfl
  ·exact Ug func263 rfl [.f rfl,.f rfl,.f rfl,.t rfl,.k Quz] rfl
  ·exact Ug func263 rfl [.f rfl,.f rfl,.f rfl,.f rfl,.k Quy] rfl
end
theorem DY:Uj 200 [.one (.row []),.one (.row [])] [.one (.row [])]:=by
 refine Fx func200 rfl ?_;refine Ud [] rfl ?_;refine Ui (S:=Unit) 0 (λL1 _=>(9,.v (.oi 0))::L1) (λ_=>[]) (λ_=>0) (λ_=>True) () trivial rfl rfl λ_ _=>?_
 exact Uf [.f rfl] rfl
end Orr
namespace Orr
open Go Go.Proofs Tryz Orq
set_option maxRecDepth 10000
abbrev cC:Un:=[[-(0:Rat).num,((0:Rat).den:Int)],[1]]
abbrev Qyf:Ur:=[.nils,.nils,.nils,.bool false,.nils,.bool false,.nils,.bool false,.nils,.bool false,.nils,.int .i64 0,.nils]
abbrev Qyg:Ur:=aq 0 cC++[.row [],.int .i64 0,.nils]
abbrev Qks(k i:Nat):Ur:=match Nat.blt k i with
 |true=>Qyg
 |false=>Qyf
abbrev mdl(np nd:Int)(i:Nat):Ur:=[.int .i64 np,.int .i64 nd,.nils]++fr 0++Qks 0 i++Qks 1 i++Qks 2 i++Qks 3 i++Qks 4 i
set_option maxHeartbeats 4000000 in
theorem Qe2{np nd:Int}:U7 prog 128 [.one (.ow 0 0)] [.blk 207 (mdl np nd 0)] [] [.blk 207 (mdl np nd 5)]:=by
 have hq:Qs 2000000 (0:Rat):=⟨by decide,by decide⟩;have cr:=wO hq Qwc;refine Fx func128 rfl ?_;refine Ud [.k cr] rfl ?_;refine Ui (S:=Nat) 2 (λL1 i=>(9,.v (.oi i))::L1) (λi=>[.blk 207 (mdl np nd i),.blk 90 (aq 0 cC)]) (λi=>5-i) (λi=>i<=5) 0 (by decide) rfl rfl λi hi=>?_
 rcases(show i=0\/i=1\/i=2\/i=3\/i=4\/i=5 by omega)with rfl|rfl|rfl|rfl|rfl|rfl
 ·exact go tt [.t rfl,.i 0,.i 0,.i 0,.k (UI 0 (by decide)),.k DY,.i 0] rfl (by simp[U4]) (rd 1 (by omega) (by omega) rfl)
 ·exact go tt [.t rfl,.i 1,.i 1,.i 1,.k (UI 1 (by decide)),.k DY,.i 1] rfl (by simp[U4]) (rd 2 (by omega) (by omega) rfl)
 ·exact go tt [.t rfl,.i 2,.i 2,.i 2,.k (UI 2 (by decide)),.k DY,.i 2] rfl (by simp[U4]) (rd 3 (by omega) (by omega) rfl)
 ·exact go tt [.t rfl,.i 3,.i 3,.i 3,.k (UI 3 (by decide)),.k DY,.i 3] rfl (by simp[U4]) (rd 4 (by omega) (by omega) rfl)
 ·exact go tt [.t rfl,.i 4,.i 4,.i 4,.k (UI 4 (by decide)),.k DY,.i 4] rfl (by simp[U4]) (rd 5 (by omega) (by omega) rfl)
 ·exact Uh [] [0] [.f rfl] rfl
theorem Qty{np nd:Int}(h1:1<=np/\np<=6)(h2:0<=nd/\nd<=2):U7 prog 55 [.oi np,.oi nd] [] [.one (.ow 0 0),.oi 0] [.blk 207 (mdl np nd 5)]:=by
 have co:=XZ (n:=0) (by decide);rw[show((0:Int):Rat)=0 from rfl]at co;refine Fx func55 rfl ?_;exact Uh [] [0] [.F,.f (by simp;omega),.f (by simp;omega),.f (by simp;omega),.k co,.c [0] Qe2] rfl
theorem Qm1{a b:Int}(ha:-9223372036854775808<=a/\a<=9223372036854775807)(hb:-9223372036854775808<=b/\b<=9223372036854775807):∃(N nd:Int) (ms:Ur),(1<=N/\N<=4)/\(0<=nd/\nd<=2)/\EOk 0 (IY N nd)/\N=1+Pm a 4/\nd=Pm b 3 /\
 U7 prog 11 [.oi a,.oi b] [] [.agg [.ow 0 0,.sh ms,.int .i64 N],.one (.bool true)] (enB 0 (IY N nd)):=by
 have w1:=Ez (v:=a) (n:=4) (by decide);have w2:=Ez (v:=b) (n:=3) (by decide);have c1:=Cj (v:=a) (n:=4) ha (by decide);have c2:=Cj (v:=b) (n:=3) hb (by decide);obtain⟨N,hN⟩:=nmE (1+Pm a 4);obtain⟨nd,hnd⟩:=nmE (Pm b 3);have hN4:1<=N/\N<=4:=by omega
 have hd2:0<=nd/\nd<=2:=by omega
 have cn:=Qe7 (np:=N) (nd:=nd) (by omega) hd2;have cm:=Qty (np:=N) (nd:=nd) (by omega) hd2;refine⟨N,nd,mdl N nd 5,hN4,hd2,Qja (by omega) hd2,hN,hnd,?_⟩;refine Fx func11 rfl ?_;exact Uh [8] [1,2,3,4,5,6,7] [.k c1,.r 12 (eI hN.symm),.k c2,.r 14 (eI hnd.symm),.c [1,2,3,4,5,6,7] cn,.c [8] cm,.t rfl,.t rfl] rfl (by simp[U4];omega)
def run2:Crv:=⟨[0,1],[1],1⟩
theorem rZ:ZI run2:=⟨rfl,rfl,by decide,by decide⟩
theorem cs_run2:Cs 1 2 run2:=⟨λz hz=>by simp only[run2,Qn,X2,or_false]at hz;rcases hz with rfl|rfl <;> decide,λz hz=>by simp only[run2,Qn,X2,or_false]at hz;subst hz;decide,by decide,by decide,by decide⟩
abbrev wtP:List Pt:=[⟨Te 0 0,5⟩,⟨Te 4 0,6⟩,⟨run2,7⟩]
theorem Qrh:(Sf (tq 0) wtP).map (·.id)=[5,7,6]:=by decide +kernel
theorem Qri:(Sf (tq 9) wtP).map (·.id)=[5,6,7]:=by decide +kernel
theorem Qrj:(Nc (Fw (tq 9)) wtP).1.map (·.id)=[7]:=by decide +kernel
theorem Qlv:((S9 wtP (tq 9)).map (·.id)).length=3:=by decide +kernel
theorem Qc1:Crv.norm (Crv.mk [0,1] [1] 0)=run2:=by
 have e:Crv.norm (Crv.mk [0,1] [1] 1)=Crv.norm (Crv.mk [0,1] [1] 0):=by simp only[Crv.norm,Crv.g,Crv.d'];rfl
 rw[<-e];exact Crv.norm_of rZ
theorem Qui:Uj 80 [.one (.row [[.bool false,.row []],[.bool false,.row [[.int .u32 1]]]]),.one (.row [[.bool false,.row [[.int .u32 1]]]])] [.agg (cl run2)]:=by
 have i1:IsInts [[.bool false,.row [[.int .u32 1]]]] [1]:=⟨⟨_,_,rfl,false,[1],rfl,rfl,(λx hx=>by rw[Qk.1 hx];decide),rfl⟩,trivial⟩;have i01:IsInts [[.bool false,.row []],[.bool false,.row [[.int .u32 1]]]] [0,1]:=⟨⟨_,_,rfl,false,[],rfl,rfl,(λx hx=>by cases hx),rfl⟩,i1⟩;have h:=Qr6 (px:=[0,1]) (py:=[1]) i01 i1 ⟨U6 cs_run2.x (by decide),U6 cs_run2.y (by decide),by show Ff 0<=_;decide,by show 2<=1073741824;decide,by show 1<=1073741824;decide⟩;rw[Qc1]at h;exact h
theorem Qw7:Na 3 1 [] ⟨Te 0 0,5⟩=0:=by decide +kernel
theorem Qw8:Na 3 1 [⟨Te 0 0,5⟩] ⟨Te 4 0,6⟩=0:=by decide +kernel
theorem Qw9:Na 3 1 [⟨Te 0 0,5⟩,⟨Te 4 0,6⟩] ⟨run2,7⟩=0:=by decide +kernel
theorem Qlw:∃E1 E2 E3:Es,EOk 0 E3/\E3.m=⟨3,1,wtP,0,0,0,0,0,0⟩/\kA 58 [.one (.ow 0 0),.oi 5,.agg (cl (Te 0 0))] (IY 3 1) [.oi 0] E1/\kA 58 [.one (.ow 0 0),.oi 6,.agg (cl (Te 4 0))] E1 [.oi 0] E2/\kA 58 [.one (.ow 0 0),.oi 7,.agg (cl run2)] E2 [.oi 0] E3:=by
 have h0:=Qja (np:=3) (nd:=1) (by decide) (by decide);have s1:=tO (x:=0) (y:=0) (by decide) (by decide);have s2:=tO (x:=4) (y:=0) (by decide) (by decide);have e1:Crv.norm (Crv.mk (Te 0 0).x (Te 0 0).y (Te 0 0).d)=Te 0 0:=Crv.norm_of s1.n;have e2:Crv.norm (Crv.mk (Te 4 0).x (Te 4 0).y (Te 4 0).d)=Te 4 0:=Crv.norm_of s2.n;have e3:Crv.norm (Crv.mk run2.x run2.y run2.d)=run2:=Crv.norm_of rZ;obtain⟨E1,a1,a2,a3⟩:=UO h0 (id:=5) (Gf (Te 0 0).x) (Gf (Te 0 0).y) (U5 (Te 0 0).d) (s1.c.mono (by decide) (by decide));rw[e1]at a2 a3;have i1:(IY 3 1).m.ins ⟨Te 0 0,5⟩=((⟨3,1,[⟨Te 0 0,5⟩],0,0,0,0,0,0⟩:Em),0):=by
  unfold Em.ins;rw[show Na (IY 3 1).m.np (IY 3 1).m.nd (IY 3 1).m.M ⟨Te 0 0,5⟩=0 from Qw7,if_pos rfl];rfl
 rw[i1]at a2 a3;obtain⟨E2,b1,b2,b3⟩:=UO a1 (id:=6) (Gf (Te 4 0).x) (Gf (Te 4 0).y) (U5 (Te 4 0).d) (s2.c.mono (by decide) (by decide));rw[e2,a2]at b2 b3;have i2:((⟨3,1,[⟨Te 0 0,5⟩],0,0,0,0,0,0⟩:Em),(0:Int)).1.ins ⟨Te 4 0,6⟩=((⟨3,1,[⟨Te 0 0,5⟩,⟨Te 4 0,6⟩],0,0,0,0,0,0⟩:Em),0):=by
  unfold Em.ins;dsimp only;rw[Qw8,if_pos rfl];rfl
 rw[i2]at b2 b3;obtain⟨E3,c1,c2,c3⟩:=UO b1 (id:=7) (Gf run2.x) (Gf run2.y) (U5 run2.d) (cs_run2.up (by decide) (by decide));rw[e3,b2]at c2 c3;have i3:((⟨3,1,[⟨Te 0 0,5⟩,⟨Te 4 0,6⟩],0,0,0,0,0,0⟩:Em),(0:Int)).1.ins ⟨run2,7⟩=((⟨3,1,wtP,0,0,0,0,0,0⟩:Em),0):=by
  unfold Em.ins;dsimp only;rw[Qw9,if_pos rfl];rfl
 rw[i3]at c2 c3;exact⟨E1,E2,E3,c1,c2,a3,b3,c3⟩
theorem QM:Uj 25 [] [.one (.bool true)]:=by
 obtain⟨E1,E2,E3,h3,m3,i1,i2,i3⟩:=Qlw;have ht:Qs 128 (9:Rat):=⟨by decide,by decide⟩;have gq:=jN h3 (by decide) (U5 (9:Rat).num) (U5 ((9:Rat).den:Int)) (by decide) (by decide) (Se 9);have ea:=Qec (A:=E3.m) ht (by rw[m3];show ¬(9:Rat)<0;decide);have en9:E3.m.ans 9=wY E3.m.M 9:=if_pos (by rw[ea]);have er9:(E3.m.adv 9).2=0:=by rw[ea]
 rw[en9,er9,m3]at gq;have gq:kA 20 [.one (.ow 0 0),.agg (rl 9)] E3 [.agg (wY wtP 9),.oi 0] E3:=gq;obtain⟨_,_,e1,e2,_⟩:=Qix m3;dsimp only at e1 e2;have t3:=Qu1 h3;rw[e1,e2]at t3;obtain⟨A0,hA0⟩:=nmE (wY wtP 0);obtain⟨A9,hA9⟩:=nmE (wY wtP 9);rw[<-hA0]at t3;rw[<-hA9]at gq;have g0:∃a b c d,A0=[ids [5,7,6],.row a,.row b,.row c,.row d]:=by
  rw[hA0];show ∃a b c d,[ids ((Sf (tq 0) wtP).map (·.id)),_,_,_,_]=_;rw[Qrh];exact⟨_,_,_,_,rfl⟩
 have g9:∃h c d,h.length=3/\A9=[ids [5,6,7],ids [7],ids h,.row c,.row d]:=by
  rw[hA9];show ∃h c d,_/\[ids ((Sf (tq 9) wtP).map (·.id)),ids ((Nc (Fw (tq 9)) wtP).1.map (·.id)),ids ((S9 wtP (tq 9)).map (·.id)),_,_]=_;rw[Qri,Qrj];exact⟨_,_,_,Qlv,rfl⟩
 obtain⟨a,b,c,d,rfl⟩:=g0;obtain⟨h,c',d',hh,rfl⟩:=g9;have q1:=mK (a:=[5,7,6]) (b:=[5,7,6]) (by decide) (by decide);have q2:=mK (a:=[5,6,7]) (b:=[5,6,7]) (by decide) (by decide);have q3:=mK (a:=[7]) (b:=[7]) (by decide) (by decide);have hhl:(idl h).length=3:=by simp[idl,hh]
 have co:=XZ (n:=9) (by decide);have ct:=IL (q:=9) ⟨by decide,by decide⟩;have k0:=lN (x:=0) (y:=0) (by decide) (by decide);have k4:=lN (x:=4) (y:=0) (by decide) (by decide);refine Fx func25 rfl ?_;exact Uf [.c Uv (Qe7 (np:=3) (nd:=1) (by decide) (by decide)),.f rfl,.f rfl,.k k0,.c Uv i1,.f rfl,.k k4,.c Uv i2,.f rfl,.z 29,.k Qui,.c Uv i3,.f rfl,.k co,.k ct,.c Uv gq,.t rfl,.c Uv t3,.k q1,.t rfl,.k q2,.t rfl,.k q3,.t rfl,.r 71 (eI (b:=3) (by rw[Q9];omega))] rfl rfl (by simp[U4])
abbrev enL(E:Es)(ms:Ur)(N:Int):Ut:=[.blk 80 (pJ 0 E.q),tB E.np E.nd E.M,bS E.s E.M E.q,bT E.t E.M E.q,bH E.h E.M E.q,bP E.p E.M E.q,bD E.d E.M E.q,.blk 27 [.ow 0 0,.sh ms,.int .i64 N]]
theorem EG{p:Um}{c:Int}(hc:c≠0)(tp:Fg p):Fq p c=p.map (· * c):=by
 refine AH (Fz _ _) (AT hc tp) λi=>?_
 rw[C0,Qi,Qi,Q7];cases p[i]? <;> simp
theorem Qke{E:Es}{b:Int}(h:EOk b E){j:Nat}{p:Pt}(hp:E.M[j]? = some p):E.m.rep ⟨p.c,p.id⟩=(E.m,0):=by
 have hm:=Qc hp;have hs:=h.m.m.sc p hm;have hso:=h.m.m.so;have e:=Qwe (A:=E.m) (p:=⟨p.c,p.id⟩) (Qlm (Qpj (h.m.id p hm) (Qk7 hs)) (Qvj hso hp) (h.m.deg p hm));rw[e];have e2:E.m.M.set (Rk E.m.M p.id) ⟨p.c,p.id⟩=E.m.M:=by
  show E.M.set (Rk E.M p.id) p=E.M;rw[Qjy hso hp];obtain⟨h1,h2⟩:=Qf.1 hp;rw[<-h2,List.set_getElem_self]
 show(({ np:=E.m.np,nd:=E.m.nd,M:=E.m.M.set (Rk E.m.M p.id) ⟨p.c,p.id⟩,q:=E.m.q,s:=E.m.s,t:=E.m.t,h:=E.m.h,p:=E.m.p,d:=E.m.d }:Em),(0:Int))=_;rw[e2]
theorem Qu0{E:Es}{b:Int}(h:EOk b E){j:Nat}{p:Pt}(hp:E.M[j]? = some p):∃F,EOk b F/\F.m=E.m/\kA 49 [.one (.ow 0 0),.oi p.id,.agg [pl (Fq p.c.x (-7)),pl (Fq p.c.y (-7)),sg (p.c.d*-7),mg (p.c.d*-7)]] E [.oi 0] F:=by
 have hs:=h.m.m.sc p (Qc hp);have c7:Ff (-7)<=3:=by decide
 have hc:Cs 4294967294 1073741824 (Crv.mk (Fq p.c.x (-7)) (Fq p.c.y (-7)) (p.c.d*-7)):=⟨U6 (Ge hs.c.x c7) (by decide),U6 (Ge hs.c.y c7) (by decide),by have:=Ga p.c.d (-7);have:=hs.c.d;show Ff (p.c.d*-7)<=_;omega,by have:=Fy p.c.x (-7);have:=hs.c.lx;show(Fq _ _).length<=_;omega,by have:=Fy p.c.y (-7);have:=hs.c.ly;show(Fq _ _).length<=_;omega⟩;obtain⟨F,f1,f2,f3⟩:=DV h (id:=p.id) (Gf _) (Gf _) (U5 _) hc;have e:Crv.norm (Crv.mk (Fq p.c.x (-7)) (Fq p.c.y (-7)) (p.c.d*-7))=p.c:=by
  rw[EG (by decide) hs.n.1,EG (by decide) hs.n.2.1];exact Qjc hs.n (by decide)
 rw[e,Qke h hp]at f2 f3;exact⟨F,f1,f2,f3⟩
set_option maxHeartbeats 8000000 in
theorem AI{a b k n:Int}{l:List RawOp}(ha:-9223372036854775808≤a/\a≤9223372036854775807)(hb:-9223372036854775808≤b/\b≤9223372036854775807)(hl:∀x∈l,x.Ok)(hk:-9223372036854775808≤k/\k≤9223372036854775807)(hn:-9223372036854775808≤n/\n≤9223372036854775807):Uj 9 [.oi a,.oi b,.one (.row (qL l)),.oi k,.oi n] [.one (.bool true)]:=by
 obtain⟨N,nd,ms,hN,hnd,h0,_,_,cb⟩:=Qm1 ha hb;have hll:=Qc6 l;refine Fx func9 rfl (ln 2 rfl rfl λhcl=>?_);rw[hll]at hcl;refine Ud [.c Uv cb,.f rfl] rfl ?_;refine Ui (S:=Nat×Es) 8 (λL1 s=>(13,.v (.oi (s.1:Int)))::L1) (λs=>enL s.2 ms N) (λs=>5-s.1) (λs=>s.1<=5/\s.1<=l.length/\EOk (67000000*s.1) s.2) (0,IY N nd) ⟨by show 0<=5;decide,Qh _,h0.mono (show(0:Int)<=67000000*((0:Nat):Int) by decide)⟩ rfl rfl λ⟨i,E⟩ ⟨hi,hi2,hE⟩=>?_
 dsimp only at hi hi2 hE ⊢;by_cases hr:i<l.length/\i<5
 ·obtain⟨x,hx⟩:=gxE (l:=l) (i:=i) hr.1;obtain⟨E',e1,e2,e3⟩:=Qow (ms:=ms) hE (by omega) hN (hl x (Qc hx));refine Ue [.T,.T,.x (Qc5 hx),.c Uv e3] rfl ?_;have e:67000000*(i:Int)+67000000=67000000*((i+1:Nat):Int):=by omega
  rw[e]at e1;exact rd (i+1,E') (by dsimp only;omega) ⟨hr.2,hr.1,e1⟩ rfl
 have hE5:EOk 335000000 E:=hE.mono (by omega);clear hE;have hln:=hE5.m.m.ln;have ccl:=Qox hE5;have cal:=mN (np:=E.np) (nd:=E.nd) (Qj2 hE5) (by omega);have hcrl:(List.map Fe E.M).length=E.M.length:=by simp
 obtain⟨F,j,p,f1,f2,f3⟩:∃(F:Es) (j:Nat) (p:Pt),EOk 335000000 F/\F.m=E.m/\((E.M.length=0/\F=E)\/(E.M.length≠0/\Pm k (E.M.length:Int)=(j:Int)/\E.M[j]? = some p/\Sc p.c/\kA 49 [.one (.ow 0 0),.oi p.id,.agg [pl (Fq p.c.x (-7)),pl (Fq p.c.y (-7)),sg (p.c.d*-7),mg (p.c.d*-7)]] E [.oi 0] F)):=by
  by_cases hM:E.M.length=0
  ·exact⟨E,0,⟨Q09,0⟩,hE5,rfl,.inl ⟨hM,rfl⟩⟩
  ·have hw:=Ez (v:=k) (n:=(E.M.length:Int)) (by omega);obtain⟨j,hj⟩:∃j:Nat,Pm k (E.M.length:Int)=(j:Int):=⟨(Pm k (E.M.length:Int)).toNat,by omega⟩;obtain⟨p,hp⟩:=gxE (l:=E.M) (i:=j) (by omega);obtain⟨F,f1,f2,f3⟩:=Qu0 hE5 hp;exact⟨F,j,p,f1,f2,.inr ⟨hM,hj,hp,hE5.m.m.sc p (Qc hp),f3⟩⟩
 obtain⟨_,_,fM,fq,_⟩:=Qix f2;have fM:F.M=E.M:=fM;have fq:F.q=E.q:=fq;have csa:=Qhk (E:=F) (F:=E) f1 fM.symm fq.symm;have ck:=xA (np:=F.np) (nd:=F.nd) (M:=F.M) (s:=F.s) (t:=F.t) (h:=F.h) (p:=F.p) (d:=F.d) f1.q;have cf:=wR (q:=F.q) (f1.q.mono (by decide));have cw:=Cj (v:=n) (n:=20) hn (by decide);have bw:=Ez (v:=n) (n:=20) (by decide);have co:=XZ (n:=Pm n 20) (by omega);have hKq:Qs 128 ((Pm n 20:Int):Rat):=⟨by rw[Rat.num_intCast];exact Qa (Qcs (by omega)) (by decide),by rw[Rat.den_intCast];decide⟩;have ca:=xC (a:=F.q) (b:=((Pm n 20:Int):Rat)) (f1.q.mono (by decide)) (hKq.mono (by decide));obtain⟨T,hT⟩:=nmE (F.q+((Pm n 20:Int):Rat));have hTq:Qs 257 T:=by rw[hT];exact Qj9 f1.q hKq
 rw[<-hT]at ca;have ct:=IL (q:=T) (hTq.mono (by decide));obtain⟨G,g1,g2,_,g4⟩:=Qhg f1 (by decide) hTq (by decide);obtain⟨H,h1,h2,_,h4⟩:=Qhg hE5 (by decide) hTq (by decide);rw[f2]at g2 g4;have hGH:G.m=H.m:=by rw[g2,h2]
 obtain⟨_,_,x1,x2,_⟩:=Qix hGH;have x1:G.M=H.M:=x1;have x2:G.q=H.q:=x2;obtain⟨er,her⟩:=nmE ((E.m.adv T).2);rw[<-her]at g4 h4;have csb:=Qhk (E:=G) (F:=H) g1 x1.symm x2.symm;have cE1:=uA (E:=G);have cE2:=uA (E:=H);rw[hGH]at cE1;have cC1:=uE g1;have cC2:=uE h1;rw[x1,x2]at cC1;obtain⟨hcp,hcn⟩:=Qgt h1;have csc:=Qfn hcp hcn;have cof:=ZH (n:=-7) (by decide);have cto:=Qnv (z:=-7) (by decide);rcases f3 with⟨y1,y2⟩|⟨y1,y2,y3,y4,y5⟩
 ·subst y2;by_cases hj:i<l.length
  ·exact Uf [.T,.F,.c Uy ccl,.f rfl,.c [9] cal,.F,.c Uw ck,.k cf,.k cw,.k co,.k ca,.k ct,.c Uw g4,.c Uv h4,.g 111 true (by simp),.lo,.c Ux csb,.g 117 true rfl,.lo,.c Uw cE1,.lo,.c Uv cE2,.g 125 true (by simp),.lo,.c Uv cC2,.lo,.c Uw cC1,.k csc,.g 133 true (by simp),.k QM] rfl rfl (by simp[U4] <;> omega)
  ·exact Uf [.F,.f rfl,.c Uy ccl,.f rfl,.c [9] cal,.F,.c Uw ck,.k cf,.k cw,.k co,.k ca,.k ct,.c Uw g4,.c Uv h4,.g 111 true (by simp),.lo,.c Ux csb,.g 117 true rfl,.lo,.c Uw cE1,.lo,.c Uv cE2,.g 125 true (by simp),.lo,.c Uv cC2,.lo,.c Uw cC1,.k csc,.g 133 true (by simp),.k QM] rfl rfl (by simp[U4] <;> omega)
 ·have cwi:=Cj (v:=k) (n:=(E.M.length:Int)) hk (by omega);rw[y2]at cwi;have s1:=Sr (p:=p.c.x) (c:=-7) (by have:=y4.c.lx;omega) (U6 y4.c.x (by decide)) (by decide);have s2:=Sr (p:=p.c.y) (c:=-7) (by have:=y4.c.ly;omega) (U6 y4.c.y (by decide)) (by decide);have m1:=Pp (U5 p.c.d) (U5 (-7)) (Qa y4.c.d (by decide)) (by decide);rw[<-hcrl]at cwi;by_cases hj:i<l.length
  ·refine go tt [.T,.F,.c Uy ccl,.f rfl,.c [9] cal,.T,.k cwi,.x (Ty y3),.k cof,.k cto,.k s1,.k s2,.k m1,.c Uw y5,.f rfl,.c Ux csa,.f rfl,.c Uw ck,.k cf,.k cw,.k co,.k ca,.k ct] rfl (by simp[U4] <;> omega) ?_;exact Uf [.c Uw g4,.c Uv h4,.g 111 true (by simp),.lo,.c Ux csb,.g 117 true rfl,.lo,.c Uw cE1,.lo,.c Uv cE2,.g 125 true (by simp),.lo,.c Uv cC2,.lo,.c Uw cC1,.k csc,.g 133 true (by simp),.k QM] rfl
  ·refine go tt [.F,.f rfl,.c Uy ccl,.f rfl,.c [9] cal,.T,.k cwi,.x (Ty y3),.k cof,.k cto,.k s1,.k s2,.k m1,.c Uw y5,.f rfl,.c Ux csa,.f rfl,.c Uw ck,.k cf,.k cw,.k co,.k ca,.k ct] rfl (by simp[U4] <;> omega) ?_;exact Uf [.c Uw g4,.c Uv h4,.g 111 true (by simp),.lo,.c Ux csb,.g 117 true rfl,.lo,.c Uw cE1,.lo,.c Uv cE2,.g 125 true (by simp),.lo,.c Uv cC2,.lo,.c Uw cC1,.k csc,.g 133 true (by simp),.k QM] rfl
end Orr
namespace Orr
open Go Go.Proofs Tryz
variable{H:Type}{enc:TypeId×Value->H}{w:World}{base:Nat}{spare:Nat->Bool}{held:Bool}
theorem Sv{α:Type}{l:List α}{n i:Nat}(h:l.length=n)(hi:i<n):∃x,l[i]? = some x:=⟨l[i]'(by omega),Qe (by omega)⟩
end Orr
namespace Orr
open Go Go.Proofs Tryz Go.ChangeShapes Go.WideShapes Go.ChangeAt Go.RowKit Go.WideElems
theorem Qoh{w:World}{a:Addr}{v:Value}(h:w.cell? a=some v):a.spot=none/\a.block<w.heap.size:=by
 simp only[World.cell?]at h
 split at h
 ·rename_i c t fr hc
  split at h
  ·cases h
  ·rename_i hs;refine⟨by cases e:a.spot with|none=>rfl|some _=>simp[e]at hs,?_⟩;exact(Array.getElem?_eq_some_iff.1 hc).1
 ·cases h
theorem Qmp{a:Addr}(h:a.spot=none)(n m:Nat):(a.add n).add m=⟨a.block,a.off+n+m,none⟩:=by
 obtain⟨b,o,s⟩:=a;simp only at h;subst h;simp only[Addr.add]
 split
 ·rename_i h;subst h
  split
  ·rename_i h;subst h;simp
  ·simp
 ·split
  ·rename_i h;subst h;simp
  ·simp
def fr0(w:World):Fr:=⟨λb=>b<w.heap.size,λ_=>False,w,λ_=>False,λ_=>none⟩
theorem AN(w:World):HS (fr0 w) (ob []) (nw []) (λ_=>none) (λ_=>False) w where
 size:=Ql _
 kept:=λb hb=>⟨hb,rfl,Iff.rfl⟩
 ids:=λi h=>h.elim
 nj:=λi h=>by rw[yL]at h;cases h
 io:=⟨rfl,rfl⟩
 blk:=λi=>by rw[yL];trivial
 nk:=λi g c m h _=>by rw[yL]at h;cases h
 inj:=λi j g c m c' m' h _ _ _=>by rw[yL]at h;cases h
 mlt:=λb h=>h.elim
 m0:=λb _ h=>h.elim
 un:=λi _=>⟨rfl,rfl⟩
 uj:=λi _ h=>h.elim
theorem Qqt{w w':World}{bl:Nat->OB}{U:Nat->Prop}{E:Cd}{M:Nat->Prop}(h:HS (fr0 w) bl U E M w'){p:MemPlace}(hp:p.block<w.heap.size):w.sameAt w' p:=by
 cases p with
 |cell b off=>simp only[World.sameAt,World.cell?];rw[(h.kept b hp).2.1];rfl
 |map b=>exact(h.kept b hp).2.1
theorem Qpc{w w':World}{bl:Nat->OB}{U:Nat->Prop}{E:Cd}{M:Nat->Prop}(h:HS (fr0 w) bl U E M w')(may:MemPlace->Prop):w.keptBut w' may:=by
 refine⟨h.io.1,h.io.2,λi hi=>?_⟩;have e:w'.heap[i]? = w.heap[i]? := (h.kept i hi).2.1;rw[e];cases w.heap[i]? with
 |none=>rfl
 |some o=>cases o <;> simp
end Orr
