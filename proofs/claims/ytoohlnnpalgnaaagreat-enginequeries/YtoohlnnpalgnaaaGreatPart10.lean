/- MD3 MD4 MD5 MD6 X22 SD2 H4 En2 X20 X21 En3 EnZ En4 EnO EnQ EnP EnR RawO EnA EnE W24 EnU RatZ EnB EnG WQ24 ReadN LastN LastR LastS -/
import Derived.Test.YtoohlnnpalgnaaaGreatPart09
import Derived.Test.YtoohlnnpalgnaaaGreatPart00
import Derived.Test.YtoohlnnpalgnaaaGreatPart08
import Derived.Test.YtoohlnnpalgnaaaGreatPart07
import Derived.Deep.Slices
import Derived.ProofKit
import Derived.OpenShut
import Derived.WideKeyArgs
import Derived.SizedLaws
set_option linter.all false
namespace Orr
open Go Go.Proofs Tryz Orq
set_option maxRecDepth 10000
set_option maxHeartbeats 8000000 in
theorem IR {l:List Pt} {a:Tm} {c:Cr} {r1:Us} (hl:∀ p∈l,Sc p.c) (hn:l.length≤6) (ha:Va a):U7 prog 199 [.one (.ow 0 0),.agg (ta a)] [.blk 229 (Hm c (U3 l) r1)] [.one (.row (Fo (wQ l a)))] [.blk 229 (Hm c (U3 l) (pH l a))]:=by
 have hwl:=QQ l;have cw:=pO (l:=l) (Qan hl) (by omega);have hgb:=Qhs a;unfold pH wQ gZ LY;obtain ⟨sg',hsg⟩:∃ s,s=Fq a:=⟨_,rfl⟩;obtain ⟨W,hW⟩:=nmE (Tp l);have hWs:∀ p∈W,Sc p.c:=λp hp=>hl p (Np (by rw [<-hW]; exact hp))
 have mR:=λ{x y z:Pt} (hx:x∈W) (hy:y∈W) (hz:z∈W)=>lV (t:=a) (hWs x hx) (hWs y hy) (hWs z hz) ha
 have mC:=λ{x y z u:Pt} (hx:x∈W) (hy:y∈W) (hz:z∈W) (hu:u∈W)=>Qmv (t:=a) (hWs x hx) (hWs y hy) (hWs z hz) (hWs u hu) ha
 rw [<-hW] at cw hwl ⊢;rw [<-hsg] at hgb mR mC ⊢;have hW6:W.length<=6:=by omega
 have hTi:=λps=>Qcf hgb ps
 have hcp:(W.map Fc).length=W.length:=by simp
 have hcp2:=G7 W;have hdr:∀ i,(U3 W).drop i=U3 (W.drop i):=λi=>by unfold U3; rw [List.map_drop]
 have hel:∀ z∈U3 W,z.length=5:=λz hz=>by obtain ⟨p,_,rfl⟩:=Za.1 hz; rfl
 have s7:∀ x:Ct,∀ y∈[Lx x],y.length=7:=λx y hy=>by rw [Qk.1 hy]; rfl
 have s3:∀ x:P3,∀ y∈[trL x],y.length=3:=λx y hy=>by rw [Qk.1 hy]; rfl
 obtain ⟨T,hT⟩:=nmE (Ay (ZP sg' (Ru W)));obtain ⟨G,hG⟩:=nmE (Oc T (VP sg' (O4 W)));have hTI:kR T:=by rw [hT]; exact hTi _
 have hTm:Ql0 T:=λk=>(hTI k).1
 have hGB:Qds G:=λk=>by rw [hG]; exact pG _ _ _ k
 rw [<-hT,<-hG];have e0:(Fo (((Lq 0 W).map (PC sg'))))=[]:=rfl;refine Fw func199 rfl ?_;refine Ud [.k cw,.o 6 99 7] rfl ?_;refine Ui (S:=Nat) 4 (λL1 i=>(42,.v (.oi i))::(6,.v (.one (.orow 2 7 none)))::L1) (λi=>[.blk 229 (Hm c (U3 l) r1),.blk 105 (ta a),.row false 99 7 (Fo ((Lq i W).map (PC sg'))),.mpb (Ay (ZP sg' (Lq i W)))]) (λi=>W.length-i) (λi=>i<=W.length) 0 (Qh _) rfl rfl λi hi=>?_
 by_cases hlt:i<W.length
 ·obtain ⟨x,hx⟩:=gxE (l:=W) (i:=i) hlt;have xm:=Qc hx;obtain ⟨V,hV⟩:=nmE (W.drop (i+1));have hVl:V.length=W.length-(i+1):=by rw [hV,Q8]
  have hVm:∀ p∈V,p∈W:=λp hp=>by rw [hV] at hp; exact Qz hp
  have eV:(U3 W).drop (i+1)=U3 V:=by rw [hdr,<-hV]
  rw [<-LC W x i];refine go tt [.T,.x (Ti hx),.r 49 (eI (b:=((i+1:Nat):Int)) (by omega)),.i (i+1),.r 50 (UC eV)] rfl (by simp only [U4]; (repeat' apply And.intro) <;> first | omega | exact hel) ?_;have hVr:=G7 V;refine Ui (S:=Nat) 5 (λL1 j=>(52,.v (.oi j))::(6,.v (.one (.orow 2 7 none)))::L1) (λj=>[.blk 229 (Hm c (U3 l) r1),.blk 105 (ta a),.row false 99 7 (Fo ((p3j W x i j).map (PC sg'))),.mpb (Ay (ZP sg' (p3j W x i j))),.blk 40 (Fc x)]) (λj=>V.length-j) (λj=>j<=V.length) 0 (Qh _) rfl rfl λj hj=>?_
  by_cases hltj:j<V.length
  ·obtain ⟨y,hy⟩:=gxE (l:=V) (i:=j) hltj;have ym:=hVm y (Qc hy);have hy':(W.drop (i+1))[j]? = some y:=by rw [<-hV]; exact hy
   obtain ⟨U,hU⟩:=nmE (V.drop (j+1));have hUl:U.length=V.length-(j+1):=by rw [hU,Q8]
   have hUm:∀ p∈U,p∈W:=λp hp=>by rw [hU] at hp; exact hVm p (Qz hp)
   have hUW:U=(W.drop (i+1)).drop (j+1):=by rw [hU,hV]
   have eU:(U3 W).drop (i+j+2)=U3 U:=by rw [hdr,hU,hV,Jw]; congr 2; omega
   have hUr:=G7 U;rw [<-LL W x y i j];refine go tt [.T,.x (Ti hy),.r 61 (eI (b:=((i+j+2:Nat):Int)) (by omega)),.i (i+j+2),.r 62 (UC eU)] rfl (by simp only [U4]; (repeat' apply And.intro) <;> first | omega | exact hel) ?_;refine Ui (S:=Nat) 6 (λL1 k=>(64,.v (.oi k))::(6,.v (.one (.orow 2 7 none)))::L1) (λk=>[.blk 229 (Hm c (U3 l) r1),.blk 105 (ta a),.row false 99 7 (Fo ((qN W x y i j k).map (PC sg'))),.mpb (Ay (ZP sg' (qN W x y i j k))),.blk 40 (Fc x),.blk 40 (Fc y)]) (λk=>U.length-k) (λk=>k<=U.length) 0 (Qh _) rfl rfl λk hk=>?_
   by_cases hltk:k<U.length
   ·obtain ⟨z,hz⟩:=gxE (l:=U) (i:=k) hltk;have zm:=hUm z (Qc hz);have hlen:=iN hW6 (k:=k) hx hy';have en:=LD (x:=x) (y:=y) (by rw [<-hUW]; exact hz);have et:=dU sg' (qN W x y i j k) (x,y,z);rw [<-en] at et;refine go tt [.T,.x (Ti hz),.k (mR xm ym zm),.s (sz:=7) (s7 _)] rfl (by simp [U4,Nz] <;> omega) ?_;exact rd (k+1) (by omega) hltk (by rw [et,en,Yh]; simp [Fo]; rfl)
   ·have e:=yB (x:=x) (k:=k) hy' (by rw [<-hUW]; omega);rw [e];refine go tt [.F] rfl (by simp [U4] <;> omega) ?_;exact rd (j+1) (by omega) hltj rfl
  ·have e:=yN (x:=x) (j:=j) hx (by rw [<-hV]; omega);rw [e];refine go tt [.F] rfl (by simp [U4] <;> omega) ?_;exact rd (i+1) (by omega) hlt rfl
 rw [Qag (show i=W.length by omega),<-hT];have hiW:¬i<W.length:=hlt;clear hlt;obtain ⟨C3,hC3⟩:=nmE ((Ru W).map (PC sg'));have hC3l:C3.length<=20:=by rw [hC3,Q7]; exact (VQ hW6).1
 rw [<-hC3];refine Ud [.F] rfl ?_;have eC:Fo C3=Fo (C3++(Eu 0 W).map (HB sg')):=by rw [show Eu 0 W=[] from rfl,X6,Zv]
 rw [eC];refine Ui (S:=Nat) 5 (λL1 i=>(97,.v (.oi i))::(6,.v (.one (.orow 2 7 none)))::L1) (λi=>[.blk 229 (Hm c (U3 l) r1),.blk 105 (ta a),.row false 99 7 (Fo (C3++(Eu i W).map (HB sg'))),.mpb T,.mpb (Oc T (VP sg' (Eu i W)))]) (λi=>W.length-i) (λi=>i<=W.length) 0 (Qh _) rfl rfl λi hi=>?_
 by_cases hlt:i<W.length
 ·obtain ⟨x,hx⟩:=gxE (l:=W) (i:=i) hlt;have xm:=Qc hx;obtain ⟨V,hV⟩:=nmE (W.drop (i+1));have hVl:V.length=W.length-(i+1):=by rw [hV,Q8]
  have hVm:∀ p∈V,p∈W:=λp hp=>by rw [hV] at hp; exact Qz hp
  have eV:(U3 W).drop (i+1)=U3 V:=by rw [hdr,<-hV]
  have hVr:=G7 V;rw [<-Qi9 W x i];refine go tt [.T,.x (Ti hx),.r 104 (eI (b:=((i+1:Nat):Int)) (by omega)),.i (i+1),.r 105 (UC eV)] rfl (by simp only [U4]; (repeat' apply And.intro) <;> first | omega | exact hel) ?_;refine Ui (S:=Nat) 6 (λL1 j=>(107,.v (.oi j))::(6,.v (.one (.orow 2 7 none)))::L1) (λj=>[.blk 229 (Hm c (U3 l) r1),.blk 105 (ta a),.row false 99 7 (Fo (C3++(p4j W x i j).map (HB sg'))),.mpb T,.mpb (Oc T (VP sg' (p4j W x i j))),.blk 40 (Fc x)]) (λj=>V.length-j) (λj=>j<=V.length) 0 (Qh _) rfl rfl λj hj=>?_
  by_cases hltj:j<V.length
  ·obtain ⟨y,hy⟩:=gxE (l:=V) (i:=j) hltj;have ym:=hVm y (Qc hy);have hy':(W.drop (i+1))[j]? = some y:=by rw [<-hV]; exact hy
   obtain ⟨U,hU⟩:=nmE (V.drop (j+1));have hUl:U.length=V.length-(j+1):=by rw [hU,Q8]
   have hUm:∀ p∈U,p∈W:=λp hp=>by rw [hU] at hp; exact hVm p (Qz hp)
   have hUW:U=(W.drop (i+1)).drop (j+1):=by rw [hU,hV]
   have eU:(U3 W).drop (i+j+2)=U3 U:=by rw [hdr,hU,hV,Jw]; congr 2; omega
   have hUr:=G7 U;rw [<-Qja W x y i j];refine go tt [.T,.x (Ti hy),.r 116 (eI (b:=((i+j+2:Nat):Int)) (by omega)),.i (i+j+2),.r 117 (UC eU)] rfl (by simp only [U4]; (repeat' apply And.intro) <;> first | omega | exact hel) ?_;refine Ui (S:=Nat) 7 (λL1 k=>(119,.v (.oi k))::(6,.v (.one (.orow 2 7 none)))::L1) (λk=>[.blk 229 (Hm c (U3 l) r1),.blk 105 (ta a),.row false 99 7 (Fo (C3++(p4k W x y i j k).map (HB sg'))),.mpb T,.mpb (Oc T (VP sg' (p4k W x y i j k))),.blk 40 (Fc x),.blk 40 (Fc y)]) (λk=>U.length-k) (λk=>k<=U.length) 0 (Qh _) rfl rfl λk hk=>?_
   by_cases hltk:k<U.length
   ·obtain ⟨z,hz⟩:=gxE (l:=U) (i:=k) hltk;have zm:=hUm z (Qc hz);have hz':((W.drop (i+1)).drop (j+1))[k]? = some z:=by rw [<-hUW]; exact hz
    obtain ⟨R,hR⟩:=nmE (U.drop (k+1));have hRl:R.length=U.length-(k+1):=by rw [hR,Q8]
    have hRm:∀ p∈R,p∈W:=λp hp=>by rw [hR] at hp; exact hUm p (Qz hp)
    have hRW:R=((W.drop (i+1)).drop (j+1)).drop (k+1):=by rw [hR,hUW]
    have eR:(U3 W).drop (i+j+k+3)=U3 R:=by rw [hdr,hRW,Jw,Jw]; congr 2; omega
    have hRr:=G7 R;rw [<-Qjc W x y z i j k];refine go tt [.T,.x (Ti hz),.r 130 (eI (b:=((i+j+k+3:Nat):Int)) (by omega)),.i (i+j+k+3),.r 131 (UC eR)] rfl (by simp only [U4]; (repeat' apply And.intro) <;> first | omega | exact hel) ?_;refine Ui (S:=Nat) 8 (λL1 m=>(133,.v (.oi m))::(6,.v (.one (.orow 2 7 none)))::L1) (λm=>[.blk 229 (Hm c (U3 l) r1),.blk 105 (ta a),.row false 99 7 (Fo (C3++(p4m W x y z i j k m).map (HB sg'))),.mpb T,.mpb (Oc T (VP sg' (p4m W x y z i j k m))),.blk 40 (Fc x),.blk 40 (Fc y),.blk 40 (Fc z)]) (λm=>R.length-m) (λm=>m<=R.length) 0 (Qh _) rfl rfl λm hm=>?_
    by_cases hltm:m<R.length
    ·obtain ⟨u,hu⟩:=gxE (l:=R) (i:=m) hltm;have um:=hRm u (Qc hu);have hlen:=Qpk hW6 (m:=m) hx hy' hz';have en:=Qjb (x:=x) (y:=y) (z:=z) (by rw [<-hRW]; exact hu);have et:=nZ sg' T (p4m W x y z i j k m) (x,y,z,u);rw [<-en] at et;have cf:=Qtt (F:=Oc T (VP sg' (p4m W x y z i j k m))) (s:=(qG sg' x y z u).want) (n0:=x.id) (n1:=y.id) (n2:=z.id) (n3:=u.id) hTI (hgb _);refine go tt [.T,.x (Ti hu),.k (mC xm ym zm um),.s (sz:=7) (s7 _),.c [4,3] cf] rfl (by simp [U4,Nz] <;> omega) ?_;exact rd (m+1) (by omega) hltm (by rw [et,en,Yh,<-Zd]; simp [Fo]; rfl)
    ·have e:=Qpj (x:=x) (y:=y) (m:=m) hz' (by rw [<-hRW]; omega);rw [e];refine go tt [.F] rfl (by simp [U4] <;> omega) ?_;exact rd (k+1) (by omega) hltk rfl
   ·have e:=Qpi (x:=x) (k:=k) hy' (by rw [<-hUW]; omega);rw [e];refine go tt [.F] rfl (by simp [U4] <;> omega) ?_;exact rd (j+1) (by omega) hltj rfl
  ·have e:=Qph (x:=x) (j:=j) hx (by rw [<-hV]; omega);rw [e];refine go tt [.F] rfl (by simp [U4] <;> omega) ?_;exact rd (i+1) (by omega) hlt rfl
 rw [Qp0 (show i=W.length by omega),<-hG];obtain ⟨C4,hC4⟩:=nmE (C3++(O4 W).map (HB sg'));rw [<-hC4];refine Ud [.F] rfl ?_;refine ozM 0 13 84 3 rfl rfl ?_;have eT:([]:Us)=A5 ((Lq 0 W).filter (jL T G)):=rfl;rw [eT];refine Ui (S:=Nat) 6 (λL1 i=>(174,.v (.oi i))::L1) (λi=>[.blk 229 [.bool true,pl c.now.p,sg c.now.lo.num,mg c.now.lo.num,sg (c.now.lo.den:Int),mg (c.now.lo.den:Int),sg c.now.hi.num,mg c.now.hi.num,sg (c.now.hi.den:Int),mg (c.now.hi.den:Int),.row (C7 c.l),.int .i64 c.ev,.row (U3 l),.orow 5 3 none],.blk 105 (ta a),.row false 99 7 (Fo C4),.mpb T,.mpb G,.row false 84 3 (A5 ((Lq i W).filter (jL T G)))]) (λi=>W.length-i) (λi=>i<=W.length) 0 (Qh _) rfl rfl λi hi=>?_
 by_cases hlt:i<W.length
 ·obtain ⟨x,hx⟩:=gxE (l:=W) (i:=i) hlt;obtain ⟨V,hV⟩:=nmE (W.drop (i+1));have hVl:V.length=W.length-(i+1):=by rw [hV,Q8]
  have eV:(U3 W).drop (i+1)=U3 V:=by rw [hdr,<-hV]
  have hVr:=G7 V;rw [<-LC W x i];refine go tt [.T,.x (Ti hx),.r 181 (eI (b:=((i+1:Nat):Int)) (by omega)),.i (i+1),.r 182 (UC eV)] rfl (by simp only [U4]; (repeat' apply And.intro) <;> first | omega | exact hel) ?_;refine Ui (S:=Nat) 7 (λL1 j=>(184,.v (.oi j))::L1) (λj=>[.blk 229 [.bool true,pl c.now.p,sg c.now.lo.num,mg c.now.lo.num,sg (c.now.lo.den:Int),mg (c.now.lo.den:Int),sg c.now.hi.num,mg c.now.hi.num,sg (c.now.hi.den:Int),mg (c.now.hi.den:Int),.row (C7 c.l),.int .i64 c.ev,.row (U3 l),.orow 5 3 none],.blk 105 (ta a),.row false 99 7 (Fo C4),.mpb T,.mpb G,.row false 84 3 (A5 ((p3j W x i j).filter (jL T G))),.blk 40 (Fc x)]) (λj=>V.length-j) (λj=>j<=V.length) 0 (Qh _) rfl rfl λj hj=>?_
  by_cases hltj:j<V.length
  ·obtain ⟨y,hy⟩:=gxE (l:=V) (i:=j) hltj;have hy':(W.drop (i+1))[j]? = some y:=by rw [<-hV]; exact hy
   obtain ⟨U,hU⟩:=nmE (V.drop (j+1));have hUl:U.length=V.length-(j+1):=by rw [hU,Q8]
   have hUW:U=(W.drop (i+1)).drop (j+1):=by rw [hU,hV]
   have eU:(U3 W).drop (i+j+2)=U3 U:=by rw [hdr,hU,hV,Jw]; congr 2; omega
   have hUr:=G7 U;rw [<-LL W x y i j];refine go tt [.T,.x (Ti hy),.r 193 (eI (b:=((i+j+2:Nat):Int)) (by omega)),.i (i+j+2),.r 194 (UC eU)] rfl (by simp only [U4]; (repeat' apply And.intro) <;> first | omega | exact hel) ?_;refine Ui (S:=Nat) 8 (λL1 k=>(196,.v (.oi k))::L1) (λk=>[.blk 229 [.bool true,pl c.now.p,sg c.now.lo.num,mg c.now.lo.num,sg (c.now.lo.den:Int),mg (c.now.lo.den:Int),sg c.now.hi.num,mg c.now.hi.num,sg (c.now.hi.den:Int),mg (c.now.hi.den:Int),.row (C7 c.l),.int .i64 c.ev,.row (U3 l),.orow 5 3 none],.blk 105 (ta a),.row false 99 7 (Fo C4),.mpb T,.mpb G,.row false 84 3 (A5 ((qN W x y i j k).filter (jL T G))),.blk 40 (Fc x),.blk 40 (Fc y)]) (λk=>U.length-k) (λk=>k<=U.length) 0 (Qh _) rfl rfl λk hk=>?_
   by_cases hltk:k<U.length
   ·obtain ⟨z,hz⟩:=gxE (l:=U) (i:=k) hltk;have hlen:=iN hW6 (k:=k) hx hy';have en:=LD (x:=x) (y:=y) (by rw [<-hUW]; exact hz);have hfl:=Y0 (jL T G) (qN W x y i j k);have htl:=AU ((qN W x y i j k).filter (jL T G));by_cases h1:ZT T [x.id,y.id,z.id]≠0
    ·by_cases h2:BJ G [x.id,y.id,z.id]=true
     ·have ef:jL T G (x,y,z)=false:=by unfold jL nG; simp [h2]
      have eF:=Qhd (ps:=qN W x y i j k) ef;rw [<-en] at eF;refine go tt [.T,.x (Ti hz),.g 211 true (decide_eq_true h1),.f (by rw [h2]; rfl)] rfl (by simp only [U4]; (repeat' apply And.intro) <;> first | exact hTm | exact hGB | omega | (simp only [Q5,Jg]; omega)) ?_;exact rd (k+1) (by omega) hltk (by rw [eF]; rfl)
     ·have h2:BJ G [x.id,y.id,z.id]=false:=by simpa using h2
      have ef:jL T G (x,y,z)=true:=by unfold jL nG; simp [h2,h1]
      have eF:=Qus (ps:=qN W x y i j k) ef;rw [<-en] at eF;refine go tt [.T,.x (Ti hz),.g 211 true (decide_eq_true h1),.t (by rw [h2]; rfl),.s (sz:=3) (s3 (x,y,z))] rfl (by simp only [U4]; (repeat' apply And.intro) <;> first | exact hTm | exact hGB | omega | (simp only [Q5,Jg]; omega)) ?_;exact rd (k+1) (by omega) hltk (by rw [eF]; simp [A5]; rfl)
    ·have ef:jL T G (x,y,z)=false:=by unfold jL nG; simp [h1]
     have eF:=Qhd (ps:=qN W x y i j k) ef;rw [<-en] at eF;refine go tt [.T,.x (Ti hz),.g 211 false (decide_eq_false h1),.f rfl] rfl (by simp only [U4]; (repeat' apply And.intro) <;> first | exact hTm | exact hGB | omega | (simp only [Q5,Jg]; omega)) ?_;exact rd (k+1) (by omega) hltk (by rw [eF]; rfl)
   ·have e:=yB (x:=x) (k:=k) hy' (by rw [<-hUW]; omega);rw [e];refine go tt [.F] rfl (by simp [U4] <;> omega) ?_;exact rd (j+1) (by omega) hltj rfl
  ·have e:=yN (x:=x) (j:=j) hx (by rw [<-hV]; omega);rw [e];refine go tt [.F] rfl (by simp [U4] <;> omega) ?_;exact rd (i+1) (by omega) hlt rfl
 rw [Qag (show i=W.length by omega)];rw [hC4,hC3];exact Uh [2,5] [0] [.F] rfl
theorem Qxi {T:Nat} {t:Rat} {Bc:Tm->List Ct} {Br:Tm->Us} {r0:Us} (ht:Qs 1640000 t) (hB:BuildOk Bc)
 (hb:∀ a c r1,Va a->CrOk c->U7 prog 199 [.one (.ow 0 0),.agg (ta a)] [.blk T (Hm c r0 r1)] [.one (.row (Fo (Bc a)))] [.blk T (Hm c r0 (Br a))])
 {K:Nat} {c c':Cr} {r1 r1':Us} {n:Int} (hc:CrOk c) (hev:0<=c.ev/\c.ev+K<=1000000000000000000) (h:Fp c.now t<=0) (hg:KI Bc Br t K c r1 0=some (c',r1',n)) :
 U7 prog 396 [.one (.ow 0 0),.agg (rl t),.one (.ofn 199 [.ow 0 0] [])] [.blk T (Hm c r0 r1)] [.oi n,.oi 0] [.blk T (Hm c' r0 r1')]:=by
 have qt:Qb t:=ht.mono (by decide);have c1:=Df hc.n.tb qt;refine Fw func396 rfl ?_;refine Ud [.c [0] (QK hc.n),.k c1,.f (by simpa using h)] rfl ?_;refine Ui (S:=Nat×Cr×Us×Int) 2 (λL1 s=>(8,.v (.oi s.2.2.2))::L1) (λs=>[.blk T (Hm s.2.1 r0 s.2.2.1),.blk 42 (rl t)]) (λs=>s.1) (λs=>CrOk s.2.1/\(0<=s.2.1.ev/\s.2.1.ev+s.1<=1000000000000000000)/\(0<=s.2.2.2/\s.2.2.2+s.1<=1000000000000000000)/\KI Bc Br t s.1 s.2.1 s.2.2.1 s.2.2.2=some (c',r1',n)) (K,c,r1,0) ⟨hc,hev,⟨Int.le_refl 0,by dsimp only; omega⟩,hg⟩ rfl rfl λ⟨k,x,r,m⟩ ⟨j1,j2,j3,j4⟩=>?_
 dsimp only at j1 j2 j3 j4 ⊢;cases k with
 | zero=>cases j4
 |
  succ k =>
  simp only [KI] at j4;obtain ⟨ws,w1,j4⟩:=Qd.1 j4;obtain ⟨o,o1,j4⟩:=Qd.1 j4;have cn:=MX (T:=T) (r0:=r0) (r1:=r) j1 w1 o1;have ca:=VD (U5 t.num) (U5 (t.den:Int)) (Qa ht.1 (by decide)) (Qa ht.2 (by decide)) (by rw [Ts]; exact ht.mono (by decide));rw [Ts] at ca;cases o with
  |
   none =>
   injection j4 with j4; injection j4 with e1 j4; injection j4 with e2 e3;subst e1; subst e2; subst e3;exact Uh [] [0] [.c [0] cn,.g 25 true rfl,.t rfl,.k ca] rfl
  |
   some a =>
   have ha:=LM j1 w1 o1;dsimp only at j4;have cc:=Df ha.tb qt;by_cases h0:0<Fp a t
   ·rw [if_pos h0] at j4;injection j4 with j4; injection j4 with e1 j4; injection j4 with e2 e3;subst e1; subst e2; subst e3;exact Uh [] [0] [.c [0] cn,.g 25 false rfl,.k cc,.t (by simpa using h0),.k ca] rfl
   ·rw [if_neg h0] at j4;obtain ⟨w2,l1,j4⟩:=Qd.1 j4;have j1':=Eo j1 w1;have cl:=S9 (b:=a) (l:=[]) ha.tb (λt ht=>by cases ht) (by decide) rfl;have cb:=hb a { x with l:=ws } r ha j1';have cy:=UY (T:=T) (r0:=r0) (r1:=Br a) j1' ha (hB.p a ha) (hB.n a ha) l1;have hf:decide (0<Fp a t)=false:=by simpa using h0
    refine Ue [.c [0] cn,.g 25 false rfl,.k cc,.f hf,.k cl,.c [0] cb,.c [0] cy] rfl ?_;exact rd (k,⟨a,w2,x.ev+1⟩,Br a,m+1) (by dsimp only; omega) ⟨lay_ok _ j1' ha (hB.p a ha) (hB.n a ha) l1,by dsimp only; omega,by dsimp only; omega,j4⟩ rfl
theorem Qs9 {t:Rat} {l:List Pt} {K:Nat} {c c':Cr} {r1 r1':Us} {n:Int} (ht:Qs 1640000 t) (hl:∀ p∈l,Sc p.c) (hn:l.length≤6) (hc:CrOk c) (hev:0≤c.ev/\c.ev+K≤1000000000000000000) (h:Fp c.now t≤0) (hg:KI (wQ l) (pH l) t K c r1 0=some (c',r1',n)) :
 U7 prog 432 [.one (.ow 0 0),.agg (rl t)] [.blk 229 (Hm c (U3 l) r1)] [.oi n,.oi 0] [.blk 229 (Hm c' (U3 l) r1')]:=by
 have cg:=Qxi (T:=229) (r0:=U3 l) ht (pQ hl hn) (λa c r1 ha _=>IR (c:=c) (r1:=r1) hl hn ha) hc hev h hg;refine Fw func432 rfl ?_;exact Uh [] [0] [.k (Nu (ht.mono (by decide))),.c [0] cg] rfl
theorem pN {c:Cr} {r0:Us} {ts:List P3} (ht:ts.length<=1000):U7 prog 83 [.one (.ow 0 0)] [.blk 229 (Hm c r0 (A5 ts))] [.one (.row (A5 ts))] [.blk 229 (Hm c r0 (A5 ts))]:=by
 have hl:=AU ts;have h3:∀ y∈A5 ts,y.length=3:=λy hy=>by obtain ⟨m,_,rfl⟩:=Za.1 hy; rfl
 refine Fw func83 rfl ?_;exact Uh [1] [0] [.s (sz:=3) h3] rfl (by simp [U4] <;> omega)
theorem Qm6 {l:List P3} (hl:l.length<=1000000):Uj 41 [.one (.row (A5 l)),.one (.row (A5 l))] [.one (.bool true)]:=by
 have hll:=AU l;refine Fw func41 rfl ?_;refine Ud [.f (decide_eq_false (λh=>h rfl))] rfl ?_;refine Ui (S:=Nat) 0 (λL1 i=>(5,.v (.oi i))::L1) (λ_=>[]) (λi=>l.length-i) (λi=>i<=l.length) 0 (Qh _) rfl rfl λi hi=>?_
 by_cases h:i<l.length
 ·obtain ⟨x,hx⟩:=gxE (l:=l) (i:=i) h;refine Ue [.T,.x (sY hx),.x (sY hx),.f (by simp)] rfl ?_;exact rd (i+1) (by omega) h rfl
 ·exact Uf [.F] rfl
theorem BV {c:Cr} {l l':List Pt} {r1:Us} {ws:List Wt} (hc:CrOk c) (hl:∀ p∈l',Sc p.c) (hn:l'.length≤6) (h:Tl c.l c.now (Fx (wQ l' c.now))=some ws) :
 U7 prog 436 [.one (.ow 0 0),.agg [pts l'],.oi 0] [.blk 229 (Hm c (U3 l) r1)] [.oi 0] [.blk 229 (Hm ⟨c.now,ws,c.ev⟩ (U3 l') (pH l' c.now))]:=by
 have hB:=pQ hl hn;have cn:=QK (T:=229) (c:=c) (r0:=U3 l') (r1:=r1) hc.n;have cb:=IR (c:=c) (r1:=r1) hl hn hc.n;have cg:=YZ (T:=229) (r0:=U3 l') (r1:=pH l' c.now) hc hc.n (I2 hc.n) (Yd 0) (hB.p _ hc.n) (hB.n _ hc.n) h;refine Fw func436 rfl ?_;exact Uh [] [0] [.f rfl,.c [0] cn,.c [0] cb,.c [0] cg] rfl
theorem Qmo {lx ly:Us} {px py:Um} {x y:LV} {d id:Int} {c:Cr} {l:List Pt} {r1:Us} {ws:List Wt} (hx:IsInts lx px) (hy:IsInts ly py) (hd:Ge x y d) (hk:Cs 4294967294 1073741824 (Crv.mk px py d)) (hll:l.length<=900)
 (he:WH l ⟨Crv.norm (Crv.mk px py d),id⟩=0) (hc:CrOk c) (hl:∀ p∈put l ⟨Crv.norm (Crv.mk px py d),id⟩,Sc p.c) (hn:(put l ⟨Crv.norm (Crv.mk px py d),id⟩).length≤6) (h:Tl c.l c.now (Fx (wQ (put l ⟨Crv.norm (Crv.mk px py d),id⟩) c.now))=some ws) :
 U7 prog 434 [.one (.ow 0 0),.agg [.row lx,.row ly,x,y,.int .i64 id]] [.blk 229 (Hm c (U3 l) r1)] [.oi 0] [.blk 229 (Hm ⟨c.now,ws,c.ev⟩ (U3 (put l ⟨Crv.norm (Crv.mk px py d),id⟩)) (pH (put l ⟨Crv.norm (Crv.mk px py d),id⟩) c.now))]:=by
 have cp:=wF (l:=l) (id:=id) hx hy hd hk (by omega);rw [if_pos he,he] at cp;have cw:=BV (l:=l) (r1:=r1) hc hl hn h;refine Fw func434 rfl ?_;obtain ⟨b,l',rfl,rfl,_⟩:=hd;exact Uh [] [0] [.k cp,.c [0] cw] rfl
theorem Qed {lx ly:Us} {px py:Um} {x y:LV} {d id:Int} {c:Cr} {l l':List Pt} {r1:Us} {ws:List Wt} (hx:IsInts lx px) (hy:IsInts ly py) (hd:Ge x y d) (hk:Cs 4294967294 1073741824 (Crv.mk px py d)) (hll:l.length<=6) (h:has l id=true) (hc:CrOk c)
 (hl':l'=l.set (Rv l id) (Pt.mk (Crv.norm (Crv.mk px py d)) id)) (hs:∀ p∈l',Sc p.c) (hw:Tl c.l c.now (Fx (wQ l' c.now))=some ws) :
 U7 prog 435 [.one (.ow 0 0),.agg [.row lx,.row ly,x,y,.int .i64 id]] [.blk 229 (Hm c (U3 l) r1)] [.oi 0] [.blk 229 (Hm ⟨c.now,ws,c.ev⟩ (U3 l') (pH l' c.now))]:=by
 have ct1:=UU (l:=l) hx hy hd hk (by omega) h;rw [<-hl'] at ct1;have cw:=BV (c:=c) (l:=l) (l':=l') (r1:=r1) hc hs (by rw [hl',Xd]; omega) hw;obtain ⟨b,r,rfl,rfl,_⟩:=hd;refine Fw func435 rfl ?_;exact Uh [] [0] [.k ct1,.c [0] cw] rfl
theorem Qec {id:Int} {c:Cr} {l l':List Pt} {r1:Us} {ws:List Wt} (hll:l.length<=6) (h:has l id=true) (hc:CrOk c)
 (hl':l'=l.take (Rv l id)++l.drop (Rv l id+1)) (hs:∀ p∈l',Sc p.c) (hw:Tl c.l c.now (Fx (wQ l' c.now))=some ws) :
 U7 prog 433 [.one (.ow 0 0),.oi id] [.blk 229 (Hm c (U3 l) r1)] [.oi 0] [.blk 229 (Hm ⟨c.now,ws,c.ev⟩ (U3 l') (pH l' c.now))]:=by
 have ct1:=UK (l:=l) (id:=id) (by omega) h;rw [<-hl'] at ct1;have cw:=BV (c:=c) (l:=l) (l':=l') (r1:=r1) hc hs (by rw [hl',Qy,Qq,Q8]; omega) hw;refine Fw func433 rfl ?_;exact Uh [] [0] [.k ct1,.c [0] cw] rfl
theorem Qa0 {c:Cr} {r0:Us} {r1:Us}:U7 prog 67 [.one (.ow 0 0)] [.blk 229 (Hm c r0 r1)] [.one (.ow 1 0)] [.blk 229 (Hm c r0 r1),.blk 229 (Hm c r0 r1)]:=by
 refine Fw func67 rfl ?_;exact Uh [] [0,1] [] rfl
theorem Qm5 {lx ly:Us} {px py:Um} {x y:LV} {d id:Int} {c:Cr} {l l':List Pt} {r1:Us} {ws:List Wt} (hx:IsInts lx px) (hy:IsInts ly py) (hd:Ge x y d) (hk:Cs 4294967294 1073741824 (Crv.mk px py d)) (hll:l.length<=900) (h:has l id=true) (hc:CrOk c)
 (hl':l'=l.set (Rv l id) (Pt.mk (Crv.norm (Crv.mk px py d)) id)) (hs:∀ p∈l',Sc p.c) (hw:Tl c.l c.now (Fx (JA l' c.now))=some ws) :
 U7 prog 394 [.one (.ow 0 0),.agg [.row lx,.row ly,x,y,.int .i64 id]] [.blk 220 (Hm c (U3 l) r1)] [.oi 0] [.blk 220 (Hm ⟨c.now,ws,c.ev⟩ (U3 l') (IG l' c.now))]:=by
 have ct1:=UU (l:=l) hx hy hd hk (by omega) h;rw [<-hl'] at ct1;have cw:=xN (c:=c) (l:=l) (l':=l') (r1:=r1) hc hs (by rw [hl',Xd]; omega) hw;obtain ⟨b,r,rfl,rfl,_⟩:=hd;refine Fw func394 rfl ?_;exact Uh [] [0] [.k ct1,.c [0] cw] rfl
theorem Qm3 {id:Int} {c:Cr} {l l':List Pt} {r1:Us} {ws:List Wt} (hll:l.length<=900) (h:has l id=true) (hc:CrOk c)
 (hl':l'=l.take (Rv l id)++l.drop (Rv l id+1)) (hs:∀ p∈l',Sc p.c) (hw:Tl c.l c.now (Fx (JA l' c.now))=some ws) :
 U7 prog 390 [.one (.ow 0 0),.oi id] [.blk 220 (Hm c (U3 l) r1)] [.oi 0] [.blk 220 (Hm ⟨c.now,ws,c.ev⟩ (U3 l') (IG l' c.now))]:=by
 have ct1:=UK (l:=l) (id:=id) (by omega) h;rw [<-hl'] at ct1;have cw:=xN (c:=c) (l:=l) (l':=l') (r1:=r1) hc hs (by rw [hl',Qy,Qq,Q8]; omega) hw;refine Fw func390 rfl ?_;exact Uh [] [0] [.k ct1,.c [0] cw] rfl
theorem Qxj {T:Nat} {t:Rat} {Bc:Tm->List Ct} {Br:Tm->Us} {r0:Us} (ht:Qs 1640000 t) (hB:BuildOk Bc)
 (hb:∀ a c r1,Va a->CrOk c->U7 prog 197 [.one (.ow 0 0),.agg (ta a)] [.blk T (Hm c r0 r1)] [.one (.row (Fo (Bc a)))] [.blk T (Hm c r0 (Br a))])
 {K:Nat} {c c':Cr} {r1 r1':Us} {n:Int} (hc:CrOk c) (hev:0<=c.ev/\c.ev+K<=1000000000000000000) (h:Fp c.now t<=0) (hg:KI Bc Br t K c r1 0=some (c',r1',n)) :
 U7 prog 396 [.one (.ow 0 0),.agg (rl t),.one (.ofn 197 [.ow 0 0] [])] [.blk T (Hm c r0 r1)] [.oi n,.oi 0] [.blk T (Hm c' r0 r1')]:=by
 have qt:Qb t:=ht.mono (by decide);have c1:=Df hc.n.tb qt;refine Fw func396 rfl ?_;refine Ud [.c [0] (QK hc.n),.k c1,.f (by simpa using h)] rfl ?_;refine Ui (S:=Nat×Cr×Us×Int) 2 (λL1 s=>(8,.v (.oi s.2.2.2))::L1) (λs=>[.blk T (Hm s.2.1 r0 s.2.2.1),.blk 42 (rl t)]) (λs=>s.1) (λs=>CrOk s.2.1/\(0<=s.2.1.ev/\s.2.1.ev+s.1<=1000000000000000000)/\(0<=s.2.2.2/\s.2.2.2+s.1<=1000000000000000000)/\KI Bc Br t s.1 s.2.1 s.2.2.1 s.2.2.2=some (c',r1',n)) (K,c,r1,0) ⟨hc,hev,⟨Int.le_refl 0,by dsimp only; omega⟩,hg⟩ rfl rfl λ⟨k,x,r,m⟩ ⟨j1,j2,j3,j4⟩=>?_
 dsimp only at j1 j2 j3 j4 ⊢;cases k with
 | zero=>cases j4
 |
  succ k =>
  simp only [KI] at j4;obtain ⟨ws,w1,j4⟩:=Qd.1 j4;obtain ⟨o,o1,j4⟩:=Qd.1 j4;have cn:=MX (T:=T) (r0:=r0) (r1:=r) j1 w1 o1;have ca:=VD (U5 t.num) (U5 (t.den:Int)) (Qa ht.1 (by decide)) (Qa ht.2 (by decide)) (by rw [Ts]; exact ht.mono (by decide));rw [Ts] at ca;cases o with
  |
   none =>
   injection j4 with j4; injection j4 with e1 j4; injection j4 with e2 e3;subst e1; subst e2; subst e3;exact Uh [] [0] [.c [0] cn,.g 25 true rfl,.t rfl,.k ca] rfl
  |
   some a =>
   have ha:=LM j1 w1 o1;dsimp only at j4;have cc:=Df ha.tb qt;by_cases h0:0<Fp a t
   ·rw [if_pos h0] at j4;injection j4 with j4; injection j4 with e1 j4; injection j4 with e2 e3;subst e1; subst e2; subst e3;exact Uh [] [0] [.c [0] cn,.g 25 false rfl,.k cc,.t (by simpa using h0),.k ca] rfl
   ·rw [if_neg h0] at j4;obtain ⟨w2,l1,j4⟩:=Qd.1 j4;have j1':=Eo j1 w1;have cl:=S9 (b:=a) (l:=[]) ha.tb (λt ht=>by cases ht) (by decide) rfl;have cb:=hb a { x with l:=ws } r ha j1';have cy:=UY (T:=T) (r0:=r0) (r1:=Br a) j1' ha (hB.p a ha) (hB.n a ha) l1;have hf:decide (0<Fp a t)=false:=by simpa using h0
    refine Ue [.c [0] cn,.g 25 false rfl,.k cc,.f hf,.k cl,.c [0] cb,.c [0] cy] rfl ?_;exact rd (k,⟨a,w2,x.ev+1⟩,Br a,m+1) (by dsimp only; omega) ⟨lay_ok _ j1' ha (hB.p a ha) (hB.n a ha) l1,by dsimp only; omega,by dsimp only; omega,j4⟩ rfl
def Qxd (l:List Pt) (a:Tm):Cr:=⟨a,(Fx (AB l a)).map fresh,0⟩
theorem Qtb {t:Rat} {l:List Pt} {K:Nat} {c c':Cr} {r1 r1':Us} {n:Int} (ht:Qs 1640000 t) (hl:∀ p∈l,Sc p.c) (hn:l.length≤10) (hc:CrOk c) (hev:0≤c.ev/\c.ev+K≤1000000000000000000) (h:Fp c.now t≤0) (hg:KI (AB l) (brH l) t K c r1 0=some (c',r1',n)) :
 U7 prog 422 [.one (.ow 0 0),.agg (rl t)] [.blk 225 (Hm c (U3 l) r1)] [.oi n,.oi 0] [.blk 225 (Hm c' (U3 l) r1')]:=by
 have cg:=Qxj (T:=225) (r0:=U3 l) ht (pZ hl hn) (λa c r1 ha _=>IS (c:=c) (r1:=r1) hl hn ha) hc hev h hg;refine Fw func422 rfl ?_;exact Uh [] [0] [.k (Nu (ht.mono (by decide))),.c [0] cg] rfl
theorem Qtc {c:Cr} {l s:List Pt} (hs:s.length<=1000000):U7 prog 82 [.one (.ow 0 0)] [.blk 225 (Hm c (U3 l) (U3 s))] [.one (ids (s.map (·.id)))] [.blk 225 (Hm c (U3 l) (U3 s))]:=by
 have hcl:=G7 s;refine Fw func82 rfl ?_;refine Ud [.o 3 3 1] rfl ?_;refine Ui (S:=Nat) 2 (λL1 i=>(11,.v (.oi i))::(3,.v (.one (.orow 1 1 none)))::L1) (λi=>[.blk 225 (Hm c (U3 l) (U3 s)),.row false 3 1 (((s.take i).map (·.id)).map λ(z:Int)=>[LV.int .i64 z])]) (λi=>s.length-i) (λi=>i<=s.length) 0 (Qh _) rfl rfl λi hi=>?_
 by_cases hlt:i<s.length
 ·obtain ⟨p,hp⟩:=gxE (l:=s) (i:=i) hlt;have hg:(((s.take (i+1)).map (·.id)).map λ(z:Int)=>[LV.int .i64 z])=(((s.take i).map (·.id)).map λ(z:Int)=>[LV.int .i64 z])++[[.int .i64 p.id]]:=by
   rw [Z1,hp]; simp
  refine Ue [.t (by simp [hcl]; omega),.x (S5 hp),.s (sz:=1) (l:=[[.int .i64 p.id]]) (λc hc=>by rw [Qk.1 hc]; rfl)] rfl ?_;exact rd (i+1) (by omega) hlt (by rw [hg]; rfl)
 ·obtain rfl:i=s.length:=by omega
  rw [Q6];exact Uh [1] [0] [.f (by simp [hcl])] rfl
abbrev YH (k:Nat) (np nd:Int) (M:List Pt) (q:Rat) (s t h p d:Cr):Ut:=[.blk 80 (mD k q),tB np nd M,bS s M q,bT t M q,bH h M q,bP p M q,bD d M q]
abbrev Qz8 (k:Nat):Ur:=[.oif 74 (k+2) 0,.oif 75 (k+3) 0,.oif 76 (k+4) 0,.oif 77 (k+5) 0,.oif 78 (k+6) 0]
theorem wH {np nd:Int} {Mt M:List Pt} {q:Rat} {s t h p d:Cr}:U7 prog 71 [.one (.ow 0 0)] [.blk 80 (mD 0 q),tB np nd Mt,bS s M q,bT t M q,bH h M q,bP p M q,bD d M q] [.agg (Qz8 0)] [.blk 80 (mD 0 q),tB np nd Mt,bS s M q,bT t M q,bH h M q,bP p M q,bD d M q]:=by
 refine Fw func71 rfl ?_;exact Uh [] [0,1,2,3,4,5,6] [] rfl
abbrev zM (k i:Nat) (a b:OB):OB:=match Nat.blt k i with
 | true=>b
 | false=>a
theorem Qem {np nd id:Int} {M M':List Pt} {q:Rat} {s t h p d s' t' h' p' d':Cr} {lx ly l3:Us} {bn:Bool} {e1 e2 e3 e4 e5:Int}
 (ht:U7 prog 132 [.one (.ow 0 0),.agg [.row lx,.row ly,.bool bn,.row l3,.int .i64 id]] [tB np nd M] [.oi 0] [tB np nd M'])
 (h1:U7 prog 393 [.one (.ow 0 0),.agg [.row lx,.row ly,.bool bn,.row l3,.int .i64 id]] [bS s M q] [.oi e1] [bS s' M' q])
 (h2:U7 prog 419 [.one (.ow 0 0),.agg [.row lx,.row ly,.bool bn,.row l3,.int .i64 id]] [bT t M q] [.oi e2] [bT t' M' q])
 (h3:U7 prog 424 [.one (.ow 0 0),.agg [.row lx,.row ly,.bool bn,.row l3,.int .i64 id]] [bH h M q] [.oi e3] [bH h' M' q])
 (h4:U7 prog 429 [.one (.ow 0 0),.agg [.row lx,.row ly,.bool bn,.row l3,.int .i64 id]] [bP p M q] [.oi e4] [bP p' M' q])
 (h5:U7 prog 434 [.one (.ow 0 0),.agg [.row lx,.row ly,.bool bn,.row l3,.int .i64 id]] [bD d M q] [.oi e5] [bD d' M' q]) :
 U7 prog 58 [.one (.ow 0 0),.oi id,.agg [.row lx,.row ly,.bool bn,.row l3]] (YH 0 np nd M q s t h p d) [.oi 0] (YH 0 np nd M' q s' t' h' p' d'):=by
 refine Fw func58 rfl ?_;refine Ud [.c [1] ht,.f rfl,.c Uv wH] rfl ?_;refine Ui (S:=Nat) 9 (λL1 i=>(25,.v (.oi i))::L1) (λi=>[.blk 80 (mD 0 q),tB np nd M',zM 0 i (bS s M q) (bS s' M' q),zM 1 i (bT t M q) (bT t' M' q),zM 2 i (bH h M q) (bH h' M' q),zM 3 i (bP p M q) (bP p' M' q),zM 4 i (bD d M q) (bD d' M' q),.blk 38 [.row lx,.row ly,.bool bn,.row l3],.blk 40 [.row lx,.row ly,.bool bn,.row l3,.int .i64 id]]) (λi=>5-i) (λi=>i<=5) 0 (by decide) rfl rfl λi hi=>?_
 rcases (show i=0\/i=1\/i=2\/i=3\/i=4\/i=5 by omega) with rfl | rfl | rfl | rfl | rfl | rfl
 ·exact go tt [.t rfl,.i 0,.c [2] h1] rfl (by simp [U4]) (rd 1 (by omega) (by omega) rfl)
 ·exact go tt [.t rfl,.i 1,.c [3] h2] rfl (by simp [U4]) (rd 2 (by omega) (by omega) rfl)
 ·exact go tt [.t rfl,.i 2,.c [4] h3] rfl (by simp [U4]) (rd 3 (by omega) (by omega) rfl)
 ·exact go tt [.t rfl,.i 3,.c [5] h4] rfl (by simp [U4]) (rd 4 (by omega) (by omega) rfl)
 ·exact go tt [.t rfl,.i 4,.c [6] h5] rfl (by simp [U4]) (rd 5 (by omega) (by omega) rfl)
 ·exact Uh [] [0,1,2,3,4,5,6] [.f rfl] rfl
theorem Qa6 {np nd id:Int} {M:List Pt} {q:Rat} {s t h p d:Cr} {lx ly l3:Us} {bn:Bool} {e:Int} (he:e≠0)
 (ht:U7 prog 132 [.one (.ow 0 0),.agg [.row lx,.row ly,.bool bn,.row l3,.int .i64 id]] [tB np nd M] [.oi e] [tB np nd M]) :
 U7 prog 58 [.one (.ow 0 0),.oi id,.agg [.row lx,.row ly,.bool bn,.row l3]] (YH 0 np nd M q s t h p d) [.oi e] (YH 0 np nd M q s t h p d):=by
 refine Fw func58 rfl ?_;exact Uh [] [0,1,2,3,4,5,6] [.c [1] ht,.t (by simpa using he)] rfl
theorem Qe4 {np nd id:Int} {M M':List Pt} {q:Rat} {s t h p d s' t' h' p' d':Cr} {lx ly l3:Us} {bn:Bool} {e1 e2 e3 e4 e5:Int}
 (ht:U7 prog 114 [.one (.ow 0 0),.agg [.row lx,.row ly,.bool bn,.row l3,.int .i64 id]] [tB np nd M] [.oi 0] [tB np nd M'])
 (h1:U7 prog 394 [.one (.ow 0 0),.agg [.row lx,.row ly,.bool bn,.row l3,.int .i64 id]] [bS s M q] [.oi e1] [bS s' M' q])
 (h2:U7 prog 420 [.one (.ow 0 0),.agg [.row lx,.row ly,.bool bn,.row l3,.int .i64 id]] [bT t M q] [.oi e2] [bT t' M' q])
 (h3:U7 prog 425 [.one (.ow 0 0),.agg [.row lx,.row ly,.bool bn,.row l3,.int .i64 id]] [bH h M q] [.oi e3] [bH h' M' q])
 (h4:U7 prog 430 [.one (.ow 0 0),.agg [.row lx,.row ly,.bool bn,.row l3,.int .i64 id]] [bP p M q] [.oi e4] [bP p' M' q])
 (h5:U7 prog 435 [.one (.ow 0 0),.agg [.row lx,.row ly,.bool bn,.row l3,.int .i64 id]] [bD d M q] [.oi e5] [bD d' M' q]) :
 U7 prog 49 [.one (.ow 0 0),.oi id,.agg [.row lx,.row ly,.bool bn,.row l3]] (YH 0 np nd M q s t h p d) [.oi 0] (YH 0 np nd M' q s' t' h' p' d'):=by
 refine Fw func49 rfl ?_;refine Ud [.c [1] ht,.f rfl,.c Uv wH] rfl ?_;refine Ui (S:=Nat) 9 (λL1 i=>(25,.v (.oi i))::L1) (λi=>[.blk 80 (mD 0 q),tB np nd M',zM 0 i (bS s M q) (bS s' M' q),zM 1 i (bT t M q) (bT t' M' q),zM 2 i (bH h M q) (bH h' M' q),zM 3 i (bP p M q) (bP p' M' q),zM 4 i (bD d M q) (bD d' M' q),.blk 38 [.row lx,.row ly,.bool bn,.row l3],.blk 40 [.row lx,.row ly,.bool bn,.row l3,.int .i64 id]]) (λi=>5-i) (λi=>i<=5) 0 (by decide) rfl rfl λi hi=>?_
 rcases (show i=0\/i=1\/i=2\/i=3\/i=4\/i=5 by omega) with rfl | rfl | rfl | rfl | rfl | rfl
 ·exact go tt [.t rfl,.i 0,.c [2] h1] rfl (by simp [U4]) (rd 1 (by omega) (by omega) rfl)
 ·exact go tt [.t rfl,.i 1,.c [3] h2] rfl (by simp [U4]) (rd 2 (by omega) (by omega) rfl)
 ·exact go tt [.t rfl,.i 2,.c [4] h3] rfl (by simp [U4]) (rd 3 (by omega) (by omega) rfl)
 ·exact go tt [.t rfl,.i 3,.c [5] h4] rfl (by simp [U4]) (rd 4 (by omega) (by omega) rfl)
 ·exact go tt [.t rfl,.i 4,.c [6] h5] rfl (by simp [U4]) (rd 5 (by omega) (by omega) rfl)
 ·exact Uh [] [0,1,2,3,4,5,6] [.f rfl] rfl
theorem Qba {np nd id:Int} {M:List Pt} {q:Rat} {s t h p d:Cr} {lx ly l3:Us} {bn:Bool} {e:Int} (he:e≠0)
 (ht:U7 prog 114 [.one (.ow 0 0),.agg [.row lx,.row ly,.bool bn,.row l3,.int .i64 id]] [tB np nd M] [.oi e] [tB np nd M]) :
 U7 prog 49 [.one (.ow 0 0),.oi id,.agg [.row lx,.row ly,.bool bn,.row l3]] (YH 0 np nd M q s t h p d) [.oi e] (YH 0 np nd M q s t h p d):=by
 refine Fw func49 rfl ?_;exact Uh [] [0,1,2,3,4,5,6] [.c [1] ht,.t (by simpa using he)] rfl
theorem Qee {np nd id:Int} {M M':List Pt} {q:Rat} {s t h p d s' t' h' p' d':Cr} {e1 e2 e3 e4 e5:Int}
 (ht:U7 prog 133 [.one (.ow 0 0),.oi id] [tB np nd M] [.oi 0] [tB np nd M'])
 (h1:U7 prog 390 [.one (.ow 0 0),.oi id] [bS s M q] [.oi e1] [bS s' M' q])
 (h2:U7 prog 418 [.one (.ow 0 0),.oi id] [bT t M q] [.oi e2] [bT t' M' q])
 (h3:U7 prog 423 [.one (.ow 0 0),.oi id] [bH h M q] [.oi e3] [bH h' M' q])
 (h4:U7 prog 428 [.one (.ow 0 0),.oi id] [bP p M q] [.oi e4] [bP p' M' q])
 (h5:U7 prog 433 [.one (.ow 0 0),.oi id] [bD d M q] [.oi e5] [bD d' M' q]) :
 U7 prog 59 [.one (.ow 0 0),.oi id] (YH 0 np nd M q s t h p d) [.oi 0] (YH 0 np nd M' q s' t' h' p' d'):=by
 refine Fw func59 rfl ?_;refine Ud [.c [1] ht,.f rfl,.c Uv wH] rfl ?_;refine Ui (S:=Nat) 7 (λL1 i=>(19,.v (.oi i))::L1) (λi=>[.blk 80 (mD 0 q),tB np nd M',zM 0 i (bS s M q) (bS s' M' q),zM 1 i (bT t M q) (bT t' M' q),zM 2 i (bH h M q) (bH h' M' q),zM 3 i (bP p M q) (bP p' M' q),zM 4 i (bD d M q) (bD d' M' q)]) (λi=>5-i) (λi=>i<=5) 0 (by decide) rfl rfl λi hi=>?_
 rcases (show i=0\/i=1\/i=2\/i=3\/i=4\/i=5 by omega) with rfl | rfl | rfl | rfl | rfl | rfl
 ·exact go tt [.t rfl,.i 0,.c [2] h1] rfl (by simp [U4]) (rd 1 (by omega) (by omega) rfl)
 ·exact go tt [.t rfl,.i 1,.c [3] h2] rfl (by simp [U4]) (rd 2 (by omega) (by omega) rfl)
 ·exact go tt [.t rfl,.i 2,.c [4] h3] rfl (by simp [U4]) (rd 3 (by omega) (by omega) rfl)
 ·exact go tt [.t rfl,.i 3,.c [5] h4] rfl (by simp [U4]) (rd 4 (by omega) (by omega) rfl)
 ·exact go tt [.t rfl,.i 4,.c [6] h5] rfl (by simp [U4]) (rd 5 (by omega) (by omega) rfl)
 ·exact Uh [] [0,1,2,3,4,5,6] [.f rfl] rfl
theorem Qa1 {np nd id:Int} {M:List Pt} {q:Rat} {s t h p d:Cr} {e:Int} (he:e≠0)
 (ht:U7 prog 133 [.one (.ow 0 0),.oi id] [tB np nd M] [.oi e] [tB np nd M]) :
 U7 prog 59 [.one (.ow 0 0),.oi id] (YH 0 np nd M q s t h p d) [.oi e] (YH 0 np nd M q s t h p d):=by
 refine Fw func59 rfl ?_;exact Uh [] [0,1,2,3,4,5,6] [.c [1] ht,.t (by simpa using he)] rfl
theorem Qaz {np nd:Int} {M:List Pt} {q r:Rat} {s t h p d s' t' h' p' d':Cr} {x0 x1 x2 x3:LV} {a b n1 n2 n3 n4 n5:Int} (ha:Ge x0 x1 a) (hb:Ge x2 x3 b) (sa:Fe a<=4294967295) (sb:Fe b<=4294967295) (hr:Gf a b=r) (hs:Qs 128 r) (hq:Qs 128 q) (hqr:q<=r)
 (h1:U7 prog 388 [.one (.ow 0 0),.agg (rl r)] [bS s M q] [.oi n1,.oi 0] [bS s' M r])
 (h2:U7 prog 417 [.one (.ow 0 0),.agg (rl r)] [bT t M q] [.oi n2,.oi 0] [bT t' M r])
 (h3:U7 prog 422 [.one (.ow 0 0),.agg (rl r)] [bH h M q] [.oi n3,.oi 0] [bH h' M r])
 (h4:U7 prog 427 [.one (.ow 0 0),.agg (rl r)] [bP p M q] [.oi n4,.oi 0] [bP p' M r])
 (h5:U7 prog 432 [.one (.ow 0 0),.agg (rl r)] [bD d M q] [.oi n5,.oi 0] [bD d' M r]) :
 U7 prog 17 [.one (.ow 0 0),.agg [x0,x1,x2,x3]] (YH 0 np nd M q s t h p d) [.oi 0] (YH 0 np nd M r s' t' h' p' d'):=by
 have cm:=BE ha hb sa sb;rw [hr] at cm;obtain ⟨b1,r1,rfl,rfl,_⟩:=ha;obtain ⟨b2,r2,rfl,rfl,_⟩:=hb;have cc:=Ce (a:=r) (b:=q) (hs.mono (by decide)) (hq.mono (by decide));have l1:=ZS.2 hs.1;have l2:(Gd r.den).length<=4:=by simpa using ZS.2 hs.2
 have hc:¬He r q<0:=λh=>absurd (Nv.1 h) (Rat.not_lt.2 hqr)
 refine Fw func17 rfl ?_;refine Ud [.k cm,.f (by simp [kF]; omega),.f (by simp [kF]; omega),.k cc,.f (by simpa using hc),.c Uv wH] rfl ?_;refine Ui (S:=Nat) 8 (λL1 i=>(32,.v (.oi i))::L1) (λi=>[.blk 80 (mD 0 q),tB np nd M,zM 0 i (bS s M q) (bS s' M r),zM 1 i (bT t M q) (bT t' M r),zM 2 i (bH h M q) (bH h' M r),zM 3 i (bP p M q) (bP p' M r),zM 4 i (bD d M q) (bD d' M r),.blk 42 (rl r)]) (λi=>5-i) (λi=>i<=5) 0 (by decide) rfl rfl λi hi=>?_
 rcases (show i=0\/i=1\/i=2\/i=3\/i=4\/i=5 by omega) with rfl | rfl | rfl | rfl | rfl | rfl
 ·exact go tt [.t rfl,.i 0,.c [2] h1] rfl (by simp [U4]) (rd 1 (by omega) (by omega) rfl)
 ·exact go tt [.t rfl,.i 1,.c [3] h2] rfl (by simp [U4]) (rd 2 (by omega) (by omega) rfl)
 ·exact go tt [.t rfl,.i 2,.c [4] h3] rfl (by simp [U4]) (rd 3 (by omega) (by omega) rfl)
 ·exact go tt [.t rfl,.i 3,.c [5] h4] rfl (by simp [U4]) (rd 4 (by omega) (by omega) rfl)
 ·exact go tt [.t rfl,.i 4,.c [6] h5] rfl (by simp [U4]) (rd 5 (by omega) (by omega) rfl)
 ·exact Uh [] [0,1,2,3,4,5,6] [.f rfl] rfl
theorem xR {np nd:Int} {M:List Pt} {q r:Rat} {s t h p d:Cr} {x0 x1 x2 x3:LV} {a b:Int} (ha:Ge x0 x1 a) (hb:Ge x2 x3 b) (sa:Fe a<=4294967295) (sb:Fe b<=4294967295) (hr:Gf a b=r) (hs:¬Qs 128 r) :
 U7 prog 17 [.one (.ow 0 0),.agg [x0,x1,x2,x3]] (YH 0 np nd M q s t h p d) [.oi 1] (YH 0 np nd M q s t h p d):=by
 have cm:=BE ha hb sa sb;rw [hr] at cm;obtain ⟨b1,r1,rfl,rfl,_⟩:=ha;obtain ⟨b2,r2,rfl,rfl,_⟩:=hb;refine Fw func17 rfl ?_;by_cases h1:Fe r.num<=128
 ·have h2:¬Fe (r.den:Int)<=128:=λh=>hs ⟨h1,h⟩
  have l1:=ZS.2 h1;have l2:=mt ZS.1 h2;exact Uh [] [0,1,2,3,4,5,6] [.k cm,.f (by simp [kF]; omega),.t (by simp [kF] at l2 ⊢; omega)] rfl
 ·have l1:=mt ZS.1 h1;exact Uh [] [0,1,2,3,4,5,6] [.k cm,.t (by simp [kF]; omega),.t rfl] rfl
theorem AD {np nd:Int} {M:List Pt} {q r:Rat} {s t h p d:Cr} {x0 x1 x2 x3:LV} {a b:Int} (ha:Ge x0 x1 a) (hb:Ge x2 x3 b) (sa:Fe a<=4294967295) (sb:Fe b<=4294967295) (hr:Gf a b=r) (hs:Qs 128 r) (hq:Qs 128 q) (hqr:r<q) :
 U7 prog 17 [.one (.ow 0 0),.agg [x0,x1,x2,x3]] (YH 0 np nd M q s t h p d) [.oi 8] (YH 0 np nd M q s t h p d):=by
 have cm:=BE ha hb sa sb;rw [hr] at cm;obtain ⟨b1,r1,rfl,rfl,_⟩:=ha;obtain ⟨b2,r2,rfl,rfl,_⟩:=hb;have cc:=Ce (a:=r) (b:=q) (hs.mono (by decide)) (hq.mono (by decide));have l1:=ZS.2 hs.1;have l2:(Gd r.den).length<=4:=by simpa using ZS.2 hs.2
 have hc:He r q<0:=Nv.2 hqr;refine Fw func17 rfl ?_;exact Uh [] [0,1,2,3,4,5,6] [.k cm,.f (by simp [kF]; omega),.f (by simp [kF]; omega),.k cc,.t (by simpa using hc)] rfl
theorem BW {c:Cr} {l l':List Pt} {r1:Us} {ws:List Wt} (hc:CrOk c) (hl:∀ p∈l',Sc p.c) (hn:l'.length≤10) (h:Tl c.l c.now (Fx (AB l' c.now))=some ws) :
 U7 prog 426 [.one (.ow 0 0),.agg [pts l'],.oi 0] [.blk 225 (Hm c (U3 l) r1)] [.oi 0] [.blk 225 (Hm ⟨c.now,ws,c.ev⟩ (U3 l') (brH l' c.now))]:=by
 have hB:=pZ hl hn;have cn:=QK (T:=225) (c:=c) (r0:=U3 l') (r1:=r1) hc.n;have cb:=IS (c:=c) (r1:=r1) hl hn hc.n;have cg:=YZ (T:=225) (r0:=U3 l') (r1:=brH l' c.now) hc hc.n (I2 hc.n) (Yd 0) (hB.p _ hc.n) (hB.n _ hc.n) h;refine Fw func426 rfl ?_;exact Uh [] [0] [.f rfl,.c [0] cn,.c [0] cb,.c [0] cg] rfl
theorem Qms {lx ly:Us} {px py:Um} {x y:LV} {d id:Int} {c:Cr} {l:List Pt} {r1:Us} {ws:List Wt} (hx:IsInts lx px) (hy:IsInts ly py) (hd:Ge x y d) (hk:Cs 4294967294 1073741824 (Crv.mk px py d)) (hll:l.length<=900)
 (he:WH l ⟨Crv.norm (Crv.mk px py d),id⟩=0) (hc:CrOk c) (hl:∀ p∈put l ⟨Crv.norm (Crv.mk px py d),id⟩,Sc p.c) (hn:(put l ⟨Crv.norm (Crv.mk px py d),id⟩).length≤10) (h:Tl c.l c.now (Fx (AB (put l ⟨Crv.norm (Crv.mk px py d),id⟩) c.now))=some ws) :
 U7 prog 424 [.one (.ow 0 0),.agg [.row lx,.row ly,x,y,.int .i64 id]] [.blk 225 (Hm c (U3 l) r1)] [.oi 0] [.blk 225 (Hm ⟨c.now,ws,c.ev⟩ (U3 (put l ⟨Crv.norm (Crv.mk px py d),id⟩)) (brH (put l ⟨Crv.norm (Crv.mk px py d),id⟩) c.now))]:=by
 have cp:=wF (l:=l) (id:=id) hx hy hd hk (by omega);rw [if_pos he,he] at cp;have cw:=BW (l:=l) (r1:=r1) hc hl hn h;refine Fw func424 rfl ?_;obtain ⟨b,l',rfl,rfl,_⟩:=hd;exact Uh [] [0] [.k cp,.c [0] cw] rfl
theorem Qek {lx ly:Us} {px py:Um} {x y:LV} {d id:Int} {c:Cr} {l l':List Pt} {r1:Us} {ws:List Wt} (hx:IsInts lx px) (hy:IsInts ly py) (hd:Ge x y d) (hk:Cs 4294967294 1073741824 (Crv.mk px py d)) (hll:l.length<=10) (h:has l id=true) (hc:CrOk c)
 (hl':l'=l.set (Rv l id) (Pt.mk (Crv.norm (Crv.mk px py d)) id)) (hs:∀ p∈l',Sc p.c) (hw:Tl c.l c.now (Fx (AB l' c.now))=some ws) :
 U7 prog 425 [.one (.ow 0 0),.agg [.row lx,.row ly,x,y,.int .i64 id]] [.blk 225 (Hm c (U3 l) r1)] [.oi 0] [.blk 225 (Hm ⟨c.now,ws,c.ev⟩ (U3 l') (brH l' c.now))]:=by
 have ct1:=UU (l:=l) hx hy hd hk (by omega) h;rw [<-hl'] at ct1;have cw:=BW (c:=c) (l:=l) (l':=l') (r1:=r1) hc hs (by rw [hl',Xd]; omega) hw;obtain ⟨b,r,rfl,rfl,_⟩:=hd;refine Fw func425 rfl ?_;exact Uh [] [0] [.k ct1,.c [0] cw] rfl
theorem Qej {id:Int} {c:Cr} {l l':List Pt} {r1:Us} {ws:List Wt} (hll:l.length<=10) (h:has l id=true) (hc:CrOk c)
 (hl':l'=l.take (Rv l id)++l.drop (Rv l id+1)) (hs:∀ p∈l',Sc p.c) (hw:Tl c.l c.now (Fx (AB l' c.now))=some ws) :
 U7 prog 423 [.one (.ow 0 0),.oi id] [.blk 225 (Hm c (U3 l) r1)] [.oi 0] [.blk 225 (Hm ⟨c.now,ws,c.ev⟩ (U3 l') (brH l' c.now))]:=by
 have ct1:=UK (l:=l) (id:=id) (by omega) h;rw [<-hl'] at ct1;have cw:=BW (c:=c) (l:=l) (l':=l') (r1:=r1) hc hs (by rw [hl',Qy,Qq,Q8]; omega) hw;refine Fw func423 rfl ?_;exact Uh [] [0] [.k ct1,.c [0] cw] rfl
theorem Qa5 {c:Cr} {r0:Us} {r1:Us}:U7 prog 65 [.one (.ow 0 0)] [.blk 225 (Hm c r0 r1)] [.one (.ow 1 0)] [.blk 225 (Hm c r0 r1),.blk 225 (Hm c r0 r1)]:=by
 refine Fw func65 rfl ?_;exact Uh [] [0,1] [] rfl
theorem BH {c:Cr} {l l':List Pt} {r1:Us} {ws:List Wt} (hc:CrOk c) (hl:∀ p∈l',Sc p.c) (hn:l'.length≤10) (h:Tl c.l c.now (Fx (dL l' c.now))=some ws) :
 U7 prog 431 [.one (.ow 0 0),.agg [pts l'],.oi 0] [.blk 227 (Hm c (U3 l) r1)] [.oi 0] [.blk 227 (Hm ⟨c.now,ws,c.ev⟩ (U3 l') (brP l' c.now))]:=by
 have hB:=Qd4 hl hn;have cn:=QK (T:=227) (c:=c) (r0:=U3 l') (r1:=r1) hc.n;have cb:=IP (c:=c) (r1:=r1) hl hn hc.n;have cg:=YZ (T:=227) (r0:=U3 l') (r1:=brP l' c.now) hc hc.n (I2 hc.n) (Yd 0) (hB.p _ hc.n) (hB.n _ hc.n) h;refine Fw func431 rfl ?_;exact Uh [] [0] [.f rfl,.c [0] cn,.c [0] cb,.c [0] cg] rfl
theorem Qm0 {lx ly:Us} {px py:Um} {x y:LV} {d id:Int} {c:Cr} {l:List Pt} {r1:Us} {ws:List Wt} (hx:IsInts lx px) (hy:IsInts ly py) (hd:Ge x y d) (hk:Cs 4294967294 1073741824 (Crv.mk px py d)) (hll:l.length<=900)
 (he:WH l ⟨Crv.norm (Crv.mk px py d),id⟩=0) (hc:CrOk c) (hl:∀ p∈put l ⟨Crv.norm (Crv.mk px py d),id⟩,Sc p.c) (hn:(put l ⟨Crv.norm (Crv.mk px py d),id⟩).length≤10) (h:Tl c.l c.now (Fx (dL (put l ⟨Crv.norm (Crv.mk px py d),id⟩) c.now))=some ws) :
 U7 prog 429 [.one (.ow 0 0),.agg [.row lx,.row ly,x,y,.int .i64 id]] [.blk 227 (Hm c (U3 l) r1)] [.oi 0] [.blk 227 (Hm ⟨c.now,ws,c.ev⟩ (U3 (put l ⟨Crv.norm (Crv.mk px py d),id⟩)) (brP (put l ⟨Crv.norm (Crv.mk px py d),id⟩) c.now))]:=by
 have cp:=wF (l:=l) (id:=id) hx hy hd hk (by omega);rw [if_pos he,he] at cp;have cw:=BH (l:=l) (r1:=r1) hc hl hn h;refine Fw func429 rfl ?_;obtain ⟨b,l',rfl,rfl,_⟩:=hd;exact Uh [] [0] [.k cp,.c [0] cw] rfl
theorem Qey {lx ly:Us} {px py:Um} {x y:LV} {d id:Int} {c:Cr} {l l':List Pt} {r1:Us} {ws:List Wt} (hx:IsInts lx px) (hy:IsInts ly py) (hd:Ge x y d) (hk:Cs 4294967294 1073741824 (Crv.mk px py d)) (hll:l.length<=10) (h:has l id=true) (hc:CrOk c)
 (hl':l'=l.set (Rv l id) (Pt.mk (Crv.norm (Crv.mk px py d)) id)) (hs:∀ p∈l',Sc p.c) (hw:Tl c.l c.now (Fx (dL l' c.now))=some ws) :
 U7 prog 430 [.one (.ow 0 0),.agg [.row lx,.row ly,x,y,.int .i64 id]] [.blk 227 (Hm c (U3 l) r1)] [.oi 0] [.blk 227 (Hm ⟨c.now,ws,c.ev⟩ (U3 l') (brP l' c.now))]:=by
 have ct1:=UU (l:=l) hx hy hd hk (by omega) h;rw [<-hl'] at ct1;have cw:=BH (c:=c) (l:=l) (l':=l') (r1:=r1) hc hs (by rw [hl',Xd]; omega) hw;obtain ⟨b,r,rfl,rfl,_⟩:=hd;refine Fw func430 rfl ?_;exact Uh [] [0] [.k ct1,.c [0] cw] rfl
theorem Qex {id:Int} {c:Cr} {l l':List Pt} {r1:Us} {ws:List Wt} (hll:l.length<=10) (h:has l id=true) (hc:CrOk c)
 (hl':l'=l.take (Rv l id)++l.drop (Rv l id+1)) (hs:∀ p∈l',Sc p.c) (hw:Tl c.l c.now (Fx (dL l' c.now))=some ws) :
 U7 prog 428 [.one (.ow 0 0),.oi id] [.blk 227 (Hm c (U3 l) r1)] [.oi 0] [.blk 227 (Hm ⟨c.now,ws,c.ev⟩ (U3 l') (brP l' c.now))]:=by
 have ct1:=UK (l:=l) (id:=id) (by omega) h;rw [<-hl'] at ct1;have cw:=BH (c:=c) (l:=l) (l':=l') (r1:=r1) hc hs (by rw [hl',Qy,Qq,Q8]; omega) hw;refine Fw func428 rfl ?_;exact Uh [] [0] [.k ct1,.c [0] cw] rfl
theorem Qa8 {c:Cr} {r0:Us} {r1:Us}:U7 prog 66 [.one (.ow 0 0)] [.blk 227 (Hm c r0 r1)] [.one (.ow 1 0)] [.blk 227 (Hm c r0 r1),.blk 227 (Hm c r0 r1)]:=by
 refine Fw func66 rfl ?_;exact Uh [] [0,1] [] rfl
theorem lQ {np nd:Int} {M:List Pt} {q:Rat} {s t h p d:Cr} (hq:Qs 128 q):U7 prog 32 [.one (.ow 0 0)] (YH 0 np nd M q s t h p d) [.agg (rl q)] (YH 0 np nd M q s t h p d):=by
 refine Fw func32 rfl ?_;exact Uh [] [0,1,2,3,4,5,6] [.k (Nu (hq.mono (by decide)))] rfl
abbrev en2 (np nd:Int) (M:List Pt) (q:Rat) (s t h p d:Cr) (np' nd':Int) (M':List Pt) (q':Rat) (s' t' h' p' d':Cr):Ut:=[.blk 80 (mD 0 q),tB np nd M,bS s M q,bT t M q,bH h M q,bP p M q,bD d M q,.blk 80 (mD 7 q'),tB np' nd' M',bS s' M' q',bT t' M' q',bH h' M' q',bP p' M' q',bD d' M' q']
theorem xT {np nd:Int} {M:List Pt} {q:Rat} {s t h p d:Cr} (hq:Qs 128 q):U7 prog 13 [.one (.ow 0 0)] (YH 0 np nd M q s t h p d) [.one (.ow 7 0)] (en2 np nd M q s t h p d np nd M q s t h p d):=by
 refine Fw func13 rfl ?_;exact Uh [] [0,1,2,3,4,5,6,13,7,8,9,10,11,12] [.lo,.c [1,7] Qf7,.lo,.c Uv (lQ hq),.lo,.c [2,8] Qe7,.lo,.c [3,9] Qbf,.lo,.c [4,10] Qa5,.lo,.c [5,11] Qa8,.lo,.c [6,12] Qa0] rfl
abbrev anw (S W H P:List Pt) (T:List P3):Ur:=[ids (S.map (·.id)),ids (W.map (·.id)),ids (H.map (·.id)),ids (P.map (·.id)),.row (A5 T)]
theorem Qnd {np nd:Int} {M S W H P:List Pt} {T:List P3} {r2:Us} {q:Rat} {s t h p d:Cr} (hS:S.length<=1000000) (hH:H.length<=1000000) (hT:T.length<=1000) (hW:W=[]\/∃ w,W=[w]) (hP:P=[]\/∃ a b,P=[a,b]) :
 U7 prog 26 [.one (.ow 0 0)] [.blk 80 (mD 0 q),tB np nd M,.blk 220 (Hm s (U3 M) (U3 S)),.blk 223 (Tt t (U3 M) (W.map Fc,r2)),.blk 225 (Hm h (U3 M) (U3 H)),.blk 227 (Hm p (U3 M) (U3 P)),.blk 229 (Hm d (U3 M) (A5 T))]
  [.agg (anw S W H P T)] [.blk 80 (mD 0 q),tB np nd M,.blk 220 (Hm s (U3 M) (U3 S)),.blk 223 (Tt t (U3 M) (W.map Fc,r2)),.blk 225 (Hm h (U3 M) (U3 H)),.blk 227 (Hm p (U3 M) (U3 P)),.blk 229 (Hm d (U3 M) (A5 T))]:=by
 have c1:=Qtn (c:=s) (l:=M) hS;have c2:=Qtc (c:=h) (l:=M) hH;have c3:=pN (c:=d) (r0:=U3 M) hT;rcases hW with rfl | ⟨w,rfl⟩
 ·have c4:=Qfe (c:=t) (r0:=U3 M) (r2:=r2);rcases hP with rfl | ⟨a,b,rfl⟩
  ·have c5:=wU (c:=p) (r0:=U3 M);refine Fw func26 rfl ?_;exact Uh [] [0,1,2,3,4,5,6] [.c [2] c1,.c [4] c2,.c [6] c3,.c [3] c4,.f rfl,.c [5] c5,.f rfl] rfl
  ·have c5:=lU (c:=p) (r0:=U3 M) (a:=a) (b:=b);refine Fw func26 rfl ?_;exact Uh [] [0,1,2,3,4,5,6] [.c [2] c1,.c [4] c2,.c [6] c3,.c [3] c4,.f rfl,.c [5] c5,.t rfl] rfl
 ·have c4:=Qng (c:=t) (r0:=U3 M) (r2:=r2) (w:=w);rcases hP with rfl | ⟨a,b,rfl⟩
  ·have c5:=wU (c:=p) (r0:=U3 M);refine Fw func26 rfl ?_;exact Uh [] [0,1,2,3,4,5,6] [.c [2] c1,.c [4] c2,.c [6] c3,.c [3] c4,.t rfl,.c [5] c5,.f rfl] rfl
  ·have c5:=lU (c:=p) (r0:=U3 M) (a:=a) (b:=b);refine Fw func26 rfl ?_;exact Uh [] [0,1,2,3,4,5,6] [.c [2] c1,.c [4] c2,.c [6] c3,.c [3] c4,.t rfl,.c [5] c5,.t rfl] rfl
abbrev xK (M:List Pt) (q:Rat):Ur:=anw (Tu (tq q) M) (Ni (Fq (tq q)) M).1 (Pa M (tq q)) (Om (Fq (tq q)) M) (LY (Fq (tq q)) M)
theorem kZ (sg:Um->Int) (M:List Pt):(Ni sg M).1=[]\/∃ w,(Ni sg M).1=[w]:=by
 by_cases h:0<M.length
 ·obtain ⟨a,ha,_⟩:=Nj sg M.length M (Ql _) h;exact .inr ⟨a,ha⟩
 ·obtain rfl:=Qj (by omega:M.length=0);exact .inl rfl
theorem LH (sg:Um->Int) (M:List Pt):Om sg M=[]\/∃ a b,Om sg M=[a,b]:=by
 match M with
 | []=>exact .inl rfl
 | [_]=>exact .inl rfl
 | _::_::_=>exact .inr ⟨_,_,rfl⟩
theorem HH {np nd:Int} {M:List Pt} {q:Rat} {s t h p d:Cr} (hM:M.length<=6):U7 prog 26 [.one (.ow 0 0)] (YH 0 np nd M q s t h p d) [.agg (xK M q)] (YH 0 np nd M q s t h p d) :=
 Qnd (by rw [Mg]; omega) (by have:=I4 M (tq q); omega) (by have:=RL (Fq (tq q)) hM; omega) (kZ _ _) (LH _ _)
theorem Qa9 {np nd:Int} {M:List Pt} {q r:Rat} {s t h p d s' t' h' p' d':Cr} {b1 b2:Bool} {r1 r2:Us} (hq:Qs 128 q) (hM:M.length<=6)
 (ha:U7 prog 17 [.one (.ow 0 0),.agg [.bool b1,.row r1,.bool b2,.row r2]] (YH 0 np nd M q s t h p d) [.oi 0] (YH 0 np nd M r s' t' h' p' d')) :
 U7 prog 20 [.one (.ow 0 0),.agg [.bool b1,.row r1,.bool b2,.row r2]] (YH 0 np nd M q s t h p d) [.agg (xK M r),.oi 0] (YH 0 np nd M q s t h p d):=by
 refine Fw func20 rfl ?_;exact Uh [] [0,1,2,3,4,5,6] [.c Uz (xT hq),.c Uy ha,.f rfl,.c Uy (HH hM)] rfl
abbrev Qsw:Ur:=[.row [],.row [],.row [],.row [],.row []]
theorem Qe2 {np nd:Int} {M:List Pt} {q:Rat} {s t h p d:Cr} {b1 b2:Bool} {r1 r2:Us} {e:Int} (he:e≠0) (hq:Qs 128 q)
 (ha:U7 prog 17 [.one (.ow 0 0),.agg [.bool b1,.row r1,.bool b2,.row r2]] (YH 0 np nd M q s t h p d) [.oi e] (YH 0 np nd M q s t h p d)) :
 U7 prog 20 [.one (.ow 0 0),.agg [.bool b1,.row r1,.bool b2,.row r2]] (YH 0 np nd M q s t h p d) [.agg Qsw,.oi e] (YH 0 np nd M q s t h p d):=by
 refine Fw func20 rfl ?_;exact Uh [] [0,1,2,3,4,5,6] [.c Uz (xT hq),.c Uy ha,.t (by simpa using he)] rfl
abbrev Qkf (k i:Nat) (e:Int):LV:=match Nat.blt k i with
 | true=>.int .i64 e
 | false=>.int .i64 0
theorem wJ {np nd:Int} {M:List Pt} {q:Rat} {s t h p d:Cr}:U7 prog 22 [.one (.ow 0 0)] (YH 0 np nd M q s t h p d) [.agg [.int .i64 s.ev,.int .i64 t.ev,.int .i64 h.ev,.int .i64 p.ev,.int .i64 d.ev]] (YH 0 np nd M q s t h p d):=by
 refine Fw func22 rfl ?_;refine Ud [.c Uv wH] rfl ?_;refine Ui (S:=Nat) 9 (λL1 i=>(8,.v (.oi i))::L1) (λi=>[.blk 80 (mD 0 q),tB np nd M,bS s M q,bT t M q,bH h M q,bP p M q,bD d M q,.blk 63 [.int .i64 0,.int .i64 0,.int .i64 0,.int .i64 0,.int .i64 0],.blk 63 [Qkf 0 i s.ev,Qkf 1 i t.ev,Qkf 2 i h.ev,Qkf 3 i p.ev,Qkf 4 i d.ev]]) (λi=>5-i) (λi=>i<=5) 0 (by decide) rfl rfl λi hi=>?_
 rcases (show i=0\/i=1\/i=2\/i=3\/i=4\/i=5 by omega) with rfl | rfl | rfl | rfl | rfl | rfl
 ·exact go tt [.t rfl,.i 0,.c [2] YX,.i 0] rfl (by simp [U4]) (rd 1 (by omega) (by omega) rfl)
 ·exact go tt [.t rfl,.i 1,.c [3] Qbe,.i 1] rfl (by simp [U4]) (rd 2 (by omega) (by omega) rfl)
 ·exact go tt [.t rfl,.i 2,.c [4] YX,.i 2] rfl (by simp [U4]) (rd 3 (by omega) (by omega) rfl)
 ·exact go tt [.t rfl,.i 3,.c [5] YX,.i 3] rfl (by simp [U4]) (rd 4 (by omega) (by omega) rfl)
 ·exact go tt [.t rfl,.i 4,.c [6] YX,.i 4] rfl (by simp [U4]) (rd 5 (by omega) (by omega) rfl)
 ·exact Uh [] [0,1,2,3,4,5,6] [.f rfl] rfl
theorem Qrc:∀ p∈([]:List Pt),Sc p.c:=λ_ h=>by cases h
theorem Qlr:∀ x∈([]:List Ct),Cp x.p:=λ_ h=>by cases h
theorem sS:Uj 193 [.one (.row [])] [.agg [.row []],.oi 0]:=by
 refine Fw func193 rfl ?_;refine Ud [.f rfl] rfl ?_;refine nlb 1 rfl rfl rfl ?_;refine Ui (S:=Unit) 2 (λL1 _=>(14,.v (.oi 0))::L1) (λ_=>[.blk 218 [.nils],.blk 218 [.row []]]) (λ_=>0) (λ_=>True) () trivial rfl rfl λ_ _=>?_
 exact Uf [.f rfl] rfl
abbrev zT (r0 r1 r2:LV):OB:=.blk 223 [.bool false,.nils,.bool false,.nils,.bool false,.nils,.bool false,.nils,.bool false,.nils,.nils,.int .i64 0,r0,r1,r2]
theorem Qra {a:Tm}:U7 prog 254 [.one (.ow 0 0),.agg (ta a),.one (.row [])] [zT (.row []) .nils (.orow 1 10 none),.row false 323 10 []] [.one (.row [])] [zT (.row []) .nils (.orow 1 10 none),.row false 323 10 []]:=by
 refine Fw func254 rfl ?_;exact Uh [] [0,1] [.t rfl] rfl
theorem Qlp {a:Tm}:U7 prog 196 [.one (.ow 0 0),.agg (ta a)] [zT (.row []) .nils .nils] [.one (.row [])] [zT (.row []) (.row []) (.row [])]:=by
 refine Fw func196 rfl ?_;refine Ud [] rfl ?_;refine oz 0 14 323 10 rfl rfl ?_;refine Ud [.k (Ip (l:=[])),.c [0,2] (Qra (a:=a)),.o 5 99 7] rfl ?_;refine Ui (S:=Unit) 4 (λL1 _=>(29,.v (.oi 0))::(5,.v (.one (.orow 3 7 none)))::L1) (λ_=>[zT (.row []) (.row []) (.orow 2 10 none),.blk 105 (ta a),.row false 323 10 [],.row false 99 7 []]) (λ_=>0) (λ_=>True) () trivial rfl rfl λ_ _=>?_
 exact Uh [2,3] [0] [.f rfl] rfl
theorem Qlq:Uj 257 [.agg [.row []]] [.one (.row [])]:=pO (l:=[]) (λ_ h=>by cases h) (by decide)
theorem Qss {a:Tm} (ha:Va a):Uj 251 [.agg (ta a),.one (.row [])] [.one (.row [])]:=wG (l:=[]) Qrc (by decide) ha
theorem Qln {a:Tm} (ha:Va a):U7 prog 197 [.one (.ow 0 0),.agg (ta a)] [.blk 225 (mF (.row []) .nils)] [.one (.row [])] [.blk 225 (mF (.row []) (.row []))]:=by
 have cn:Uj 256 [.agg (ta a),.one (.row [])] [.one (.row [])]:=lD (R:=[]) Qrc (by decide) ha;have cc:U7 prog 253 [.agg (ta a),.one (.row [])] [] [.one (.orow 0 7 none)] [.row false 99 7 []]:=TO (l:=[]) Qrc (by decide) ha;refine Fw func197 rfl ?_;exact Uh [2] [0] [.k Qlq,.k (Qss ha),.k cn,.k (Ip (l:=[])),.k (Qss ha),.c [2] cc,.t rfl] rfl
theorem Qlo {a:Tm}:U7 prog 198 [.one (.ow 0 0),.agg (ta a)] [.blk 227 (mF (.row []) .nils)] [.one (.row [])] [.blk 227 (mF (.row []) (.row []))]:=by
 refine Fw func198 rfl ?_;refine Ud [.k (Ip (l:=[]))] rfl ?_;refine nlc 0 13 rfl rfl rfl ?_;exact Uh [] [0] [.t rfl] rfl
theorem Qlm {a:Tm}:U7 prog 199 [.one (.ow 0 0),.agg (ta a)] [.blk 229 (mF (.row []) .nils)] [.one (.row [])] [.blk 229 (mF (.row []) (.row []))]:=by
 refine Fw func199 rfl ?_;refine Ud [.k Qlq,.o 6 99 7] rfl ?_;refine Ui (S:=Unit) 4 (λL1 _=>(42,.v (.oi 0))::(6,.v (.one (.orow 2 7 none)))::L1) (λ_=>[.blk 229 (mF (.row []) .nils),.blk 105 (ta a),.row false 99 7 [],.mpb (Ay (ZP (Fq a) []))]) (λ_=>0) (λ_=>True) () trivial rfl rfl λ_ _=>?_
 refine Ud [.f rfl] rfl ?_;refine Ui (S:=Unit) 5 (λL1 _=>(97,.v (.oi 0))::(6,.v (.one (.orow 2 7 none)))::L1) (λ_=>[.blk 229 (mF (.row []) .nils),.blk 105 (ta a),.row false 99 7 [],.mpb (Ay (ZP (Fq a) [])),.mpb (Oc (Ay (ZP (Fq a) [])) (VP (Fq a) []))]) (λ_=>0) (λ_=>True) () trivial rfl rfl λ_ _=>?_
 refine Ud [.f rfl] rfl ?_;refine ozM 0 13 84 3 rfl rfl ?_;refine Ui (S:=Unit) 6 (λL1 _=>(174,.v (.oi 0))::L1) (λ_=>[.blk 229 [.bool false,.nils,.bool false,.nils,.bool false,.nils,.bool false,.nils,.bool false,.nils,.nils,.int .i64 0,.row [],.orow 5 3 none],.blk 105 (ta a),.row false 99 7 [],.mpb (Ay (ZP (Fq a) [])),.mpb (Oc (Ay (ZP (Fq a) [])) (VP (Fq a) [])),.row false 84 3 []]) (λ_=>0) (λ_=>True) () trivial rfl rfl λ_ _=>?_
 exact Uh [2,5] [0] [.f rfl] rfl
section
variable {x y x' y':LV} {n d:Int} (h1:Ge x y n) (h2:Ge x' y' d) (bn:Fe n<=4294967295) (bd:Fe d<=4294967295) (ht:Qs 1640000 (Gf n d))
include h1 h2 bn bd ht
theorem Qq9:U7 prog 123 [.agg [x,y,x',y'],.one (.row [])] [] [.one (.ow 0 0),.oi 0] [.blk 220 (Hm ⟨tq (Gf n d),[],0⟩ [] [])]:=by
 have co:=VD h1 h2 bn bd (ht.mono (by decide));have cb:U7 prog 195 [.one (.ow 0 0),.agg (ta (tq (Gf n d)))] [.blk 220 (mF (.row []) .nils)] [.one (.row [])] [.blk 220 (mF (.row []) (.row []))]:=Qbb (l:=[]) Qrc (by decide) (IK ht);have cg:=YQ (T:=220) (r0:=[]) (r1:=[]) (IK ht) Qlr (by decide);obtain ⟨b,l1,rfl,rfl,_⟩:=h1;obtain ⟨b',l2,rfl,rfl,_⟩:=h2;refine Fw func123 rfl ?_;exact Uh [] [2] [.k sS,.f rfl,.k co,.c [2] cb,.c [2] cg] rfl
theorem Qrb:U7 prog 124 [.agg [x,y,x',y'],.one (.row [])] [] [.one (.ow 0 0),.oi 0] [.blk 223 (Tt ⟨tq (Gf n d),[],0⟩ [] ([],[]))]:=by
 have co:=VD h1 h2 bn bd (ht.mono (by decide));have cg:=Qbc (T:=223) (r0:=[]) (r1:=([],[])) (IK ht) Qlr (by decide);obtain ⟨b,l1,rfl,rfl,_⟩:=h1;obtain ⟨b',l2,rfl,rfl,_⟩:=h2;refine Fw func124 rfl ?_;exact Uh [] [2] [.k sS,.f rfl,.k co,.c [2] (Qlp (a:=tq (Gf n d))),.c [2] cg] rfl
theorem Qq7:U7 prog 125 [.agg [x,y,x',y'],.one (.row [])] [] [.one (.ow 0 0),.oi 0] [.blk 225 (Hm ⟨tq (Gf n d),[],0⟩ [] [])]:=by
 have co:=VD h1 h2 bn bd (ht.mono (by decide));have cg:=YQ (T:=225) (r0:=[]) (r1:=[]) (IK ht) Qlr (by decide);obtain ⟨b,l1,rfl,rfl,_⟩:=h1;obtain ⟨b',l2,rfl,rfl,_⟩:=h2;refine Fw func125 rfl ?_;exact Uh [] [2] [.k sS,.f rfl,.k co,.c [2] (Qln (IK ht)),.c [2] cg] rfl
theorem Qq8:U7 prog 126 [.agg [x,y,x',y'],.one (.row [])] [] [.one (.ow 0 0),.oi 0] [.blk 227 (Hm ⟨tq (Gf n d),[],0⟩ [] [])]:=by
 have co:=VD h1 h2 bn bd (ht.mono (by decide));have cg:=YQ (T:=227) (r0:=[]) (r1:=[]) (IK ht) Qlr (by decide);obtain ⟨b,l1,rfl,rfl,_⟩:=h1;obtain ⟨b',l2,rfl,rfl,_⟩:=h2;refine Fw func126 rfl ?_;exact Uh [] [2] [.k sS,.f rfl,.k co,.c [2] (Qlo (a:=tq (Gf n d))),.c [2] cg] rfl
theorem Qq6:U7 prog 127 [.agg [x,y,x',y'],.one (.row [])] [] [.one (.ow 0 0),.oi 0] [.blk 229 (Hm ⟨tq (Gf n d),[],0⟩ [] [])]:=by
 have co:=VD h1 h2 bn bd (ht.mono (by decide));have cg:=YQ (T:=229) (r0:=[]) (r1:=[]) (IK ht) Qlr (by decide);obtain ⟨b,l1,rfl,rfl,_⟩:=h1;obtain ⟨b',l2,rfl,rfl,_⟩:=h2;refine Fw func127 rfl ?_;exact Uh [] [2] [.k sS,.f rfl,.k co,.c [2] (Qlm (a:=tq (Gf n d))),.c [2] cg] rfl
end
end Orr
namespace Orr
open Go Go.Proofs Tryz Orq
set_option maxRecDepth 10000
theorem Qt1 {np nd:Int} (h1:1<=np/\np<=6) (h2:0<=nd/\nd<=2):U7 prog 121 [.oi np,.oi nd] [] [.one (.ow 0 0),.oi 0] [.blk 159 [.int .i64 np,.int .i64 nd,.nils]]:=by
 refine Fw func121 rfl ?_;exact Uh [] [0] [.F,.f (by simp; omega),.f (by simp; omega),.f (by simp; omega)] rfl
theorem Qta {np nd:Int} (h1:1<=np/\np<=6) (h2:0<=nd/\nd<=2):U7 prog 54 [.oi np,.oi nd] [] [.one (.ow 0 0),.oi 0] (YH 0 np nd [] 0 (Qmh [] (tq 0)) (Qxf [] (tq 0)) (Qxd [] (tq 0)) (Qxe [] (tq 0)) (Qxc [] (tq 0))):=by
 have ez:Gf (0:Rat).num ((0:Rat).den:Int)=0:=by decide
 have hq:Qs 1640000 (Gf (0:Rat).num ((0:Rat).den:Int)):=by rw [ez]; exact ⟨by decide,by decide⟩
 have i1:=U5 (0:Rat).num;have i2:=U5 ((0:Rat).den:Int);have c1:=Qq9 i1 i2 (by decide) (by decide) hq;have c2:=Qrb i1 i2 (by decide) (by decide) hq;have c3:=Qq7 i1 i2 (by decide) (by decide) hq;have c4:=Qq8 i1 i2 (by decide) (by decide) hq;have c5:=Qq6 i1 i2 (by decide) (by decide) hq;rw [ez] at c1 c2 c3 c4 c5;have ci:=Qt0 (n:=0) (by decide);rw [show ((0:Int):Rat)=0 from rfl,Li] at ci;refine Fw func54 rfl ?_;refine Ud [.c [0] (Qt1 h1 h2),.f rfl] rfl ?_;refine nlc 0 2 rfl rfl rfl ?_;exact Uh [] [1,0,2,3,4,5,6] [.k ci,.c [2] c1,.c [3] c2,.c [4] c3,.c [5] c4,.c [6] c5] rfl
theorem UF {l:Um} (hl:l.length<=1000000):Uj 76 [.one (ids l),.one (ids l)] [.one (.bool true)]:=by
 have hll:(l.map λ(x:Int)=>[LV.int .i64 x]).length=l.length:=by simp
 refine Fw func76 rfl ?_;refine Ud [.f (by simp)] rfl ?_;refine Ui (S:=Nat) 0 (λL1 i=>(14,.v (.oi i))::L1) (λ_=>[]) (λi=>l.length-i) (λi=>i<=l.length) 0 (Qh _) rfl rfl λi hi=>?_
 by_cases h:i<l.length
 ·have hx:=G6 (f:=λ(x:Int)=>[LV.int .i64 x]) (Qe h);refine Ue [.t (by simp; omega),.x hx,.x hx,.f (by simp)] rfl ?_;exact rd (i+1) (by omega) h rfl
 ·exact Uf [.f (by simp; omega)] rfl
theorem Qfl {l:List P3} (hl:l.length<=1000000):Uj 77 [.one (.row (A5 l)),.one (.row (A5 l))] [.one (.bool true)]:=by
 have hll:(A5 l).length=l.length:=by simp [A5]
 refine Fw func77 rfl ?_;refine Ud [.f (by simp)] rfl ?_;refine Ui (S:=Nat) 0 (λL1 i=>(14,.v (.oi i))::L1) (λ_=>[]) (λi=>l.length-i) (λi=>i<=l.length) 0 (Qh _) rfl rfl λi hi=>?_
 by_cases h:i<l.length
 ·have hx:=G6 (f:=trL) (Qe h);refine Ue [.t (by simp; omega),.x hx,.x hx,.f (by simp)] rfl ?_;exact rd (i+1) (by omega) h rfl
 ·exact Uf [.f (by simp; omega)] rfl
theorem Qmp {np nd np' nd':Int} {M:List Pt} {q:Rat} {s t h p d s' t' h' p' d':Cr} (hM:M.length≤6) (hok:∀ x∈M,Qaq 4294967294 1073741824 x) (hq:Qs 128 q):U7 prog 21 [.one (.ow 0 0),.one (.ow 7 0)] (en2 np nd M q s t h p d np' nd' M q s' t' h' p' d') [.one (.bool true)] (en2 np nd M q s t h p d np' nd' M q s' t' h' p' d'):=by
 have ca:=Qf6 (np:=np) (nd:=nd) hok (by omega);have ca':=Qf6 (np:=np') (nd:=nd') hok (by omega);have cc:=Ce (a:=q) (b:=q) (hq.mono (by decide)) (hq.mono (by decide));have e0:He q q=0:=by rcases M6 q q with ⟨e,h⟩ | ⟨e,h⟩ | ⟨e,h⟩ <;> grind
 rw [e0] at cc;have hll:(M.map Fc).length=M.length:=by simp
 have l1:(Tu (tq q) M).length<=6:=by rw [Mg]; exact hM
 have l3:=I4 M (tq q);have l5:=RL (Fq (tq q)) hM;have s1:=UF (l:=(Tu (tq q) M).map (·.id)) (by rw [Q7]; omega);have s2:=UF (l:=(Ni (Fq (tq q)) M).1.map (·.id)) (by rw [Q7]; rcases kZ (Fq (tq q)) M with e | ⟨w,e⟩ <;> rw [e] <;> simp);have s3:=UF (l:=(Pa M (tq q)).map (·.id)) (by rw [Q7]; omega);have s4:=UF (l:=(Om (Fq (tq q)) M).map (·.id)) (by rw [Q7]; rcases LH (Fq (tq q)) M with e | ⟨a,b,e⟩ <;> rw [e] <;> simp);have s5:=Qfl (l:=LY (Fq (tq q)) M) (by omega);refine Fw func21 rfl ?_;refine Ud [.lo,.c [1] ca,.lo,.c [8] ca',.k cc,.g 31 false rfl,.f (by simp)] rfl ?_;refine Ui (S:=Nat) 14 (λL1 i=>(40,.v (.oi i))::L1) (λ_=>en2 np nd M q s t h p d np' nd' M q s' t' h' p' d') (λi=>M.length-i) (λi=>i<=M.length) 0 (Qh _) rfl rfl λi hi=>?_
 by_cases h:i<M.length
 ·obtain ⟨x,hx⟩:=gxE (l:=M) (i:=i) h;have hxo:=hok x (Qc hx);have cs:=lR hxo.1 hxo.1 hxo.2 hxo.2;rw [show Ec x.c x.c=true by simp [Ec]] at cs;refine Ue [.t (by simp; omega),.x (Ti hx),.x (Ti hx),.g 53 false (by simp),.x (Ti hx),.k cs,.f rfl] rfl ?_;exact rd (i+1) (by omega) h rfl
 ·exact Uh [] [0,1,2,3,4,5,6,7,8,9,10,11,12,13] [.f (by simp; omega),.c Uv (HH hM),.c [7,8,9,10,11,12,13] (HH hM),.k s1,.t rfl,.k s2,.t rfl,.k s3,.t rfl,.k s4,.t rfl,.k s5] rfl
def Em.ins (A:Em) (p:Pt):Em×Int:=(if No A.np A.nd A.M p=0 then { A with M:=put A.M p } else A,No A.np A.nd A.M p)
def Em.rep (A:Em) (p:Pt):Em×Int:=(if M5 A.nd A.M p=0 then { A with M:=A.M.set (Rv A.M p.id) p } else A,M5 A.nd A.M p)
def Em.del (A:Em) (id:Int):Em×Int:=if has A.M id=true then ({ A with M:=A.M.take (Rv A.M id)++A.M.drop (Rv A.M id+1) },0) else (A,5)
open Classical in
noncomputable def Em.adv (A:Em) (t:Rat):Em×Int:=if Qs 128 t then (if t<A.q then (A,8) else ({ A with q:=t,s:=A.s+(cnt (JA A.M) A.q t:Nat),t:=A.t+(cnt (xG A.M) A.q t:Nat),h:=A.h+(cnt (AB A.M) A.q t:Nat),p:=A.p+(cnt (dL A.M) A.q t:Nat),d:=A.d+(cnt (wQ A.M) A.q t:Nat) },0)) else (A,1)
theorem Qsj {np nd:Int} {k:Crv} (hn:ZB k) (hnd:nd<=2) (h1:ZX k=true) (h2:¬nd<PT k):Sc k:=by
 obtain ⟨s1,s2,s3⟩:=EC.1 h1;unfold PT at h2;exact ⟨hn,s1,s2,s3,by omega,by omega⟩
theorem Qip {p:Pt} (h:XL p=true):(0<=p.id/\p.id<=1048576)/\ZX p.c=true:=by
 simp only [XL,Zn,decide_eq_true_iff] at h;exact ⟨⟨h.1,h.2.1⟩,h.2.2⟩
theorem dQ {M:List Pt} (hs:Nq M) {p:Pt} (h:has M p.id=true):Nq (M.set (Rv M p.id) p):=by
 have hl:=YD h;have hid:∀ (x:Pt),M[Rv M p.id]? = some x->x.id=p.id:=λx hx=>by
  simp only [has,hx] at h; exact of_decide_eq_true h
 unfold Nq;rw [Yc];intro i j hi hj hij;rw [Xd] at hi hj;have hx:=Qe hi;have hy:=Qe hj;have hlt:=Qyw hs hij hx hy;rw [List.getElem_set,List.getElem_set]
 split
 ·rename_i e; subst e;rw [if_neg (by omega)];have:=hid _ hx;omega
 ·split
  ·rename_i e; subst e;have:=hid _ hy;omega
  ·exact hlt
theorem XE {M:List Pt} {i:Nat} {p x:Pt} (h:x∈M.set i p):x=p\/x∈M:=by
 rcases Jp h with h | h
 ·exact .inr h
 ·exact .inl h
theorem LJ {M:List Pt} {i:Nat} {x:Pt} (h:x∈M.take i++M.drop (i+1)):x∈M:=by
 rcases Qr.1 h with h | h
 ·exact Qn h
 ·exact Qz h
theorem tR {M:List Pt} (hs:Nq M) (i:Nat):Nq (M.take i++M.drop (i+1)):=by
 have h:=hs;unfold Nq at h ⊢;rw [<-Zh i M,Xv] at h;refine Xv.2 ⟨h.1,?_,λx hx y hy=>h.2.2 x hx y ?_⟩
 ·have:M.drop (i+1)=(M.drop i).drop 1:=by rw [Jw]
  rw [this]; exact h.2.1.sublist (List.drop_sublist _ _)
 ·have:M.drop (i+1)=(M.drop i).drop 1:=by rw [Jw]
  rw [this] at hy; exact Qz hy
abbrev dS (f:Nat) (args:Uu) (E:Es) (res:Uu) (E':Es):Prop:=U7 prog f args (enB 0 E) res (enB 0 E')
theorem CL {E:Es} {b:Int} (h:EOk b E) {lx ly:Us} {px py:Um} {x y:LV} {d id:Int} (hx:IsInts lx px) (hy:IsInts ly py) (hd:Ge x y d) (hk:Cs 4294967294 1073741824 (Crv.mk px py d)) :
 ∃ E',EOk b E'/\E'.m=(E.m.ins ⟨Crv.norm (Crv.mk px py d),id⟩).1/\dS 58 [.one (.ow 0 0),.oi id,.agg [.row lx,.row ly,x,y]] E [.one (.int .i64 (E.m.ins ⟨Crv.norm (Crv.mk px py d),id⟩).2)] E':=by
 have hM:=h.m.m;have hl6:=hM.ln;have ct:=Qt2 (np:=E.np) (nd:=E.nd) (l:=E.M) (id:=id) hx hy hd hk (by omega);obtain ⟨p,hp⟩:=nmE (Pt.mk (Crv.norm (Crv.mk px py d)) id);have hpn:ZB p.c:=by rw [hp]; exact Crv.nml _
 by_cases e:No E.np E.nd E.M p=0
 ·have e0:XL p=true/\has E.M p.id=false/\¬E.nd<PT p.c/\¬E.np<=(E.M.length:Int):=by
   unfold No at e;by_cases a1:XL p=false
   ·rw [if_pos a1] at e; cases e
   rw [if_neg a1] at e;by_cases a2:has E.M p.id=true
   ·rw [if_pos a2] at e; cases e
   rw [if_neg a2] at e;by_cases a3:E.nd<PT p.c
   ·rw [if_pos a3] at e; cases e
   rw [if_neg a3] at e;by_cases a4:E.np<=(E.M.length:Int)
   ·rw [if_pos a4] at e; cases e
   exact ⟨by simpa using a1,by simpa using a2,a3,a4⟩
  obtain ⟨f1,f2,f3,f4⟩:=e0;obtain ⟨g1,g2⟩:=Qip f1;have hsc:=Qsj (np:=E.np) hpn h.nd.2 g2 f3;have hpl:(put E.M p).length<=6:=by rw [oH]; have:=h.np.2; omega
  have hM':MOk (put E.M p):=⟨λz hz=>by rcases NX hz with rfl | hz; exact hsc; exact hM.sc z hz,hpl,EH hM.so f2⟩;have hME:MEn E.np E.nd (put E.M p):=⟨hM',by rw [oH]; have:=h.np.2; omega,λz hz=>by rcases NX hz with rfl | hz; omega; exact h.m.deg z hz,λz hz=>by rcases NX hz with rfl | hz; exact g1; exact h.m.id z hz⟩;have hpe:WH E.M p=0:=by unfold WH; rw [if_neg (by rw [f2]; decide),if_neg (by have:=h.np.2; omega)]
  rw [hp] at e hpe hM' hME hpl;rw [e,if_pos rfl] at ct;obtain ⟨w1,l1,a1⟩:=h.s.again okS hM';obtain ⟨w2,l2,a2⟩:=h.t.again okT hM';obtain ⟨w3,l3,a3⟩:=h.h.again okH hM';obtain ⟨w4,l4,a4⟩:=h.p.again okP hM';obtain ⟨w5,l5,a5⟩:=h.d.again okD hM';have c1:=Qto (c:=E.s) (l:=E.M) (r1:=IG E.M (tq E.q)) hx hy hd hk (by omega) hpe h.s.st.inv.ok hM'.sc (by omega) l1;have c2:=Qnf (c:=E.t) (l:=E.M) (r1:=pR E.M (tq E.q)) hx hy hd hk (by omega) hpe h.t.st.inv.ok hM'.sc (by omega) l2;have c3:=Qms (c:=E.h) (l:=E.M) (r1:=brH E.M (tq E.q)) hx hy hd hk (by omega) hpe h.h.st.inv.ok hM'.sc (by omega) l3;have c4:=Qm0 (c:=E.p) (l:=E.M) (r1:=brP E.M (tq E.q)) hx hy hd hk (by omega) hpe h.p.st.inv.ok hM'.sc (by omega) l4;have c5:=Qmo (c:=E.d) (l:=E.M) (r1:=pH E.M (tq E.q)) hx hy hd hk (by omega) hpe h.d.st.inv.ok hM'.sc (by omega) l5;rw [h.s.now] at c1;rw [h.t.now] at c2;rw [h.h.now] at c3;rw [h.p.now] at c4;rw [h.d.now] at c5;obtain ⟨b1,r,rfl,rfl,_⟩:=hd;refine ⟨⟨E.np,E.nd,put E.M ⟨Crv.norm (Crv.mk px py d),id⟩,E.q,⟨tq E.q,w1,E.s.ev⟩,⟨tq E.q,w2,E.t.ev⟩,⟨tq E.q,w3,E.h.ev⟩,⟨tq E.q,w4,E.p.ev⟩,⟨tq E.q,w5,E.d.ev⟩⟩,⟨h.np,h.nd,hME,h.q,a1,a2,a3,a4,a5,h.es,h.et,h.eh,h.ep,h.ed⟩,?_,?_⟩
  ·unfold Em.ins;show _=if No E.np E.nd E.M _=0 then _ else _
   rw [if_pos e]; rfl
  ·have e2:(E.m.ins ⟨Crv.norm (Crv.mk px py d),id⟩).2=0:=e;rw [e2];exact Qem ct c1 c2 c3 c4 c5
 ·rw [hp] at e;rw [if_neg e] at ct;obtain ⟨b1,r,rfl,rfl,_⟩:=hd;refine ⟨E,h,?_,Qa6 e ct⟩;unfold Em.ins;show _=if No E.np E.nd E.M _=0 then _ else _
  rw [if_neg e]
theorem uP {E:Es} {b:Int} (h:EOk b E) {lx ly:Us} {px py:Um} {x y:LV} {d id:Int} (hx:IsInts lx px) (hy:IsInts ly py) (hd:Ge x y d) (hk:Cs 4294967294 1073741824 (Crv.mk px py d)) :
 ∃ E',EOk b E'/\E'.m=(E.m.rep ⟨Crv.norm (Crv.mk px py d),id⟩).1/\dS 49 [.one (.ow 0 0),.oi id,.agg [.row lx,.row ly,x,y]] E [.one (.int .i64 (E.m.rep ⟨Crv.norm (Crv.mk px py d),id⟩).2)] E':=by
 have hM:=h.m.m;have hl6:=hM.ln;have ct:=Qnx (np:=E.np) (nd:=E.nd) (l:=E.M) (id:=id) hx hy hd hk (by omega);obtain ⟨p,hp⟩:=nmE (Pt.mk (Crv.norm (Crv.mk px py d)) id);have hpn:ZB p.c:=by rw [hp]; exact Crv.nml _
 have hpi:p.id=id:=by rw [hp]
 by_cases e:M5 E.nd E.M p=0
 ·have e0:XL p=true/\has E.M p.id=true/\¬E.nd<PT p.c:=by
   unfold M5 at e;by_cases a1:XL p=false
   ·rw [if_pos a1] at e; cases e
   rw [if_neg a1] at e;by_cases a2:has E.M p.id=false
   ·rw [if_pos a2] at e; cases e
   rw [if_neg a2] at e;by_cases a3:E.nd<PT p.c
   ·rw [if_pos a3] at e; cases e
   exact ⟨by simpa using a1,by simpa using a2,a3⟩
  obtain ⟨f1,f2,f3⟩:=e0;obtain ⟨g1,g2⟩:=Qip f1;have hsc:=Qsj (np:=E.np) hpn h.nd.2 g2 f3;have hM':MOk (E.M.set (Rv E.M p.id) p):=⟨λz hz=>by rcases XE hz with rfl | hz; exact hsc; exact hM.sc z hz,by rw [Xd]; exact hl6,dQ hM.so f2⟩;have hME:MEn E.np E.nd (E.M.set (Rv E.M p.id) p):=⟨hM',by rw [Xd]; exact h.m.len,λz hz=>by rcases XE hz with rfl | hz; omega; exact h.m.deg z hz,λz hz=>by rcases XE hz with rfl | hz; exact g1; exact h.m.id z hz⟩;rw [hpi] at f2 hM' hME;rw [hp] at e hM' hME;rw [e,if_pos rfl] at ct;obtain ⟨w1,l1,a1⟩:=h.s.again okS hM';obtain ⟨w2,l2,a2⟩:=h.t.again okT hM';obtain ⟨w3,l3,a3⟩:=h.h.again okH hM';obtain ⟨w4,l4,a4⟩:=h.p.again okP hM';obtain ⟨w5,l5,a5⟩:=h.d.again okD hM';have c1:=Qm5 (c:=E.s) (l:=E.M) (r1:=IG E.M (tq E.q)) hx hy hd hk (by omega) f2 h.s.st.inv.ok rfl hM'.sc l1;have c2:=Qfd (c:=E.t) (l:=E.M) (r1:=pR E.M (tq E.q)) hx hy hd hk (by omega) f2 h.t.st.inv.ok rfl hM'.sc l2;have c3:=Qek (c:=E.h) (l:=E.M) (r1:=brH E.M (tq E.q)) hx hy hd hk (by omega) f2 h.h.st.inv.ok rfl hM'.sc l3;have c4:=Qey (c:=E.p) (l:=E.M) (r1:=brP E.M (tq E.q)) hx hy hd hk (by omega) f2 h.p.st.inv.ok rfl hM'.sc l4;have c5:=Qed (c:=E.d) (l:=E.M) (r1:=pH E.M (tq E.q)) hx hy hd hk (by omega) f2 h.d.st.inv.ok rfl hM'.sc l5;rw [h.s.now] at c1;rw [h.t.now] at c2;rw [h.h.now] at c3;rw [h.p.now] at c4;rw [h.d.now] at c5;obtain ⟨b1,r,rfl,rfl,_⟩:=hd;refine ⟨⟨E.np,E.nd,E.M.set (Rv E.M id) ⟨Crv.norm (Crv.mk px py d),id⟩,E.q,⟨tq E.q,w1,E.s.ev⟩,⟨tq E.q,w2,E.t.ev⟩,⟨tq E.q,w3,E.h.ev⟩,⟨tq E.q,w4,E.p.ev⟩,⟨tq E.q,w5,E.d.ev⟩⟩,⟨h.np,h.nd,hME,h.q,a1,a2,a3,a4,a5,h.es,h.et,h.eh,h.ep,h.ed⟩,?_,?_⟩
  ·unfold Em.rep;show _=if M5 E.nd E.M _=0 then _ else _
   rw [if_pos e]; rfl
  ·have e2:(E.m.rep ⟨Crv.norm (Crv.mk px py d),id⟩).2=0:=e;rw [e2];exact Qe4 ct c1 c2 c3 c4 c5
 ·rw [hp] at e;rw [if_neg e] at ct;obtain ⟨b1,r,rfl,rfl,_⟩:=hd;refine ⟨E,h,?_,Qba e ct⟩;unfold Em.rep;show _=if M5 E.nd E.M _=0 then _ else _
  rw [if_neg e]
theorem Qg4 {E:Es} {b id:Int} (h:EOk b E) :
 ∃ E',EOk b E'/\E'.m=(E.m.del id).1/\dS 59 [.one (.ow 0 0),.oi id] E [.one (.int .i64 (E.m.del id).2)] E':=by
 have hM:=h.m.m;have hl6:=hM.ln;by_cases f2:has E.M id=true
 ·have ct:=Qnw (np:=E.np) (nd:=E.nd) (l:=E.M) (by omega) f2;have hpl:=YD f2;have hgl:=Qhw hpl;have hM':MOk (E.M.take (Rv E.M id)++E.M.drop (Rv E.M id+1)):=⟨λz hz=>hM.sc z (LJ hz),by omega,tR hM.so _⟩;have hME:MEn E.np E.nd (E.M.take (Rv E.M id)++E.M.drop (Rv E.M id+1)):=⟨hM',by have:=h.m.len; omega,λz hz=>h.m.deg z (LJ hz),λz hz=>h.m.id z (LJ hz)⟩;obtain ⟨w1,l1,a1⟩:=h.s.again okS hM';obtain ⟨w2,l2,a2⟩:=h.t.again okT hM';obtain ⟨w3,l3,a3⟩:=h.h.again okH hM';obtain ⟨w4,l4,a4⟩:=h.p.again okP hM';obtain ⟨w5,l5,a5⟩:=h.d.again okD hM';have c1:=Qm3 (c:=E.s) (l:=E.M) (r1:=IG E.M (tq E.q)) (by omega) f2 h.s.st.inv.ok rfl hM'.sc l1;have c2:=Qfc (c:=E.t) (l:=E.M) (r1:=pR E.M (tq E.q)) (by omega) f2 h.t.st.inv.ok rfl hM'.sc l2;have c3:=Qej (c:=E.h) (l:=E.M) (r1:=brH E.M (tq E.q)) (by omega) f2 h.h.st.inv.ok rfl hM'.sc l3;have c4:=Qex (c:=E.p) (l:=E.M) (r1:=brP E.M (tq E.q)) (by omega) f2 h.p.st.inv.ok rfl hM'.sc l4;have c5:=Qec (c:=E.d) (l:=E.M) (r1:=pH E.M (tq E.q)) (by omega) f2 h.d.st.inv.ok rfl hM'.sc l5;rw [h.s.now] at c1;rw [h.t.now] at c2;rw [h.h.now] at c3;rw [h.p.now] at c4;rw [h.d.now] at c5;have e2:E.m.del id=({ E.m with M:=E.M.take (Rv E.M id)++E.M.drop (Rv E.M id+1) },0):=if_pos f2;rw [e2];exact ⟨⟨E.np,E.nd,E.M.take (Rv E.M id)++E.M.drop (Rv E.M id+1),E.q,⟨tq E.q,w1,E.s.ev⟩,⟨tq E.q,w2,E.t.ev⟩,⟨tq E.q,w3,E.h.ev⟩,⟨tq E.q,w4,E.p.ev⟩,⟨tq E.q,w5,E.d.ev⟩⟩,⟨h.np,h.nd,hME,h.q,a1,a2,a3,a4,a5,h.es,h.et,h.eh,h.ep,h.ed⟩,rfl,Qee ct c1 c2 c3 c4 c5⟩
 ·have e2:E.m.del id=(E.m,5):=if_neg f2;rw [e2];exact ⟨E,h,rfl,Qa1 (show (5:Int)≠0 by decide) (Qf8 (by omega) (by simpa using f2))⟩
theorem I7 {E:Es} {b:Int} (h:EOk b E) (hb:b<=900000000000000000) {x0 x1 x2 x3:LV} {n m:Int} {t:Rat} (ha:Ge x0 x1 n) (hc:Ge x2 x3 m) (sa:Fe n<=4294967295) (sb:Fe m<=4294967295) (ht:Gf n m=t) :
 ∃ E',EOk (b+67000000) E'/\E'.m=(E.m.adv t).1/\((E.m.adv t).2≠0->E'=E)/\dS 17 [.one (.ow 0 0),.agg [x0,x1,x2,x3]] E [.one (.int .i64 (E.m.adv t).2)] E':=by
 have hM:=h.m.m;have hl6:=hM.ln;by_cases hs:Qs 128 t
 ·by_cases hp:t<E.q
  ·have e2:E.m.adv t=(E.m,8):=by unfold Em.adv; rw [if_pos hs]; exact if_pos hp
   rw [e2];exact ⟨E,h.mono (by omega),rfl,λ_=>rfl,AD ha hc sa sb ht hs h.q hp⟩
  ·have hqt:E.q<=t:=Rat.not_lt.1 hp;have e2:E.m.adv t=(({ E.m with q:=t,s:=E.s.ev+(cnt (JA E.M) E.q t:Nat),t:=E.t.ev+(cnt (xG E.M) E.q t:Nat),h:=E.h.ev+(cnt (AB E.M) E.q t:Nat),p:=E.p.ev+(cnt (dL E.M) E.q t:Nat),d:=E.d.ev+(cnt (wQ E.M) E.q t:Nat) }:Em),0):=by unfold Em.adv; rw [if_pos hs]; exact if_neg hp
   rw [e2];have hq:Qs 1640000 t:=hs.mono (by decide);obtain ⟨K1,d1,k1,g1,a1,v1,u1,_⟩:=h.s.adv okS hM hq hqt;obtain ⟨K2,d2,k2,g2,a2,v2,u2,_⟩:=h.t.adv okT hM hq hqt;obtain ⟨K3,d3,k3,g3,a3,v3,u3,_⟩:=h.h.adv okH hM hq hqt;obtain ⟨K4,d4,k4,g4,a4,v4,u4,_⟩:=h.p.adv okP hM hq hqt;obtain ⟨K5,d5,k5,g5,a5,v5,u5,_⟩:=h.d.adv okD hM hq hqt;have hcm:∀ {c:Cr},c.now=tq E.q->Fp c.now t<=0:=λ{c} hn=>by
    rw [hn,sQ]; exact MH.2 hqt
   have c1:=Qtm hq hM.sc (by omega) h.s.st.inv.ok (by have:=h.es; omega) (hcm h.s.now) g1;have c2:=Qne hq hM.sc (by omega) h.t.st.inv.ok (by have:=h.et; omega) (hcm h.t.now) g2;have c3:=Qtb hq hM.sc (by omega) h.h.st.inv.ok (by have:=h.eh; omega) (hcm h.h.now) g3;have c4:=Qmz hq hM.sc (by omega) h.p.st.inv.ok (by have:=h.ep; omega) (hcm h.p.now) g4;have c5:=Qs9 hq hM.sc (by omega) h.d.st.inv.ok (by have:=h.ed; omega) (hcm h.d.now) g5;refine ⟨⟨E.np,E.nd,E.M,t,d1,d2,d3,d4,d5⟩,⟨h.np,h.nd,h.m,hs,a1,a2,a3,a4,a5,?_,?_,?_,?_,?_⟩,?_,λh=>absurd rfl h,Qaz ha hc sa sb ht hs h.q hqt c1 c2 c3 c4 c5⟩
   ·have:=h.es; show 0<=d1.ev/\d1.ev<=_; omega
   ·have:=h.et; show 0<=d2.ev/\d2.ev<=_; omega
   ·have:=h.eh; show 0<=d3.ev/\d3.ev<=_; omega
   ·have:=h.ep; show 0<=d4.ev/\d4.ev<=_; omega
   ·have:=h.ed; show 0<=d5.ev/\d5.ev<=_; omega
   ·unfold Es.m;simp only [v1,v2,v3,v4,v5]
 ·have e2:E.m.adv t=(E.m,1):=by unfold Em.adv; exact if_neg hs
  rw [e2];exact ⟨E,h.mono (by omega),rfl,λ_=>rfl,xR ha hc sa sb ht hs⟩
noncomputable def Em.ans (A:Em) (t:Rat):Ur:=if (A.adv t).2=0 then xK A.M t else Qsw
theorem jF {E:Es} {b:Int} (h:EOk b E) (hb:b<=900000000000000000) {x0 x1 x2 x3:LV} {n m:Int} {t:Rat} (ha:Ge x0 x1 n) (hc:Ge x2 x3 m) (sa:Fe n<=4294967295) (sb:Fe m<=4294967295) (ht:Gf n m=t) :
 dS 20 [.one (.ow 0 0),.agg [x0,x1,x2,x3]] E [.agg (E.m.ans t),.one (.int .i64 (E.m.adv t).2)] E:=by
 obtain ⟨E',h1,h2,h3,h4⟩:=I7 h hb ha hc sa sb ht;obtain ⟨b1,r1,rfl,rfl,_⟩:=ha;obtain ⟨b2,r2,rfl,rfl,_⟩:=hc;unfold Em.ans;by_cases e:(E.m.adv t).2=0
 ·rw [if_pos e];rw [e] at h4 ⊢;have hs:Qs 128 t/\¬t<E.q:=by
   unfold Em.adv at e;by_cases a:Qs 128 t
   ·rw [if_pos a] at e;by_cases a':t<E.m.q
    ·rw [if_pos a'] at e; cases e
    ·exact ⟨a,a'⟩
   ·rw [if_neg a] at e; cases e
  have e2:E.m.adv t=(({ E.m with q:=t,s:=E.s.ev+(cnt (JA E.M) E.q t:Nat),t:=E.t.ev+(cnt (xG E.M) E.q t:Nat),h:=E.h.ev+(cnt (AB E.M) E.q t:Nat),p:=E.p.ev+(cnt (dL E.M) E.q t:Nat),d:=E.d.ev+(cnt (wQ E.M) E.q t:Nat) }:Em),0):=by unfold Em.adv; rw [if_pos hs.1]; exact if_neg hs.2
  rw [e2] at h2;obtain ⟨np,nd,M,q,s,u,v,p,d⟩:=E';unfold Es.m at h2;injection h2 with i1 i2 i3 i4;dsimp only at i1 i2 i3 i4;subst i1 i2 i3 i4;exact Qa9 h.q h.m.m.ln h4
 ·rw [if_neg e];rw [h3 e] at h4;exact Qe2 e h.q h4
end Orr
namespace Orr
open Go Go.Proofs Tryz Orq
set_option maxRecDepth 10000
abbrev Qum (E F:Es):Ut:=en2 E.np E.nd E.M E.q E.s E.t E.h E.p E.d F.np F.nd F.M F.q F.s F.t F.h F.p F.d
theorem Qvr {E:Es} {b:Int} (h:EOk b E):∀ x∈E.M,Qaq 4294967294 1073741824 x:=λx hx=>by
 have:=h.m.m.sc x hx;exact ⟨this.n,this.c.mono (by decide) (by decide)⟩
theorem Quj {E F:Es} {b:Int} (h:EOk b E) (hM:F.M=E.M) (hq:F.q=E.q):U7 prog 21 [.one (.ow 0 0),.one (.ow 7 0)] (Qum E F) [.one (.bool true)] (Qum E F):=by
 obtain ⟨np,nd,M,q,s,t,v,p,d⟩:=F;dsimp only at hM hq;subst hM hq;exact Qmp h.m.m.ln (Qvr h) h.q
theorem Qof {E:Es} {b:Int} (h:EOk b E):U7 prog 13 [.one (.ow 0 0)] (enB 0 E) [.one (.ow 7 0)] (Qum E E):=xT h.q
abbrev Q0d (A:Em):Ur:=[.int .i64 A.s,.int .i64 A.t,.int .i64 A.h,.int .i64 A.p,.int .i64 A.d]
theorem Qg3 {E:Es}:dS 22 [.one (.ow 0 0)] E [.agg (Q0d E.m)] E:=wJ
theorem Quk {E:Es} {b:Int} (h:EOk b E):dS 26 [.one (.ow 0 0)] E [.agg (xK E.M E.q)] E:=HH h.m.m.ln
def vI (z:RawInt):Int:=Fb z.b (val z.l)
def RawInt.cutN (z:RawInt) (n:Nat):RawInt:=⟨z.b,z.l.take n⟩
theorem RawInt.Ok.cutN_ok {z:RawInt} (h:z.Ok) (n:Nat):(z.cutN n).Ok:=⟨λu hu=>h.u u (Qn hu)⟩
theorem YS {z:RawInt} (h:z.Ok):Ge (.bool z.b) (.row (lm z.l)) (vI z):=⟨z.b,z.l,rfl,rfl,h.u,rfl⟩
theorem MC {z:RawInt} (h:z.Ok) {n:Nat} (hl:z.l.length<=n):Fe (vI z)<=32*n:=by
 have h1:=Bs z.l h.u;have e:(vI z).natAbs=val z.l:=by unfold vI Fb; split <;> simp
 refine Sf.2 ?_;rw [e,Ks];exact Z6 h1 (Zs (by decide) hl)
theorem ZI (z:RawInt) (n:Nat):(z.cutN n).l.length<=n:=by show (z.l.take n).length<=n; rw [Qq]; omega
theorem MV {z:RawInt} {n:Nat} (hn:n<=1000):Uj 203 [.agg (L8 z),.oi n] [.agg (L8 (z.cutN n))] :=
 Ug func203 rfl [.k (Qtu (l:=z.l) hn)] rfl
theorem Qnk {t u:RawInt}:Uj 131 [.agg (L8 t++L8 u),.oi 6] [.agg (L8 (t.cutN 6)++L8 (u.cutN 6))] :=
 Ug func131 rfl [.k (MV (z:=t) (n:=6) (by decide)),.k (MV (z:=u) (n:=6) (by decide))] rfl
theorem wT {l:List RawInt}:Uj 202 [.one (.row (Im l)),.oi 4,.oi 1] [.one (.row (Im ((l.take 4).map (·.cutN 1))))]:=by
 have hll:=O5 l;refine Fw func202 rfl (ln 0 rfl rfl λhzl=>?_);rw [hll] at hzl;refine Ud [.o 7 36 2] rfl ?_;refine Ui (S:=Nat) 1 (λL1 i=>(8,.v (.oi i))::(7,.v (.one (.orow 0 2 none)))::L1) (λi=>[.row false 36 2 (Im ((l.take i).map (·.cutN 1)))]) (λi=>4-i) (λi=>i<=4/\i<=l.length) 0 ⟨by decide,Qh _⟩ rfl rfl λi ⟨hi,hi2⟩=>?_
 have hil:(Im ((l.take i).map (·.cutN 1))).length=i:=by rw [O5,Q7,Qq]; omega
 by_cases h1:i<l.length
 ·by_cases h2:i<4
  ·obtain ⟨z,hz⟩:=gxE (l:=l) (i:=i) h1;have hm:∀ y∈[L8 (z.cutN 1)],y.length=2:=λy hy=>by rw [Qk.1 hy]; rfl
   refine go tt [.g 13 true Ul,.T,.x (G6 (f:=L8) hz),.k (MV (n:=1) (by decide)),.s (sz:=2) hm] rfl (by simp [U4,hil,-List.map_take]; omega) ?_;exact rd (i+1) (by omega) ⟨h2,h1⟩ (by rw [Z1,hz]; simp [Im]; rfl)
  ·have e:i=4:=by omega
   have e2:l.take 4=l.take i:=by rw [e]
   rw [e2];exact Uf [.g 13 true Ul,.F] rfl
 ·have e:l.take i=l.take 4:=by rw [Qo (by omega),Qo (by omega)]
  rw [e];exact Uf [.g 13 false Uk,.f rfl] rfl
theorem Qs8 {z:RawPt}:Uj 129 [.agg (rcw z),.oi 4,.oi 1] [.agg [.row (Im ((z.x.take 4).map (·.cutN 1))),.row (Im ((z.y.take 4).map (·.cutN 1))),.bool z.d.b,.row (lm (z.d.l.take 1))]] :=
 Ug func129 rfl [.k (wT (l:=z.x)),.k (wT (l:=z.y)),.k (MV (z:=z.d) (n:=1) (by decide))] rfl
theorem WQ:∀ {l:List RawInt},(∀ z∈l,z.Ok)->IsInts (Im l) (l.map vI)
 | [],_=>trivial
 | z::l,h=>⟨⟨_,_,rfl,YS (h z (Qx ..))⟩,WQ λy hy=>h y (Qg _ hy)⟩
theorem IT {x y:LV} {z:Int} (h:Ge x y z) (hl:∀ l,y=.row (lm l)->l.length<=1000):Uj 74 [.agg [x,y]] [.agg (ri z)]:=by
 obtain ⟨b,l,rfl,rfl,hs,rfl⟩:=h;have hl:=hl l rfl;have hv:=Bs l hs;have hsz:sz (val l)<=100000000:=by
  refine Qa ((Nm (k:=32*l.length)).2 ?_) (by omega);rw [Ks]; exact hv
 exact Ug func74 rfl [.k (Qmq hs (by omega) hsz),.k (Nt b (val l))] rfl
theorem xP {x y x' y':LV} {a b:Int} (h:Ge x y a) (h':Ge x' y' b) (hl:∀ l,y=.row (lm l)->l.length<=1000) (hl':∀ l,y'=.row (lm l)->l.length<=1000) (sa:Fe a<=90000000) (sb:Fe b<=90000000):Uj 19 [.agg [x,y,x',y']] [.agg (fr (Gf a b))]:=by
 have c1:=IT h hl;have c2:=IT h' hl';have c3:=YJ sa sb;obtain ⟨b1,l1,rfl,rfl,_⟩:=h;obtain ⟨b2,l2,rfl,rfl,_⟩:=h';exact Ug func19 rfl [.k c1,.k c2,.k c3] rfl
theorem Qig {a b:Uo} (h:LV.row (lm a)=.row (lm b)):a.length=b.length:=by
 injection h with h;have:=congrArg List.length h;simpa [lm] using this
theorem Qeg {q:Rat} (hq:Qs 30000 q):Uj 19 [.agg (rl q)] [.agg (fr q)]:=by
 have e:Gf q.num (q.den:Int)=q:=by
  unfold Gf;rw [if_neg (by have:=q.den_pos; omega)];exact Z5 q
 have ln:∀ {z:Int},Fe z<=30000->∀ l,mg z=.row (lm l)->l.length<=1000:=λ{z} hz l h=>by
  have h1:=Td (x:=z.natAbs) (k:=30000) hz;have:=Qig h;omega
 have h:=xP (U5 q.num) (U5 (q.den:Int)) (ln hq.1) (ln hq.2) (Qa hq.1 (by decide)) (Qa hq.2 (by decide));rw [e] at h;exact h
theorem Qiy {m b:Nat} (hb:0<b) (h:0<m % b):(-(m:Int)) % (b:Int)=-((m % b:Nat):Int)+(b:Int):=by
 have h1:=Z4 m hb;have h2:=We m b;have e:-(m:Int)=(-((m % b:Nat):Int)+(b:Int))+(b:Int)*(-((m / b:Nat):Int)-1):=by
  have:(m:Int)=((m % b:Nat):Int)+(b:Int)*((m / b:Nat):Int):=by
   have:=congrArg (λ(n:Nat)=>(n:Int)) h2
   push_cast at this ⊢
   omega
  rw [Int.mul_sub,V7];omega
 rw [e,Int.add_mul_emod_self_left];exact Int.emod_eq_of_lt (by omega) (by omega)
theorem Qbh {a:Int} {b:Nat} (ha:Fe a<=90000000) (hb:Fe (b:Int)<=90000000) (h0:0<b):∃ x,Uj 135 [.agg (ri a),.agg (ri (b:Int))] [.agg (ri x),.agg (ri (a % (b:Int)))]:=by
 have cd:=pC (x:=a.natAbs) (y:=(b:Int).natAbs) ha hb (by omega);have eb:(b:Int).natAbs=b:=rfl;have sb:sg (b:Int)=.bool false:=by unfold sg; rw [decide_eq_false (by omega)]
 rw [eb] at cd;have hml:=Z4 a.natAbs h0;rcases Kd a 0 with hn | hn
 ·have sa:sg a=.bool true:=by unfold sg; rw [decide_eq_true hn]
  have m1:=Nt true (a.natAbs / b);have m2:=Nt true (a.natAbs % b);have ea:a=-(a.natAbs:Int):=by omega
  by_cases hr:a.natAbs % b=0
  ·have e:a % (b:Int)=0:=by
    rw [ea];exact Jx ((Int.dvd_neg).2 (Int.ofNat_dvd.2 (Nat.dvd_of_mod_eq_zero hr)))
   rw [e];refine ⟨Fb true (a.natAbs / b),?_⟩;rw [hr] at m2 cd;rw [show Fb true 0=0 from rfl] at m2;show Uj 135 [.agg [nd a.natAbs,sg a],.agg [nd (b:Int).natAbs,sg (b:Int)]] _;rw [sa,sb,eb];exact Ug func135 rfl [.k cd,.k m1,.k m2,.t rfl] rfl
  ·have e:=Qiy h0 (by omega:0<a.natAbs % b);rw [<-ea] at e;have os:Fb true (a.natAbs % b)=-((a.natAbs % b:Nat):Int):=rfl;have ng:decide (Fb true (a.natAbs % b)<0)=true:=by rw [os]; exact decide_eq_true (by omega)
   have hsm:Fe (Fb true (a.natAbs % b))<=200000000:=by
    rw [os,Hn];exact Qa (Ri (Nat.mod_le _ _)) (Qa ha (by decide))
   have hsd:Fe (Fb true (a.natAbs / b))<=200000000:=by
    show Fe (-((a.natAbs / b:Nat):Int))<=_;rw [Hn];exact Qa (Ri (Jq _ _)) (Qa ha (by decide))
   have c1:=ZL (n:=1) (by decide);have c2:=Qfn (a:=Fb true (a.natAbs / b)) (b:=1) hsd (by decide);have c3:=mQ (a:=Fb true (a.natAbs % b)) (b:=(b:Int)) hsm (Qa hb (by decide));rw [os,<-e] at c3;rw [os] at m2 ng;refine ⟨Fb true (a.natAbs / b)-1,?_⟩;show Uj 135 [.agg [nd a.natAbs,sg a],.agg [nd (b:Int).natAbs,sg (b:Int)]] _;have c3':Uj 115 [.agg (ri (-((a.natAbs % b:Nat):Int))),.agg [nd b,.bool false]] [.agg (ri (a % (b:Int)))]:=by rw [<-sb]; exact c3
   rw [sa,sb,eb];exact Ug func135 rfl [.k cd,.k m1,.k m2,.f (show (!decide (-((a.natAbs % b:Nat):Int)<0))=false by rw [ng]; rfl),.f rfl,.k c1,.k c2,.k c3'] rfl
 ·have sa:sg a=.bool false:=by unfold sg; rw [decide_eq_false (by omega)]
  have m1:=Nt false (a.natAbs / b);have m2:=Nt false (a.natAbs % b);have ea:a=(a.natAbs:Int):=by omega
  have e:a % (b:Int)=((a.natAbs % b:Nat):Int):=by rw [ea]; rfl
  have os:Fb false (a.natAbs % b)=((a.natAbs % b:Nat):Int):=rfl;have ng:decide (((a.natAbs % b:Nat):Int)<0)=false:=decide_eq_false (by omega);rw [e];rw [os] at m2;refine ⟨Fb false (a.natAbs / b),?_⟩;show Uj 135 [.agg [nd a.natAbs,sg a],.agg [nd (b:Int).natAbs,sg (b:Int)]] _;rw [sa,sb,eb];exact Ug func135 rfl [.k cd,.k m1,.k m2,.t (show (!decide (((a.natAbs % b:Nat):Int)<0))=true by rw [ng]; rfl)] rfl
def SB (x:Rat):Rat:=Gf (x.num % (x.den:Int)) (x.den:Int)
theorem oP {x:Rat} (h:Qs 128 x):Qs 128 (SB x):=by
 have h0:=x.den_pos;have h1:=Ye x.num (b:=(x.den:Int)) (by omega);have h2:=Js x.num (b:=(x.den:Int)) (by omega);unfold SB Gf;rw [if_neg (by omega)];refine ⟨Ry (Qa (Ri (by omega)) h.2),Rx h.2 (by decide)⟩
theorem Qnp {x y x' y':LV} {a b:Int} (h:Ge x y a) (h':Ge x' y' b) (hl:∀ l,y=.row (lm l)->l.length<=1000) (hl':∀ l,y'=.row (lm l)->l.length<=1000) (sa:Fe a<=90000000) (sb:Fe b<=90000000) (hq:Qs 128 (Gf a b)):Uj 61 [.agg [x,y,x',y']] [.agg (rl (SB (Gf a b)))]:=by
 have c1:=xP h h' hl hl' sa sb;obtain ⟨q,hqe⟩:=nmE (Gf a b);rw [<-hqe] at c1 hq ⊢;have c2:=IB (q:=q) (hq.mono (by decide));obtain ⟨z,c3⟩:=Qbh (a:=q.num) (b:=q.den) (Qa hq.1 (by decide)) (Qa hq.2 (by decide)) q.den_pos;have h2:=Js q.num (b:=(q.den:Int)) (by have:=q.den_pos; omega);have h1:=Ye q.num (b:=(q.den:Int)) (by have:=q.den_pos; omega);have c4:=YJ (a:=q.num % (q.den:Int)) (b:=(q.den:Int)) (Qa (Ri (by omega)) (Qa hq.2 (by decide))) (Qa hq.2 (by decide));have c5:=IB (q:=SB q) ((oP hq).mono (by decide));have l1:=ZS.2 hq.1;have l2:(Gd q.den).length<=4:=by simpa using ZS.2 hq.2
 obtain ⟨b1,r1,rfl,rfl,_⟩:=h;obtain ⟨b2,r2,rfl,rfl,_⟩:=h';exact Ug func61 rfl [.k c1,.k c2,.f (by simp [kF]; omega),.f (by simp [kF]; omega),.k c3,.k c4,.k c5] rfl
theorem Qno {x y x' y':LV} {a b:Int} (h:Ge x y a) (h':Ge x' y' b) (hl:∀ l,y=.row (lm l)->l.length<=1000) (hl':∀ l,y'=.row (lm l)->l.length<=1000) (sa:Fe a<=32000) (sb:Fe b<=32000) (hq:¬Qs 128 (Gf a b)):Uj 61 [.agg [x,y,x',y']] [.agg [x,y,x',y']]:=by
 have c1:=xP h h' hl hl' (Qa sa (by decide)) (Qa sb (by decide));have hs:Qs 32000 (Gf a b):=by
  unfold Gf
  split
  ·exact ⟨Ry sa,Rx (by decide) (by decide)⟩
  ·exact ⟨Ry sa,Rx sb (by decide)⟩
 obtain ⟨q,hqe⟩:=nmE (Gf a b);rw [<-hqe] at c1 hq hs;have c2:=IB (q:=q) (hs.mono (by decide));obtain ⟨b1,r1,rfl,rfl,_⟩:=h;obtain ⟨b2,r2,rfl,rfl,_⟩:=h';by_cases h1:Fe q.num<=128
 ·have h2:¬Fe (q.den:Int)<=128:=λh=>hq ⟨h1,h⟩
  have l1:=ZS.2 h1;have l2:¬(Gd q.den).length<=4:=by simpa using mt ZS.1 h2
  exact Ug func61 rfl [.k c1,.k c2,.f (by simp [kF]; omega),.t (by simp [kF]; omega)] rfl
 ·have l1:=mt ZS.1 h1;exact Ug func61 rfl [.k c1,.k c2,.t (by simp [kF]; omega),.t rfl] rfl
theorem XS (a:Int):∀ i,Fe (a^i)<=Fe a*i+1
 | 0=>by rw [Wy]; show Fe 1<=_; exact Qa (by decide) (Wd 1 _)
 |
  i+1=>by
  rw [Wx];have h1:=Gb (a^i) a;have h2:=XS a i;rw [W4]; omega
theorem Qez {a:Int} {n:Nat} (ha:Fe a<=1000) (hn:n<=256):Uj 209 [.agg (Hg a),.oi n] [.agg (Hg (a^n))]:=by
 refine Fw func209 rfl ?_;refine Ud [.k (BF (z:=1) (by decide)),.r 8 (v:=.oi n) (by simp; omega),.r 9 (v:=.oi n) (by simp)] rfl ?_;refine lp (S:=Nat) 3 (λL1 i=>(10,.v (.oi i))::L1) (λi=>[.blk 36 (Hg a),.blk 36 [.bool false,.nils],.blk 36 (Hg (a^i))]) (λi=>n-i) (λi=>i<=n) 0 (Qh _) rfl (λ_ _=>rfl) (by rw [Wy]; rfl) λi hi=>?_
 by_cases h:i<n
 ·have h1:=XS a i;have h2:Fe a*i<=1000*256:=Zc ha (by omega);have cm:=Px (U5 (a^i)) (U5 a) (by omega) (by omega);rw [<-Wx] at cm;refine Ue [.t (by simp; omega),.k cm] rfl ?_;exact rd (i+1) (by omega) h rfl
 ·obtain rfl:i=n:=by omega
  exact Uf [.f (by simp)] rfl
def Rq (n d:Int):Um->Um×Int
 | []=>([],1)
 | x::l=>(A4 (Gl (Rq n d l).1 [n,d]) [x*(Rq n d l).2],(Rq n d l).2*d)
theorem nE (n d:Int):∀ l,Ff (Rq n d l).1
 | []=>rfl
 | _::_=>Fz _ _
theorem pK {n d:Int} (hn:Fe n<=130) (hd:Fe d<=130):Bd 130 [n,d]:=λz hz=>by
 rcases Qm.1 hz with rfl | hz
 ·exact hn
 ·rw [Qk.1 hz]; exact hd
theorem FR {n d:Int} (hn:Fe n<=130) (hd:Fe d<=130) {s:Nat}:∀ {l:Um},Bd s l->l.length<=8->Bd (s+140*l.length) (Rq n d l).1/\(Rq n d l).1.length<=l.length/\Fe (Rq n d l).2<=130*l.length+1
 | [],_,_=>⟨ZD,Ql _,by show Fe 1<=_; exact Qa (by decide) (Wd 1 _)⟩
 |
  x::l,h,hl=>by
  rw [Q5] at hl ⊢;obtain ⟨h1,h2,h3⟩:=FR hn hd (λz hz=>h z (Qg _ hz)) (by omega:l.length<=8);have hx:=h x (Qx ..);have b1:=Ph (u:=4) h1 (pK hn hd) (by omega);have b2:Bd (s+(130*l.length+1)) [x*(Rq n d l).2]:=λz hz=>by
   rw [Qk.1 hz];have:=Gb x (Rq n d l).2;omega
  refine ⟨U6 (JO b1 b2) (by omega),?_,?_⟩
  ·have h4:=Oe (Gl (Rq n d l).1 [n,d]) [x*(Rq n d l).2];have h5:=Ty (Rq n d l).1 [n,d];simp only [Q5,Jg] at h4 h5;show (A4 _ _).length<=_;omega
  ·have:=Gb (Rq n d l).2 d;show Fe ((Rq n d l).2*d)<=_;omega
theorem Qbz {a:Um} {j:Nat} {x:Int} (h:a[j]? = some x):a.drop j=x::a.drop (j+1):=by
 obtain ⟨h1,h2⟩:=Qf.1 h;rw [Zp h1,h2]
theorem Qep {a:Um} {n d:Int} {s:Nat} (ta:Ff a) (ha:Bd s a) (hs:s<=1000) (hl:a.length<=8) (hn:Fe n<=130) (hd:Fe d<=130) (h0:d≠0):Uj 207 [pr a,.agg (Hg n),.agg (Hg d)] [pr (Rq n d a).1,.oi 0]:=by
 have nn:=Mk (U5 n) (by omega);have nd:=Mk (U5 d) (by omega);have cn:=Ht (p:=a) ta (by omega) (U6 ha (by omega));have td:Ff [n,d]:=by simp [Ff,trim,h0]
 refine Fw func207 rfl ?_;refine Ue [.k nd,.k (Dh (z:=d)),.f (by simpa using h0),.k cn,.z 8,.k nn,.k nd,.k (BF (z:=1) (by decide)),.r 25 (eI (b:=(a.length:Int)-1) (by simp))] rfl ?_;refine lp (S:=Nat) 3 (λL1 j=>(11,.v (.oi ((j:Int)-1)))::(8,.v (pr (Rq n d (a.drop j)).1))::L1) (λj=>[.blk 36 (Hg n),.blk 36 (Hg d),.blk 36 (Hg (Rq n d (a.drop j)).2)]) (λj=>j) (λj=>j<=a.length) a.length (Ql _) rfl (λ_ _=>rfl) (by rw [Yt]; rfl) λj hj=>?_
 cases j with
 | zero=>exact Uf [.f (by simp)] rfl
 |
  succ j =>
  obtain ⟨x,hx⟩:=gxE (l:=a) (i:=j) (by omega);obtain ⟨b1,b2,b3⟩:=FR hn hd (l:=a.drop (j+1)) (λz hz=>ha z (Qz hz)) (by rw [Q8]; omega);have hdl:(a.drop (j+1)).length<=8:=by rw [Q8]; omega
  have e:Rq n d (a.drop j)=(A4 (Gl (Rq n d (a.drop (j+1))).1 [n,d]) [x*(Rq n d (a.drop (j+1))).2],(Rq n d (a.drop (j+1))).2*d):=by rw [Qbz hx]; rfl
  have e1:(Rq n d (a.drop j)).1=A4 (Gl (Rq n d (a.drop (j+1))).1 [n,d]) [x*(Rq n d (a.drop (j+1))).2]:=by rw [e]
  have e2:(Rq n d (a.drop j)).2=(Rq n d (a.drop (j+1))).2*d:=by rw [e]
  have tm:=nE n d (a.drop (j+1));obtain ⟨P,hP⟩:=nmE ((Rq n d (a.drop (j+1))).1);obtain ⟨W,hW⟩:=nmE ((Rq n d (a.drop (j+1))).2);rw [<-hP,<-hW] at e1;rw [<-hW] at e2;rw [<-hP] at b1 b2 tm;rw [<-hW] at b3;have hxs:=ha x (Qc hx);have c1:=KF tm td (by omega) (by show 2<137438953472; decide) b1 (pK hn hd) (by omega);have c2:=Px (U5 x) (U5 W) (by omega) (by omega);have bm:=Ph (u:=4) b1 (pK hn hd) (by omega);have hm:=Gb x W;have hlm:=Ty P [n,d];simp only [Q5,Jg] at hlm;have c3:=BG (p:=Gl P [n,d]) (q:=[x*W]) (by omega) (by show 1<274877906944; decide) (U6 bm (by omega)) (λz hz=>by rw [Qk.1 hz]; omega);rw [<-e1] at c3;have c4:=Px (U5 W) (U5 d) (by omega) (by omega);rw [<-e2] at c4;rw [show ((j+1:Nat):Int)-1=(j:Int) by omega,<-hP,<-hW];refine Ue [.t (by simp),.k c1,.x (Pk hx),.k c2,.k c3,.k c4] rfl ?_;exact rd j (by omega) (by omega) rfl
def rI (px py:Um) (q:Rat):Crv:=⟨Fv (Rq (-q).num ((-q).den:Int) (trim px)).1 (((-q).den:Int)^(max ((trim px).length-1) ((trim py).length-1)-((trim px).length-1))),Fv (Rq (-q).num ((-q).den:Int) (trim py)).1 (((-q).den:Int)^(max ((trim px).length-1) ((trim py).length-1)-((trim py).length-1))),((-q).den:Int)^(max ((trim px).length-1) ((trim py).length-1))⟩
theorem Qe3 {lx ly:Us} {px py:Um} {q:Rat} {s:Nat} (hx:IsInts lx px) (hy:IsInts ly py) (hq:Qs 128 q) (bx:Bd s px) (by_:Bd s py) (hs:s<=1000) (llx:px.length<=8) (lly:py.length<=8) :
 Cs 4294967294 1073741824 (rI px py q)/\Uj 134 [.one (.row lx),.one (.row ly),.agg (rl q)] [.agg (cl (Crv.norm (rI px py q)))]:=by
 have cx:=Cc hx (by omega) (U6 bx (by omega));have cy:=Cc hy (by omega) (U6 by_ (by omega));have cg:=Qf2 (q:=q) (hq.mono (by decide));have hnq:Qs 128 (-q):=by
  refine ⟨?_,?_⟩
  ·rw [Rat.neg_num,Hn]; exact hq.1
  ·rw [Rat.neg_den]; exact hq.2
 have hX:Bd s (trim px):=Tz bx;have hY:Bd s (trim py):=Tz by_;have lX:(trim px).length<=8:=Qa (H8 px) llx;have lY:(trim py).length<=8:=Qa (H8 py) lly;have h0:((-q).den:Int)≠0:=by have:=(-q).den_pos; omega
 have hn1:Fe (-q).num<=130:=Qa hnq.1 (by decide);have hd1:Fe ((-q).den:Int)<=130:=Qa hnq.2 (by decide);have m1:=Qep (Rp px) hX hs (by omega) hn1 hd1 h0;have m2:=Qep (Rp py) hY hs (by omega) hn1 hd1 h0;obtain ⟨p1,p2,_⟩:=FR hn1 hd1 hX (by omega);obtain ⟨q1,q2,_⟩:=FR hn1 hd1 hY (by omega);unfold rI;obtain ⟨D,hD⟩:=nmE (((-q).den:Int));obtain ⟨N,hN⟩:=nmE ((-q).num);have hgl:rl (-q)=[sg N,mg N,sg D,mg D]:=by rw [hN,hD]
 rw [hgl] at cg;rw [<-hD,<-hN] at m1 m2 p1 p2 q1 q2 ⊢;rw [<-hD] at hd1;obtain ⟨X,hXe⟩:=nmE (trim px);obtain ⟨Y,hYe⟩:=nmE (trim py);rw [<-hXe] at cx hX lX m1 p1 p2 ⊢;rw [<-hYe] at cy hY lY m2 q1 q2 ⊢;obtain ⟨a,ha⟩:=nmE (X.length-1);obtain ⟨b,hb⟩:=nmE (Y.length-1);rw [<-ha,<-hb];obtain ⟨k,hk⟩:=nmE (max a b);rw [<-hk];have w1:=Qez (a:=D) (n:=k-a) (by omega) (by omega);have w2:=Qez (a:=D) (n:=k-b) (by omega) (by omega);have w3:=Qez (a:=D) (n:=k) (by omega) (by omega);have z1:=XS D (k-a);have z2:=XS D (k-b);have z3:=XS D k;have y1:Fe D*(k-a)<=130*8:=Zc hd1 (by omega);have y2:Fe D*(k-b)<=130*8:=Zc hd1 (by omega);have y3:Fe D*k<=130*8:=Zc hd1 (by omega);have s1:=Pn (p:=(Rq N D X).1) (c:=D^(k-a)) (by omega) (U6 p1 (by omega)) (by omega);have s2:=Pn (p:=(Rq N D Y).1) (c:=D^(k-b)) (by omega) (U6 q1 (by omega)) (by omega);have e1:=Gg p1 (c:=D^(k-a)) (Ql _);have e2:=Gg q1 (c:=D^(k-b)) (Ql _);have f1:=Fy (Rq N D X).1 (D^(k-a));have f2:=Fy (Rq N D Y).1 (D^(k-b));have hcs:Cs 4294967294 1073741824 ⟨Fv (Rq N D X).1 (D^(k-a)),Fv (Rq N D Y).1 (D^(k-b)),D^k⟩:=⟨U6 e1 (by omega),U6 e2 (by omega),by show Fe (D^k)<=_; omega,by show (Fv _ _).length<=_; omega,by show (Fv _ _).length<=_; omega⟩;refine ⟨hcs,?_⟩;have cn:=MY (Gp _) (Gp _) (U5 _) hcs;have ek:((max a b:Nat):Int)=(k:Int):=by rw [hk]
 exact Ug func134 rfl [.k cx,.k cy,.k cg,.k m1,.k m2,.k (P7 X),.r 40 (eI (b:=(a:Int)) (by omega)),.k (P7 Y),.r 43 (eI (b:=(b:Int)) (by omega)),.r 46 (eI (b:=(k:Int)) (by omega)),.r 52 (eI (b:=((k-a:Nat):Int)) (by omega)),.k w1,.k s1,.r 60 (eI (b:=((k-b:Nat):Int)) (by omega)),.k w2,.k s2,.k w3,.k cn] rfl rfl (by simp [U4]; omega)
theorem Que {E:Es} {b:Int} (h:EOk b E) {lx ly:Us} {px py:Um} {s:Nat} {id:Int} (hx:IsInts lx px) (hy:IsInts ly py) (bx:Bd s px) (by_:Bd s py) (hs:s<=1000) (llx:px.length<=8) (lly:py.length<=8) :
 ∃ E',EOk b E'/\E'.m=(E.m.rep ⟨Crv.norm (rI px py E.q),id⟩).1/\dS 60 [.one (.ow 0 0),.oi id,.one (.row lx),.one (.row ly)] E [.one (.int .i64 (E.m.rep ⟨Crv.norm (rI px py E.q),id⟩).2)] E':=by
 obtain ⟨hc,cr⟩:=Qe3 hx hy h.q bx by_ hs llx lly;have hcn:=hc.norm (by omega);have hnm:=Crv.nml (rI px py E.q);obtain ⟨C,hC⟩:=nmE (Crv.norm (rI px py E.q));rw [<-hC] at cr hcn hnm ⊢;obtain ⟨E',h1,h2,h3⟩:=uP h (id:=id) (Gp C.x) (Gp C.y) (U5 C.d) hcn;have eC:Crv.norm (Crv.mk C.x C.y C.d)=C:=Crv.norm_of hnm;rw [eC] at h2 h3;refine ⟨E',h1,h2,?_⟩;refine Fw func60 rfl ?_;exact Uh [] [0,1,2,3,4,5,6] [.k cr,.c Uv h3] rfl
end Orr
namespace Orr
open Go
structure RawOp where
 k:Int
 n:Int
 d:Int
 p:RawPt
 t:RawInt
 u:RawInt
structure RawOp.Ok (o:RawOp):Prop where
 k:-9223372036854775808<=o.k/\o.k<=9223372036854775807
 n:-9223372036854775808<=o.n/\o.n<=9223372036854775807
 d:-9223372036854775808<=o.d/\o.d<=9223372036854775807
 p:o.p.Ok
 t:o.t.Ok
 u:o.u.Ok
abbrev rwo (o:RawOp):Ur:=[.int .i64 o.k,.int .i64 o.n,.int .i64 o.d]++rwq o.p++L8 o.t++L8 o.u
def qP (l:List RawOp):Us:=l.map rwo
theorem Qct (l:List RawOp):(qP l).length=l.length:=by simp [qP]
theorem Qcs {l:List RawOp} {i:Nat} {o:RawOp} (h:l[i]? = some o):(qP l)[i]? = some (rwo o):=by rw [qP,Q9,h]; rfl
end Orr
namespace Orr
open Go Go.Proofs Tryz Orq
set_option maxRecDepth 10000
def Oh (N:Int):Int:=if N=2 then 999 else if N=3 then 99 else 20
theorem gJ (N:Int):0<=Oh N/\Oh N<=999:=by unfold Oh; split; decide; split; decide; decide
def UM (N:Int) (z:RawPt):Crv:=if 1<N then ⟨Gq (Oh N) z.x++(if 3<z.x.length then [1] else []),Gq (Oh N) z.y,H6 3 z.d⟩ else ⟨((z.x.take 4).map (·.cutN 1)).map vI,((z.y.take 4).map (·.cutN 1)).map vI,vI (z.d.cutN 1)⟩
theorem Qjz {l:List RawInt} (h:∀ a∈l,a.Ok):∀ z∈(l.take 4).map (·.cutN 1),z.Ok:=λz hz=>by
 obtain ⟨y,hy,rfl⟩:=Za.1 hz;exact (h y (Qn hy)).cutN_ok 1
theorem Qjy {l:List RawInt} (h:∀ a∈l,a.Ok):Bd 40 (((l.take 4).map (·.cutN 1)).map vI):=λz hz=>by
 obtain ⟨y,hy,rfl⟩:=Za.1 hz;obtain ⟨x,hx,rfl⟩:=Za.1 hy;exact Qa (MC ((h x (Qn hx)).cutN_ok 1) (ZI x 1)) (by decide)
theorem Qn3 {N:Int} {z:RawPt} (hz:z.Ok):Cs 40 4 (UM N z):=by
 unfold UM
 split
 ·have h:=Qbt (gJ N) z.x z.y z.d;refine ⟨λy hy=>?_,U6 h.y (by decide),Qa h.d (by decide),?_,Qa h.ly (by decide)⟩
  ·rcases Qr.1 hy with hy | hy
   ·exact Qa (h.x y hy) (by decide)
   ·split at hy
    ·rw [Qk.1 hy]; decide
    ·cases hy
  ·have:=h.lx;have h2:(Gq (Oh N) z.x).length<=3:=this;show (_++_:Um).length<=4;rw [Qy]
   split <;> simp <;> omega
 ·exact ⟨Qjy hz.x,Qjy hz.y,Qa (MC (hz.d.cutN_ok 1) (ZI z.d 1)) (by decide),by show (List.map _ _).length<=4; rw [Q7,Q7,Qq]; omega,by show (List.map _ _).length<=4; rw [Q7,Q7,Qq]; omega⟩
def sB (o:RawOp):Int:=if S6 o.k 12<10 then S6 o.p.id 6 else o.p.id
abbrev Qt6 (o:RawOp) (lx ly:Us) (bb:Bool) (l3:Us):Ur:=[.int .i64 o.k,.int .i64 o.n,.int .i64 o.d,.row lx,.row ly,.bool bb,.row l3,.int .i64 (sB o)]++L8 (o.t.cutN 6)++L8 (o.u.cutN 6)
abbrev iC (ms:Ur) (N:Int):Ur:=[.ow 0 0,.sh ms,.int .i64 N]
theorem yX {most:Int} {l:List RawInt} (h:3<l.length):(Gq most l).length=3:=by unfold Gq; rw [List.length_map,List.length_take]; omega
abbrev Qsd:Ur:=[.bool false,.row [[.int .u32 1]]]
theorem nU {p:Um}:IsInts (p.map Hg++[Qsd]) (p++[1]):=(Gp p).append ⟨⟨_,_,rfl,false,[1],rfl,rfl,(λx hx=>by rw [Qk.1 hx]; decide),rfl⟩,trivial⟩
theorem Qa7 {z:RawPt} (hz:z.Ok) {most:Int} (hm:0<=most/\most<=999):U7 prog 130 [.agg (rcw z),.oi most] [] [.agg [.orow 0 2 none,.row (An (Gq most z.y)),sg (H6 3 z.d),mg (H6 3 z.d)]] [.row false 36 2 (An (Gq most z.x))]:=by
 have hxl:=O5 z.x;have hyl:=O5 z.y;obtain ⟨D,hD⟩:=nmE (H6 3 z.d);have cd:=UG hz.d (most:=3) (by decide);have hx0:∀ {i:Nat},z.x.length<=i\/3<=i->Gq most (z.x.take i)=Gq most z.x:=SR most;have hy0:∀ {i:Nat},z.y.length<=i\/3<=i->Gq most (z.y.take i)=Gq most z.y:=SR most;rw [<-hD] at cd ⊢;refine Fw func130 rfl ?_;refine Ud [.k cd] rfl ?_;refine oz2 5 0 36 2 rfl rfl ?_;refine Ui (S:=Nat) 4 (λL1 i=>(6,.v (.oi i))::L1) (λi=>[.blk 38 (rcw z),.blk 38 [.nils,.nils,.bool false,.nils],.blk 38 [.orow 3 2 none,.nils,sg D,mg D],.row false 36 2 (An (Gq most (z.x.take i)))]) (λi=>3-i) (λi=>i<=3/\i<=z.x.length) 0 ⟨by decide,Qh _⟩ rfl rfl λi ⟨hi,hi2⟩=>?_
 have hll:=yZ (most:=most) hi hi2;by_cases hr:i<z.x.length/\i<3
 ·obtain ⟨a,ha⟩:=gxE (l:=z.x) (i:=i) hr.1;have hs:∀ y∈[Hg (H6 most a)],y.length=2:=λy hy=>by rw [Qk.1 hy]; rfl
  refine go tt [.g 17 true Ul,.T,.x (G6 (f:=L8) ha),.k (UG (hz.x a (Qc ha)) hm),.s (sz:=2) hs] rfl (by simp [U4,hll]; omega) ?_;exact rd (i+1) (by omega) ⟨hr.2,hr.1⟩ (by rw [RD hr.2 ha]; rfl)
 have hg1:decide ((i:Int)<((Im z.x).length:Int))=true->i<z.x.length:=λh=>by have:=of_decide_eq_true h; omega
 rw [hx0 (by omega)];clear hll;have hfin:∀ {j:Nat},j<=3/\j<=z.y.length->¬(j<z.y.length/\j<3)->An (Gq most (z.y.take j))=An (Gq most z.y):=λh1 h2=>by rw [hy0 (by omega)]
 by_cases hxx:i<z.x.length
 ·refine Ud [.g 17 true Ul,.F] rfl ?_;refine oz2 5 1 36 2 rfl rfl ?_;refine Ui (S:=Nat) 5 (λL1 j=>(7,.v (.oi j))::L1) (λj=>[.blk 38 (rcw z),.blk 38 [.nils,.nils,.bool false,.nils],.blk 38 [.orow 3 2 none,.orow 4 2 none,sg D,mg D],.row false 36 2 (An (Gq most z.x)),.row false 36 2 (An (Gq most (z.y.take j)))]) (λj=>3-j) (λj=>j<=3/\j<=z.y.length) 0 ⟨by decide,Qh _⟩ rfl rfl λj ⟨hj,hj2⟩=>?_
  have hll:=yZ (most:=most) hj hj2;by_cases hr:j<z.y.length/\j<3
  ·obtain ⟨a,ha⟩:=gxE (l:=z.y) (i:=j) hr.1;have hs:∀ y∈[Hg (H6 most a)],y.length=2:=λy hy=>by rw [Qk.1 hy]; rfl
   refine go tt [.g 40 true Ul,.T,.x (G6 (f:=L8) ha),.k (UG (hz.y a (Qc ha)) hm),.s (sz:=2) hs] rfl (by simp [U4,hll]; omega) ?_;exact rd (j+1) (by omega) ⟨hr.2,hr.1⟩ (by rw [RD hr.2 ha]; rfl)
  rw [hfin ⟨hj,hj2⟩ hr];by_cases hyy:j<z.y.length
  ·exact Uh [4] [3] [.g 40 true Ul,.F] rfl
  ·exact Uh [4] [3] [.g 40 false Uk,.f rfl] rfl
 ·refine Ud [.g 17 false Uk,.f rfl] rfl ?_;refine oz2 5 1 36 2 rfl rfl ?_;refine Ui (S:=Nat) 5 (λL1 j=>(7,.v (.oi j))::L1) (λj=>[.blk 38 (rcw z),.blk 38 [.nils,.nils,.bool false,.nils],.blk 38 [.orow 3 2 none,.orow 4 2 none,sg D,mg D],.row false 36 2 (An (Gq most z.x)),.row false 36 2 (An (Gq most (z.y.take j)))]) (λj=>3-j) (λj=>j<=3/\j<=z.y.length) 0 ⟨by decide,Qh _⟩ rfl rfl λj ⟨hj,hj2⟩=>?_
  have hll:=yZ (most:=most) hj hj2;by_cases hr:j<z.y.length/\j<3
  ·obtain ⟨a,ha⟩:=gxE (l:=z.y) (i:=j) hr.1;have hs:∀ y∈[Hg (H6 most a)],y.length=2:=λy hy=>by rw [Qk.1 hy]; rfl
   refine go tt [.g 40 true Ul,.T,.x (G6 (f:=L8) ha),.k (UG (hz.y a (Qc ha)) hm),.s (sz:=2) hs] rfl (by simp [U4,hll]; omega) ?_;exact rd (j+1) (by omega) ⟨hr.2,hr.1⟩ (by rw [RD hr.2 ha]; rfl)
  rw [hfin ⟨hj,hj2⟩ hr];by_cases hyy:j<z.y.length
  ·exact Uh [4] [3] [.g 40 true Ul,.F] rfl
  ·exact Uh [4] [3] [.g 40 false Uk,.f rfl] rfl
set_option maxHeartbeats 4000000 in
theorem Qtl {E:Es} {N:Int} {o:RawOp} {ms:Ur} (hN:1<=N/\N<=4) (ho:o.Ok):∃ lx ly bb l3,IsInts lx (UM N o.p).x/\IsInts ly (UM N o.p).y/\Ge (.bool bb) (.row l3) (UM N o.p).d /\
 U7 prog 56 [.agg (iC ms N),.agg (rwo o)] (enB 0 E) [.agg (Qt6 o lx ly bb l3)] (enB 0 E):=by
 have c4:=Qs8 (z:=o.p);have wk:=Cd (v:=o.k) (n:=12) ho.k (by decide);have wi:=Cd (v:=o.p.id) (n:=6) ho.p.id (by decide);have cr:=Qnk (t:=o.t) (u:=o.u);have cl:=Qa7 ho.p (most:=Oh N) (gJ N);obtain ⟨i,hi⟩:=nmE (sB o);have hln:(Im o.p.x).length=o.p.x.length:=O5 _;unfold Qt6;rw [<-hi];by_cases h1:1<N
 ·have e1:UM N o.p=⟨Gq (Oh N) o.p.x++(if 3<o.p.x.length then [1] else []),Gq (Oh N) o.p.y,H6 3 o.p.d⟩:=if_pos h1;rw [e1];dsimp only;obtain ⟨X,hX⟩:=nmE (Gq (Oh N) o.p.x);obtain ⟨Y,hY⟩:=nmE (Gq (Oh N) o.p.y);obtain ⟨D,hD⟩:=nmE (H6 3 o.p.d);have hX3:=yX (most:=Oh N) (l:=o.p.x);rw [<-hX] at hX3;rw [<-hX,<-hY,<-hD] at cl ⊢;have e3:∃ k:Nat,(k:Int)=min N 4/\[[LV.int .i64 0],[.int .i64 0],[.int .i64 999],[.int .i64 99],[.int .i64 20]][k]? = some [.int .i64 (Oh N)]:=by
   rcases (show N=2\/N=3\/N=4 by omega) with rfl | rfl | rfl
   ·exact ⟨2,rfl,rfl⟩
   ·exact ⟨3,rfl,rfl⟩
   ·exact ⟨4,rfl,rfl⟩
  obtain ⟨k,k1,k2⟩:=e3;by_cases h3:3<o.p.x.length
  ·rw [if_pos h3];have hX3:=hX3 h3;have hml:(X.map Hg).length=3:=by rw [Q7]; exact hX3
   refine ⟨_,_,_,_,nU,Gp Y,U5 D,?_⟩;refine Fw func56 rfl ?_;refine go tt [.k c4,.t (by simpa using h1),.r 19 (eI k1.symm),.x k2,.c [11] cl,.t (by simp; omega)] rfl (by simp only [U4,qF]; omega) ?_;refine Ui (S:=Unit) 12 (λL1 _=>L1) (λ_=>enB 0 E++[.blk 27 (iC ms N),.blk 44 (rwo o),.blk 44 [.int .i64 0,.int .i64 0,.int .i64 0,.nils,.nils,.bool false,.nils,.int .i64 0,.bool false,.nils,.bool false,.nils],.blk 38 [.orow 11 2 none,pl Y,sg D,mg D],.row false 36 2 (X.map Hg++[Qsd])]) (λ_=>0) (λ_=>True) () trivial rfl rfl λ_ _=>?_
   by_cases hk:S6 o.k 12<10
   ·rw [hi,show sB o=S6 o.p.id 6 from if_pos hk];exact Uh [11] [0,1,2,3,4,5,6] [.f (by simp; omega),.k wk,.t (by simpa using hk),.k wi,.k cr] rfl
   ·rw [hi,show sB o=o.p.id from if_neg hk];exact Uh [11] [0,1,2,3,4,5,6] [.f (by simp; omega),.k wk,.f (by simpa using hk),.k cr] rfl
  ·rw [if_neg h3,Zv];refine ⟨_,_,_,_,Gp X,Gp Y,U5 D,?_⟩;refine Fw func56 rfl ?_;by_cases hk:S6 o.k 12<10
   ·rw [hi,show sB o=S6 o.p.id 6 from if_pos hk];exact Uh [11] [0,1,2,3,4,5,6] [.k c4,.t (by simpa using h1),.r 19 (eI k1.symm),.x k2,.c [11] cl,.f (by simp; omega),.k wk,.t (by simpa using hk),.k wi,.k cr] rfl
   ·rw [hi,show sB o=o.p.id from if_neg hk];exact Uh [11] [0,1,2,3,4,5,6] [.k c4,.t (by simpa using h1),.r 19 (eI k1.symm),.x k2,.c [11] cl,.f (by simp; omega),.k wk,.f (by simpa using hk),.k cr] rfl
 ·have e1:UM N o.p=⟨((o.p.x.take 4).map (·.cutN 1)).map vI,((o.p.y.take 4).map (·.cutN 1)).map vI,vI (o.p.d.cutN 1)⟩:=if_neg h1;rw [e1];refine ⟨_,_,_,_,WQ (Qjz ho.p.x),WQ (Qjz ho.p.y),YS (ho.p.d.cutN_ok 1),?_⟩;refine Fw func56 rfl ?_;by_cases hk:S6 o.k 12<10
  ·rw [hi,show sB o=S6 o.p.id 6 from if_pos hk];exact Uh [] [0,1,2,3,4,5,6] [.k c4,.f (by simpa using h1),.k wk,.t (by simpa using hk),.k wi,.k cr] rfl
  ·rw [hi,show sB o=o.p.id from if_neg hk];exact Uh [] [0,1,2,3,4,5,6] [.k c4,.f (by simpa using h1),.k wk,.f (by simpa using hk),.k cr] rfl
def Iu (o:RawOp) (q:Rat):Rat:=q+Gf (S6 o.n 5-1) (1+S6 o.d 4)
theorem Ew {v n:Int} (h:0<n):0<=S6 v n/\S6 v n<n:=by
 unfold S6;rw [if_neg (by omega)];exact ⟨Ye _ (by omega),Js _ h⟩
theorem rC {a b:Int} (ha:-10<=a/\a<=10) (hb:-10<=b/\b<=10):Qs 4 (Gf a b):=by
 have sz4:∀ z:Int,-10<=z/\z<=10->Fe z<=4:=λz hz=>by
  have h16:(2:Nat)^4=16:=by decide
  exact Sf.2 (by omega)
 unfold Gf
 split
 ·exact ⟨Ry (sz4 a ha),Rx (by decide) (by decide)⟩
 ·exact ⟨Ry (sz4 a ha),Rx (sz4 b hb) (by decide)⟩
theorem rB {o:RawOp} {q:Rat} (h:Qs 128 q):Qs 257 (Iu o q):=by
 have h1:=Ew (v:=o.n) (n:=5) (by decide);have h2:=Ew (v:=o.d) (n:=4) (by decide);have:=Qvu h ((rC (a:=S6 o.n 5-1) (b:=1+S6 o.d 4) (by omega) (by omega)).mono (by decide));exact this
abbrev enP (E:Es) (ms:Ur) (N:Int) (o:RawOp) (lx ly:Us) (bb:Bool) (l3:Us):Ut:=[.blk 80 (mD 0 E.q),tB E.np E.nd E.M,bS E.s E.M E.q,bT E.t E.M E.q,bH E.h E.M E.q,bP E.p E.M E.q,bD E.d E.M E.q,.blk 27 (iC ms N),.blk 44 (Qt6 o lx ly bb l3)]
set_option maxHeartbeats 4000000 in
theorem Qnl {E:Es} {N:Int} {o:RawOp} {ms:Ur} {lx ly:Us} {bb:Bool} {l3:Us} (ho:o.Ok) (hq:Qs 128 E.q):U7 prog 57 [.one (.ow 7 0),.one (.ow 8 0)] (enP E ms N o lx ly bb l3) [.agg (rl (Iu o E.q))] (enP E ms N o lx ly bb l3):=by
 have wn:=Cd (v:=o.n) (n:=5) ho.n (by decide);have wd:=Cd (v:=o.d) (n:=4) ho.d (by decide);have b1:=Ew (v:=o.n) (n:=5) (by decide);have b2:=Ew (v:=o.d) (n:=4) (by decide);have co:=Qrm (n:=S6 o.n 5-1) (d:=1+S6 o.d 4) (by omega) (by omega);have cf:=Qeg (q:=E.q) (hq.mono (by decide));have ca:=pS (a:=E.q) (b:=Gf (S6 o.n 5-1) (1+S6 o.d 4)) (hq.mono (by decide)) ((rC (by omega) (by omega)).mono (by decide));have ct:=IB (q:=Iu o E.q) ((rB hq).mono (by decide));have cc:=lQ (np:=E.np) (nd:=E.nd) (M:=E.M) (s:=E.s) (t:=E.t) (h:=E.h) (p:=E.p) (d:=E.d) hq;refine Fw func57 rfl ?_;exact Uh [] [0,1,2,3,4,5,6,7,8] [.lo,.c Uv cc,.k cf,.k wn,.k wd,.k co,.k ca,.k ct] rfl (by simp [U4]; omega)
def PW (o:RawOp):Rat:=Gf (vI (o.t.cutN 6)) (vI (o.u.cutN 6))
open Classical in
noncomputable def nearT (o:RawOp):Rat:=if Qs 128 (PW o) then SB (PW o) else PW o
noncomputable def aloneF (N:Int) (o:RawOp) (A:Em):Em×Int :=
 if S6 o.k 12<3 then A.ins ⟨Crv.norm (UM N o.p),sB o⟩
 else if S6 o.k 12=3 then A.del (sB o)
 else if S6 o.k 12=4 then A.rep ⟨Crv.norm (UM N o.p),sB o⟩
 else if S6 o.k 12=5 then A.rep ⟨Crv.norm (rI (UM N o.p).x (UM N o.p).y A.q),sB o⟩
 else if S6 o.k 12<9 then A.adv (Iu o A.q)
 else if S6 o.k 12=9 then (A,(A.adv (Iu o A.q)).2)
 else if S6 o.k 12=10 then A.adv (nearT o)
 else (A,(A.adv (nearT o)).2)
theorem Qnn {o:RawOp} (ho:o.Ok):∃ x0 x1 x2 x3 n m,Ge x0 x1 n/\Ge x2 x3 m/\Fe n<=4294967295/\Fe m<=4294967295/\Gf n m=nearT o/\Uj 61 [.agg (L8 (o.t.cutN 6)++L8 (o.u.cutN 6))] [.agg [x0,x1,x2,x3]]:=by
 have i1:=YS (ho.t.cutN_ok 6);have i2:=YS (ho.u.cutN_ok 6);have s1:=MC (ho.t.cutN_ok 6) (ZI o.t 6);have s2:=MC (ho.u.cutN_ok 6) (ZI o.u 6);have ln:∀ (z:RawInt) l,LV.row (lm (z.cutN 6).l)=.row (lm l)->l.length<=1000:=λz l h=>by
  have:=Qig h;have:=ZI z 6;omega
 by_cases hq:Qs 128 (PW o)
 ·have e:nearT o=SB (PW o):=if_pos hq;have hn:=oP hq;rw [e];exact ⟨_,_,_,_,_,_,U5 (SB (PW o)).num,U5 ((SB (PW o)).den:Int),Qa hn.1 (by decide),Qa hn.2 (by decide),Ts _,Qnp i1 i2 (ln o.t) (ln o.u) (by omega) (by omega) hq⟩
 ·have e:nearT o=PW o:=if_neg hq;rw [e];exact ⟨_,_,_,_,_,_,i1,i2,by omega,by omega,rfl,Qno i1 i2 (ln o.t) (ln o.u) (by omega) (by omega) hq⟩
set_option maxHeartbeats 8000000 in
theorem Qoe {E:Es} {b N:Int} {o:RawOp} {ms:Ur} (h:EOk b E) (hb:b<=900000000000000000) (hN:1<=N/\N<=4) (ho:o.Ok) :
 ∃ E',EOk (b+67000000) E'/\E'.m=(aloneF N o E.m).1/\dS 12 [.agg (iC ms N),.agg (rwo o)] E [.one (.int .i64 (aloneF N o E.m).2)] E':=by
 obtain ⟨lx,ly,bb,l3,i1,i2,i3,cp⟩:=Qtl (E:=E) (ms:=ms) hN ho;have wk:=Cd (v:=o.k) (n:=12) ho.k (by decide);have hW:=Ew (v:=o.k) (n:=12) (by decide);have hcs:=Qn3 (N:=N) ho.p;have hk:Cs 4294967294 1073741824 (Crv.mk (UM N o.p).x (UM N o.p).y (UM N o.p).d):=hcs.mono (by decide) (by decide);have cla:=Qnl (E:=E) (N:=N) (ms:=ms) (lx:=lx) (ly:=ly) (bb:=bb) (l3:=l3) ho h.q;have hla:=rB (o:=o) h.q;obtain ⟨x0,x1,x2,x3,n,m,n1,n2,n3,n4,n5,cnr⟩:=Qnn ho;have eq_:E.m.q=E.q:=rfl;unfold aloneF;rw [eq_];obtain ⟨W,hWe⟩:=nmE (S6 o.k 12);rw [<-hWe] at wk hW ⊢;by_cases w0:W<3
 ·rw [if_pos w0];obtain ⟨E',g1,g2,g3⟩:=CL h (id:=sB o) i1 i2 i3 hk;refine ⟨E',g1.mono (by omega),g2,?_⟩;refine Fw func12 rfl ?_;exact Uh [] [0,1,2,3,4,5,6] [.c Uv cp,.k wk,.T,.c Uv g3] rfl
 rw [if_neg w0];by_cases w1:W=3
 ·rw [if_pos w1];obtain ⟨E',g1,g2,g3⟩:=Qg4 h (id:=sB o);refine ⟨E',g1.mono (by omega),g2,?_⟩;refine Fw func12 rfl ?_;exact Uh [] [0,1,2,3,4,5,6] [.c Uv cp,.k wk,.F,.T,.c Uv g3] rfl
 rw [if_neg w1];by_cases w2:W=4
 ·rw [if_pos w2];obtain ⟨E',g1,g2,g3⟩:=uP h (id:=sB o) i1 i2 i3 hk;refine ⟨E',g1.mono (by omega),g2,?_⟩;refine Fw func12 rfl ?_;exact Uh [] [0,1,2,3,4,5,6] [.c Uv cp,.k wk,.F,.F,.T,.c Uv g3] rfl
 rw [if_neg w2];by_cases w3:W=5
 ·rw [if_pos w3];obtain ⟨E',g1,g2,g3⟩:=Que h (id:=sB o) i1 i2 hcs.x hcs.y (by decide) (Qa hcs.lx (by decide)) (Qa hcs.ly (by decide));refine ⟨E',g1.mono (by omega),g2,?_⟩;refine Fw func12 rfl ?_;exact Uh [] [0,1,2,3,4,5,6] [.c Uv cp,.k wk,.F,.F,.F,.T,.c Uv g3] rfl
 rw [if_neg w3];by_cases w4:W<9
 ·rw [if_pos w4];obtain ⟨E',g1,g2,_,g3⟩:=I7 h hb (U5 (Iu o E.q).num) (U5 ((Iu o E.q).den:Int)) (Qa hla.1 (by decide)) (Qa hla.2 (by decide)) (Ts _);refine ⟨E',g1,g2,?_⟩;refine Fw func12 rfl ?_;exact Uh [] [0,1,2,3,4,5,6] [.c Uv cp,.k wk,.F,.F,.F,.F,.T,.lo,.c [0,1,2,3,4,5,6,7,8] cla,.c Uv g3] rfl
 rw [if_neg w4];by_cases w5:W=9
 ·rw [if_pos w5];have g3:=jF h hb (U5 (Iu o E.q).num) (U5 ((Iu o E.q).den:Int)) (Qa hla.1 (by decide)) (Qa hla.2 (by decide)) (Ts _);refine ⟨E,h.mono (by omega),rfl,?_⟩;obtain ⟨a,ha,hal⟩:∃ a,a=E.m.ans (Iu o E.q)/\∃ a0 a1 a2 a3 a4,a=[LV.row a0,.row a1,.row a2,.row a3,.row a4]:=⟨_,rfl,by unfold Em.ans; split <;> exact ⟨_,_,_,_,_,rfl⟩⟩;rw [<-ha] at g3;obtain ⟨a0,a1,a2,a3,a4,rfl⟩:=hal;refine Fw func12 rfl ?_;exact Uh [] [0,1,2,3,4,5,6] [.c Uv cp,.k wk,.F,.F,.F,.F,.F,.T,.lo,.c [0,1,2,3,4,5,6,7,8] cla,.c Uv g3] rfl
 rw [if_neg w5];by_cases w6:W=10
 ·rw [if_pos w6];obtain ⟨E',g1,g2,_,g3⟩:=I7 h hb n1 n2 n3 n4 n5;refine ⟨E',g1,g2,?_⟩;obtain ⟨b1,r1,rfl,rfl,_⟩:=n1;obtain ⟨b2,r2,rfl,rfl,_⟩:=n2;refine Fw func12 rfl ?_;exact Uh [] [0,1,2,3,4,5,6] [.c Uv cp,.k wk,.F,.F,.F,.F,.F,.F,.T,.k cnr,.c Uv g3] rfl
 ·rw [if_neg w6];have g3:=jF h hb n1 n2 n3 n4 n5;refine ⟨E,h.mono (by omega),rfl,?_⟩;obtain ⟨b1,r1,rfl,rfl,_⟩:=n1;obtain ⟨b2,r2,rfl,rfl,_⟩:=n2;obtain ⟨a,ha,hal⟩:∃ a,a=E.m.ans (nearT o)/\∃ a0 a1 a2 a3 a4,a=[LV.row a0,.row a1,.row a2,.row a3,.row a4]:=⟨_,rfl,by unfold Em.ans; split <;> exact ⟨_,_,_,_,_,rfl⟩⟩;rw [<-ha] at g3;obtain ⟨a0,a1,a2,a3,a4,rfl⟩:=hal;refine Fw func12 rfl ?_;exact Uh [] [0,1,2,3,4,5,6] [.c Uv cp,.k wk,.F,.F,.F,.F,.F,.F,.F,.k cnr,.c Uv g3] rfl
end Orr
namespace Orr
open Go Go.Proofs Tryz Orq
set_option maxRecDepth 10000
theorem kE {b:Int} (h:0<=b):0<=(0:Int)/\(0:Int)<=b:=⟨Yd _,h⟩
def IQ (np nd:Int):Es:=⟨np,nd,[],0,Qmh [] (tq 0),Qxf [] (tq 0),Qxd [] (tq 0),Qxe [] (tq 0),Qxc [] (tq 0)⟩
theorem YB:MOk []:=⟨λp h=>(by cases h),by decide,List.Pairwise.nil⟩
theorem Qiz {np nd:Int} (h1:1<=np/\np<=6) (h2:0<=nd/\nd<=2):EOk 0 (IQ np nd):=by
 have hq:Qs 1640000 (0:Rat):=⟨by decide,by decide⟩;exact ⟨h1,h2,⟨YB,by show ((0:Nat):Int)<=np; omega,λp h=>(by cases h),λp h=>(by cases h)⟩,(show Qs 128 (0:Rat) from ⟨by decide,by decide⟩),At.begin okS YB hq,At.begin okT YB hq,At.begin okH YB hq,At.begin okP YB hq,At.begin okD YB hq,kE (Yd _),kE (Yd _),kE (Yd _),kE (Yd _),kE (Yd _)⟩
theorem Qet {np nd:Int} (h1:1<=np/\np<=6) (h2:0<=nd/\nd<=2):U7 prog 54 [.oi np,.oi nd] [] [.one (.ow 0 0),.oi 0] (enB 0 (IQ np nd)):=Qta h1 h2
theorem Qwr:(KI (JA PG) (IG PG) 3 600 (Qmh PG (tq 0)) (IG PG (tq 0)) 0).map (λx=>x.2.2)=some 1:=by decide +kernel
theorem Qq0:(Tu (tq 3) PG).map (·.id)=[2,1]:=by decide +kernel
theorem Qis:MOk PG:=⟨Qzc,by decide,by unfold Nq PG; decide⟩
theorem Qwq:cnt (JA PG) 0 3=1:=by
 have hq:Qs 1640000 (0:Rat):=⟨by decide,by decide⟩;have ht:Qs 1640000 (3:Rat):=⟨by decide,by decide⟩;have S:=okS.st PG Qis;have hv:=IK hq;have hP:=okS.cp PG Qis;have hm:=NS hP;have hmu:=Qiu ((kS.al PG).flatMap AZ) (tq 0);have hl:(Eh PG).length=8:=by rw [kL]; rfl
 have hc:¬Ns (tq 3) (tq 0):=λh'=>by
  have:=(KB hv.cut).2 h';rw [sQ] at this;exact absurd this (by decide +kernel)
 have hl2:(kS.al PG).length=8:=hl;obtain ⟨c',r',E,g1,g2,g3,g4,g5,g6⟩:=Qhv S ht hP (λa _=>okS.al PG a) 599 ⟨tq 0,(Fx (JA PG (tq 0))).map fresh,0⟩ (IG PG (tq 0)) 0 (Qa hmu (by omega)) (Qd7 S hv) hc;have h1:=Qwr;have g1:KI (JA PG) (IG PG) 3 600 (Qmh PG (tq 0)) (IG PG (tq 0)) 0=some (c',r',0+((E.length:Nat):Int)):=g1;rw [g1] at h1;have h1:some (0+((E.length:Nat):Int))=some 1:=h1;injection h1 with h1;rw [Qgl S hv g6];omega
theorem Qi1:Crv.norm (Crv.mk [0,1] [] 0)=run1:=by
 have e:Crv.norm (Crv.mk [0,1] [] 1)=Crv.norm (Crv.mk [0,1] [] 0):=by simp only [Crv.norm,Crv.g,Crv.d']; rfl
 rw [<-e]; exact Crv.norm_of LP
theorem Qxv:Uj 80 [.one (.row [[.bool false,.row []],[.bool false,.row [[.int .u32 1]]]]),.one (.row [])] [.agg (cl run1)]:=by
 have i01:IsInts [[.bool false,.row []],[.bool false,.row [[.int .u32 1]]]] [0,1]:=by
  refine ⟨⟨_,_,rfl,false,[],rfl,rfl,(λx hx=>by cases hx),rfl⟩,⟨_,_,rfl,false,[1],rfl,rfl,(λx hx=>by rw [Qk.1 hx]; decide),rfl⟩,trivial⟩
 have h:=Qrp (lx:=[[.bool false,.row []],[.bool false,.row [[.int .u32 1]]]]) (ly:=[]) (px:=[0,1]) (py:=[]) i01 trivial ⟨U6 cs_run1.x (by decide),ZD,by show Fe 0<=_; decide,by show 2<=1073741824; decide,by show 0<=1073741824; decide⟩;rw [Qi1] at h; exact h
theorem Qpt:No 2 1 [] ⟨run1,1⟩=0:=by decide +kernel
theorem Qpu:No 2 1 [⟨run1,1⟩] ⟨O7 1 0,2⟩=0:=by decide +kernel
theorem Qwt:∃ E1 E2:Es,EOk 0 E2/\E2.m=⟨2,1,PG,0,0,0,0,0,0⟩/\dS 58 [.one (.ow 0 0),.oi 1,.agg (cl run1)] (IQ 2 1) [.oi 0] E1/\dS 58 [.one (.ow 0 0),.oi 2,.agg (cl (O7 1 0))] E1 [.oi 0] E2:=by
 have h0:=Qiz (np:=2) (nd:=1) (by decide) (by decide);have hst:=tW (x:=1) (y:=0) (by decide) (by decide);have e1:Crv.norm (Crv.mk run1.x run1.y run1.d)=run1:=Crv.norm_of LP;have e2:Crv.norm (Crv.mk (O7 1 0).x (O7 1 0).y (O7 1 0).d)=O7 1 0:=Crv.norm_of hst.n;obtain ⟨E1,a1,a2,a3⟩:=CL h0 (id:=1) (Gp run1.x) (Gp run1.y) (U5 run1.d) (cs_run1.up (by decide) (by decide));rw [e1] at a2 a3;have i1:(IQ 2 1).m.ins ⟨run1,1⟩=((⟨2,1,[⟨run1,1⟩],0,0,0,0,0,0⟩:Em),0):=by
  unfold Em.ins;rw [show No (IQ 2 1).m.np (IQ 2 1).m.nd (IQ 2 1).m.M ⟨run1,1⟩=0 from Qpt,if_pos rfl]; rfl
 rw [i1] at a2 a3;obtain ⟨E2,b1,b2,b3⟩:=CL a1 (id:=2) (Gp (O7 1 0).x) (Gp (O7 1 0).y) (U5 (O7 1 0).d) (hst.c.mono (by decide) (by decide));rw [e2,a2] at b2 b3;have i2:((⟨2,1,[⟨run1,1⟩],0,0,0,0,0,0⟩:Em),(0:Int)).1.ins ⟨O7 1 0,2⟩=((⟨2,1,PG,0,0,0,0,0,0⟩:Em),0):=by
  unfold Em.ins;dsimp only;rw [Qpu,if_pos rfl]; rfl
 rw [i2] at b2 b3;exact ⟨E1,E2,b1,b2,a3,b3⟩
theorem Qik {E:Es} {A:Em} (h:E.m=A):E.np=A.np/\E.nd=A.nd/\E.M=A.M/\E.q=A.q/\E.s.ev=A.s/\E.t.ev=A.t/\E.h.ev=A.h/\E.p.ev=A.p/\E.d.ev=A.d:=by subst h; exact ⟨rfl,rfl,rfl,rfl,rfl,rfl,rfl,rfl,rfl⟩
theorem Qdx {A:Em} {t:Rat} (h1:Qs 128 t) (h2:¬t<A.q):A.adv t=(({ A with q:=t,s:=A.s+(cnt (JA A.M) A.q t:Nat),t:=A.t+(cnt (xG A.M) A.q t:Nat),h:=A.h+(cnt (AB A.M) A.q t:Nat),p:=A.p+(cnt (dL A.M) A.q t:Nat),d:=A.d+(cnt (wQ A.M) A.q t:Nat) }:Em),0):=by
 unfold Em.adv; rw [if_pos h1]; exact if_neg h2
theorem YK:Uj 30 [] [.one (.bool true)]:=by
 obtain ⟨E1,E2,h2,m2,i1,i2⟩:=Qwt;have ht:Qs 128 (3:Rat):=⟨by decide,by decide⟩;obtain ⟨E3,h3,m3,_,a3⟩:=I7 h2 (by decide) (U5 (3:Rat).num) (U5 ((3:Rat).den:Int)) (by decide) (by decide) (Ts 3);rw [m2,Qdx ht (by show ¬(3:Rat)<0; decide)] at m3 a3;obtain ⟨_,_,e1,e2,e3,_⟩:=Qik m2;obtain ⟨_,_,f1,f2,f3,_⟩:=Qik m3;dsimp only at e1 e2 e3 f1 f2 f3;rw [Qwq] at f3;have t2:=HH (np:=E2.np) (nd:=E2.nd) (M:=E2.M) (q:=E2.q) (s:=E2.s) (t:=E2.t) (h:=E2.h) (p:=E2.p) (d:=E2.d) h2.m.m.ln;have t3:=HH (np:=E3.np) (nd:=E3.nd) (M:=E3.M) (q:=E3.q) (s:=E3.s) (t:=E3.t) (h:=E3.h) (p:=E3.p) (d:=E3.d) h3.m.m.ln;obtain ⟨A2,hA2⟩:=nmE (xK E2.M E2.q);obtain ⟨A3,hA3⟩:=nmE (xK E3.M E3.q);rw [<-hA2] at t2;rw [<-hA3] at t3;have g2:∃ a b c d,A2=[ids [1,2],.row a,.row b,.row c,.row d]:=by
  rw [hA2,e1,e2];show ∃ a b c d,[ids ((Tu (tq 0) PG).map (·.id)),_,_,_,_]=_;rw [Qws];exact ⟨_,_,_,_,rfl⟩
 have g3:∃ a b c d,A3=[ids [2,1],.row a,.row b,.row c,.row d]:=by
  rw [hA3,f1,f2];show ∃ a b c d,[ids ((Tu (tq 3) PG).map (·.id)),_,_,_,_]=_;rw [Qq0];exact ⟨_,_,_,_,rfl⟩
 obtain ⟨a,b,c,d,rfl⟩:=g2;obtain ⟨a',b',c',d',rfl⟩:=g3;have cs:=pL (a:=[1,2]) (b:=[1,2]) (by decide) (by decide);have cs2:=pL (a:=[2,1]) (b:=[2,1]) (by decide) (by decide);have co:=KU (n:=3) (by decide);have ct:=IB (q:=3) ⟨by decide,by decide⟩;have cst:=Qm8 (x:=1) (y:=0) (by decide) (by decide);have ce:=wJ (np:=E3.np) (nd:=E3.nd) (M:=E3.M) (q:=E3.q) (s:=E3.s) (t:=E3.t) (h:=E3.h) (p:=E3.p) (d:=E3.d);rw [f3] at ce;refine Fw func30 rfl ?_;exact Uf [.c Uv (Qet (by decide) (by decide)),.f rfl,.f rfl,.z 16,.k Qxv,.c Uv i1,.f rfl,.k cst,.c Uv i2,.f rfl,.c Uv t2,.k co,.k ct,.c Uv a3,.t rfl,.k cs,.t rfl,.c Uv t3,.k cs2,.t rfl,.c Uv ce,.i 0] rfl rfl (by simp [U4])
theorem Qjw {a b:Int} {s:Nat} (ha:Fe a<=s) (hb:Fe b<=s) (h1:1<=s):Qs s (Gf a b):=by
 unfold Gf
 split
 ·exact ⟨Ry ha,Rx (Qa (show Fe 1<=1 by decide) h1) h1⟩
 ·exact ⟨Ry ha,Rx hb h1⟩
theorem qV {z:Int} (h:-127<=z/\z<=127):Fe z<=7:=by
 have:(2:Nat)^7=128:=by decide
 exact Sf.2 (by omega)
theorem Ql8 {A:Em} {t:Rat} (h:(A.adv t).2≠0):(A.adv t).1=A/\A.ans t=Qsw:=by
 refine ⟨?_,if_neg h⟩;unfold Em.adv at h ⊢;by_cases a:Qs 128 t
 ·rw [if_pos a] at h ⊢;by_cases b:t<A.q
  ·rw [if_pos b]
  ·rw [if_neg b] at h; exact absurd rfl h
 ·rw [if_neg a]
theorem Qdy {A:Em} {t:Rat} (h:(A.adv t).2=0):(A.adv t).1.M=A.M/\(A.adv t).1.q=t/\A.ans t=xK A.M t:=by
 have e:A.ans t=xK A.M t:=if_pos h;unfold Em.adv at h ⊢;by_cases a:Qs 128 t
 ·rw [if_pos a] at h ⊢;by_cases b:t<A.q
  ·rw [if_pos b] at h; cases h
  ·rw [if_neg b]; exact ⟨rfl,rfl,e⟩
 ·rw [if_neg a] at h; cases h
theorem Qs.n32 {s:Nat} {t:Rat} (h:Qs s t) (hs:s<=4294967295):Fe t.num<=4294967295/\Fe (t.den:Int)<=4294967295:=⟨Qa h.1 hs,Qa h.2 hs⟩
theorem Qud {E:Es} {b:Int} {s:Nat} (h:EOk b E) (hb:b<=900000000000000000) {t:Rat} (ht:Qs s t) (hs:s<=4294967295):∃ E',EOk (b+67000000) E'/\E'.m=(E.m.adv t).1/\((E.m.adv t).2≠0->E'=E)/\dS 17 [.one (.ow 0 0),.agg (rl t)] E [.one (.int .i64 (E.m.adv t).2)] E' :=
 I7 h hb (U5 t.num) (U5 (t.den:Int)) (ht.n32 hs).1 (ht.n32 hs).2 (Ts t)
theorem Qui {E:Es} {b:Int} {s:Nat} (h:EOk b E) (hb:b<=900000000000000000) {t:Rat} (ht:Qs s t) (hs:s<=4294967295):dS 20 [.one (.ow 0 0),.agg (rl t)] E [.agg (E.m.ans t),.one (.int .i64 (E.m.adv t).2)] E :=
 jF h hb (U5 t.num) (U5 (t.den:Int)) (ht.n32 hs).1 (ht.n32 hs).2 (Ts t)
end Orr
namespace Orr
theorem bz1:Bd 9000000 [1]:=λz hz=>by obtain rfl:=Qk.1 hz; decide
theorem bz2:Bd 9000000 [0,1]:=λz hz=>by
 simp only [Qm,Jm,or_false] at hz;rcases hz with rfl | rfl <;> decide
theorem Q0c:∀ z∈([0,1]:Um),Fe z≤1:=by
 intro z hz;simp only [Qm,Jm,or_false] at hz;rcases hz with rfl | rfl <;> decide
theorem rz:RRun [1] 1 [0,1] []:=by
 refine .step (by decide) (by decide) bz2 bz1 ?_;rw [show tV [0,1] [1]=[] by decide];exact .stop (by decide)
theorem dz2:DOk [0,1] [1] [0,1]:=by
 refine ⟨by decide,by decide,by decide,bz1,[0,1],[],1,bz2,by decide,?_,by decide⟩;refine .step (by decide) (by decide) bz2 (by decide) (by decide) (by decide) ?_;exact .stop (by decide)
theorem dz1:DOk [1] [1] [1]:=by
 refine ⟨by decide,by decide,by decide,bz1,[1],[],1,bz1,by decide,?_,by decide⟩;refine .step (by decide) (by decide) bz1 (by decide) (by decide) (by decide) ?_;exact .stop (by decide)
theorem Qvw:Qdu 0 [[-(0:Rat).num,((0:Rat).den:Int)],[1]]:=by
 show Qdu 0 [[0,1],[1]];refine ⟨[0,1],?_⟩;show ChRun [0,1] [0,1] [[0,1],[1]];have e1:To [0,1]=[0,1]:=by decide
 have e2:Gx [0,1]=[1]:=by decide
 have e3:To [1]=[1]:=by decide
 have e4:Bj [1]=[1]:=by decide
 refine ⟨⟨1,λ_=>[0,1],⟨⟨1,[[0,1],[1]],?_,rfl,λk hk=>?_⟩,by decide⟩,λi hi=>?_,by decide⟩,⟨1,?_⟩,λz hz=>Qa (Q0c z hz) (by decide),by decide,by decide⟩
 ·rw [e1];refine .step (by decide) (by decide) (by show trim _=_; decide) bz2 (by show Bd _ (Gx [0,1]); rw [e2]; exact bz1) (m:=1) (g:=[1]) ?_ (by decide) (.stop (by decide));show GRun 1 (To [0,1]) (To (Gx [0,1])) [1];rw [e1,e2,e3];refine .step (by decide) (by decide) bz1 rz (by decide) (λz hz=>by cases hz) rfl ?_;rw [show To []=[] by decide];exact .stop _
 ·obtain rfl:k=0:=by omega
  exact ⟨[0,1],[1],[0,1],dz2,dz1,by rw [e1,e3]; exact dz2,e1.symm⟩
 ·obtain rfl:i=0:=by omega
  exact ⟨bz1,by decide,bz2,by decide⟩
 ·rw [e2,e4];refine .step (by decide) (by decide) bz1 (m:=1) (r:=[]) rz rfl (λz hz=>by cases hz) (by decide) (by decide) (by decide) ?_;exact .stop (by decide)
end Orr
namespace Orr
open Go Go.Proofs Tryz Orq
set_option maxRecDepth 10000
theorem Qg6 {q:Rat} {c:Un}:Uj 324 [.one (.row []),.agg (aq q c)] [.one (.row [])]:=by
 refine Fw func324 rfl ?_;refine Ud [.z 5] rfl ?_;refine Ui (S:=Unit) 1 (λL1 _=>(10,.v (.oi 0))::(5,.v (.one (.row [])))::L1) (λ_=>[.blk 90 (aq q c)]) (λ_=>0) (λ_=>True) () trivial rfl rfl λ_ _=>?_
 exact Uf [.f rfl] rfl
theorem mM:Uj 326 [.one (.row [])] [.one (.row [])]:=by
 refine Fw func326 rfl ?_;refine Ud [.z 3] rfl ?_;refine Ui (S:=Unit) 0 (λL1 _=>(8,.v (.oi 0))::(3,.v (.one (.row [])))::L1) (λ_=>[]) (λ_=>0) (λ_=>True) () trivial rfl rfl λ_ _=>?_
 exact Uf [.f rfl] rfl
theorem Qg2:Uj 328 [.one (.row [])] [.one (.row [])]:=by
 refine Fw func328 rfl ?_;refine Ud [.z 3] rfl ?_;refine Ui (S:=Unit) 0 (λL1 _=>(8,.v (.oi 0))::(3,.v (.one (.row [])))::L1) (λ_=>[]) (λ_=>0) (λ_=>True) () trivial rfl rfl λ_ _=>?_
 exact Uf [.f rfl] rfl
theorem Qg7:Uj 331 [.one (.row [])] [.one (.row [])]:=by
 refine Fw func331 rfl ?_;refine Ud [.z 3,.k Qg2] rfl ?_;refine Ui (S:=Unit) 0 (λL1 _=>(11,.v (.oi 0))::(3,.v (.one (.row [])))::L1) (λ_=>[]) (λ_=>0) (λ_=>True) () trivial rfl rfl λ_ _=>?_
 exact Uf [.f rfl] rfl
section
variable {q:Rat} {c:Un}
theorem Qg5:Uj 294 [.one (.row []),.agg (aq q c)] [.one (.row [])]:=by
 refine Fw func294 rfl ?_;refine Ud [.k Qg6,.z 6] rfl ?_;refine Ui (S:=Unit) 1 (λL1 _=>(7,.v (.oi 0))::(6,.v (.one (.row [])))::L1) (λ_=>[.blk 90 (aq q c)]) (λ_=>0) (λ_=>True) () trivial rfl rfl λ_ _=>?_
 exact Uf [.f rfl,.k mM] rfl rfl (by simp [U4])
theorem Qul:Uj 295 [.one (.row []),.agg (aq q c)] [.one (.row [])]:=Ug func295 rfl [.t rfl,.z 4] rfl
theorem Qb3:Uj 329 [.one (.row []),.agg (aq q c)] [.one (.row [])]:=Ug func329 rfl [.k Qg7,.t rfl] rfl
theorem Quf:Uj 296 [.one (.row []),.agg (aq q c)] [.one (.row [])]:=by
 refine Fw func296 rfl ?_;refine Ud [.k Qg5,.k Qb3] rfl ?_;refine Ui (S:=Unit) 1 (λL1 _=>(7,.v (.oi 0))::(5,.v (.one (.row [])))::L1) (λ_=>[.blk 90 (aq q c)]) (λ_=>0) (λ_=>True) () trivial rfl rfl λ_ _=>?_
 exact Uf [.f rfl,.f rfl,.k mM] rfl
abbrev zPq:Ur:=[.row [],.row [],.row [],.row [],.bool false,.row [],.int .i64 0]
theorem Qb2:Uj 330 [.one (.row []),.agg (aq q c)] [.agg zPq,.agg zPq,.one (.bool false)]:=Ug func330 rfl [.k Qg2,.t rfl] rfl
theorem Quh:Uj 297 [.one (.row []),.agg (aq q c)] [.one (.row [])]:=Ug func297 rfl [.k Qb2,.t rfl,.z 4] rfl
theorem Qug:Uj 298 [.one (.row []),.agg (aq q c)] [.one (.row [])]:=by
 refine Fw func298 rfl ?_;refine Ud [.k Qg7,.z 6] rfl ?_;refine Ui (S:=Unit) 1 (λL1 _=>(15,.v (.oi 0))::(6,.v (.one (.row [])))::L1) (λ_=>[.blk 90 (aq q c)]) (λ_=>0) (λ_=>True) () trivial rfl rfl λ_ _=>?_
 exact Uf [.f rfl,.k mM] rfl
theorem UD (k:Nat) (hk:k<5):Uj 201 [.oi k,.one (.row []),.agg (aq q c)] [.one (.row [])]:=by
 refine (?_:Uj 263 [.oi k,.one (.row []),.agg (aq q c)] [.one (.row [])]->_) ?_
 ·intro h;exact Ug func201 rfl [.k h] rfl
 ·rcases (show k=0\/k=1\/k=2\/k=3\/k=4 by omega) with rfl | rfl | rfl | rfl | rfl
  ·exact Ug func263 rfl [.t rfl,.k Qg5] rfl
  ·exact Ug func263 rfl [.f rfl,.t rfl,.k Qul] rfl
  ·exact Ug func263 rfl [.f rfl,.f rfl,.t rfl,.k Quf] rfl
  ·exact Ug func263 rfl [.f rfl,.f rfl,.f rfl,.t rfl,.k Quh] rfl
  ·exact Ug func263 rfl [.f rfl,.f rfl,.f rfl,.f rfl,.k Qug] rfl
end
theorem CE:Uj 200 [.one (.row []),.one (.row [])] [.one (.row [])]:=by
 refine Fw func200 rfl ?_;refine Ud [] rfl ?_;refine Ui (S:=Unit) 0 (λL1 _=>(9,.v (.oi 0))::L1) (λ_=>[]) (λ_=>0) (λ_=>True) () trivial rfl rfl λ_ _=>?_
 exact Uf [.f rfl] rfl
end Orr
namespace Orr
open Go Go.Proofs Tryz Orq
set_option maxRecDepth 10000
abbrev cC:Un:=[[-(0:Rat).num,((0:Rat).den:Int)],[1]]
abbrev Qxx:Ur:=[.nils,.nils,.nils,.bool false,.nils,.bool false,.nils,.bool false,.nils,.bool false,.nils,.int .i64 0,.nils]
abbrev Qxy:Ur:=aq 0 cC++[.row [],.int .i64 0,.nils]
abbrev Qke (k i:Nat):Ur:=match Nat.blt k i with
 | true=>Qxy
 | false=>Qxx
abbrev mdl (np nd:Int) (i:Nat):Ur:=[.int .i64 np,.int .i64 nd,.nils]++fr 0++Qke 0 i++Qke 1 i++Qke 2 i++Qke 3 i++Qke 4 i
set_option maxHeartbeats 4000000 in
theorem Qeo {np nd:Int}:U7 prog 128 [.one (.ow 0 0)] [.blk 207 (mdl np nd 0)] [] [.blk 207 (mdl np nd 5)]:=by
 have hq:Qs 2000000 (0:Rat):=⟨by decide,by decide⟩;have cr:=wM hq Qvw;refine Fw func128 rfl ?_;refine Ud [.k cr] rfl ?_;refine Ui (S:=Nat) 2 (λL1 i=>(9,.v (.oi i))::L1) (λi=>[.blk 207 (mdl np nd i),.blk 90 (aq 0 cC)]) (λi=>5-i) (λi=>i<=5) 0 (by decide) rfl rfl λi hi=>?_
 rcases (show i=0\/i=1\/i=2\/i=3\/i=4\/i=5 by omega) with rfl | rfl | rfl | rfl | rfl | rfl
 ·exact go tt [.t rfl,.i 0,.i 0,.i 0,.k (UD 0 (by decide)),.k CE,.i 0] rfl (by simp [U4]) (rd 1 (by omega) (by omega) rfl)
 ·exact go tt [.t rfl,.i 1,.i 1,.i 1,.k (UD 1 (by decide)),.k CE,.i 1] rfl (by simp [U4]) (rd 2 (by omega) (by omega) rfl)
 ·exact go tt [.t rfl,.i 2,.i 2,.i 2,.k (UD 2 (by decide)),.k CE,.i 2] rfl (by simp [U4]) (rd 3 (by omega) (by omega) rfl)
 ·exact go tt [.t rfl,.i 3,.i 3,.i 3,.k (UD 3 (by decide)),.k CE,.i 3] rfl (by simp [U4]) (rd 4 (by omega) (by omega) rfl)
 ·exact go tt [.t rfl,.i 4,.i 4,.i 4,.k (UD 4 (by decide)),.k CE,.i 4] rfl (by simp [U4]) (rd 5 (by omega) (by omega) rfl)
 ·exact Uh [] [0] [.f rfl] rfl
theorem Qtg {np nd:Int} (h1:1<=np/\np<=6) (h2:0<=nd/\nd<=2):U7 prog 55 [.oi np,.oi nd] [] [.one (.ow 0 0),.oi 0] [.blk 207 (mdl np nd 5)]:=by
 have co:=KU (n:=0) (by decide);rw [show ((0:Int):Rat)=0 from rfl] at co;refine Fw func55 rfl ?_;exact Uh [] [0] [.F,.f (by simp; omega),.f (by simp; omega),.f (by simp; omega),.k co,.c [0] Qeo] rfl
theorem Qml {a b:Int} (ha:-9223372036854775808<=a/\a<=9223372036854775807) (hb:-9223372036854775808<=b/\b<=9223372036854775807):∃ (N nd:Int) (ms:Ur),(1<=N/\N<=4)/\(0<=nd/\nd<=2)/\EOk 0 (IQ N nd)/\N=1+S6 a 4/\nd=S6 b 3 /\
 U7 prog 11 [.oi a,.oi b] [] [.agg [.ow 0 0,.sh ms,.int .i64 N],.one (.bool true)] (enB 0 (IQ N nd)):=by
 have w1:=Ew (v:=a) (n:=4) (by decide);have w2:=Ew (v:=b) (n:=3) (by decide);have c1:=Cd (v:=a) (n:=4) ha (by decide);have c2:=Cd (v:=b) (n:=3) hb (by decide);obtain ⟨N,hN⟩:=nmE (1+S6 a 4);obtain ⟨nd,hnd⟩:=nmE (S6 b 3);have hN4:1<=N/\N<=4:=by omega
 have hd2:0<=nd/\nd<=2:=by omega
 have cn:=Qet (np:=N) (nd:=nd) (by omega) hd2;have cm:=Qtg (np:=N) (nd:=nd) (by omega) hd2;refine ⟨N,nd,mdl N nd 5,hN4,hd2,Qiz (by omega) hd2,hN,hnd,?_⟩;refine Fw func11 rfl ?_;exact Uh [8] [1,2,3,4,5,6,7] [.k c1,.r 12 (eI hN.symm),.k c2,.r 14 (eI hnd.symm),.c [1,2,3,4,5,6,7] cn,.c [8] cm,.t rfl,.t rfl] rfl (by simp [U4]; omega)
abbrev enL (E:Es) (ms:Ur) (N:Int):Ut:=[.blk 80 (mD 0 E.q),tB E.np E.nd E.M,bS E.s E.M E.q,bT E.t E.M E.q,bH E.h E.M E.q,bP E.p E.M E.q,bD E.d E.M E.q,.blk 27 [.ow 0 0,.sh ms,.int .i64 N]]
set_option maxHeartbeats 8000000 in
theorem PR {a b n d:Int} {l:List RawOp} (ha:-9223372036854775808≤a/\a≤9223372036854775807) (hb:-9223372036854775808≤b/\b≤9223372036854775807) (hl:∀ x∈l,x.Ok) (hn:-9223372036854775808≤n/\n≤9223372036854775807) (hd:-9223372036854775808≤d/\d≤9223372036854775807):Uj 6 [.oi a,.oi b,.one (.row (qP l)),.oi n,.oi d] [.one (.bool true)]:=by
 obtain ⟨N,nd,ms,hN,hnd,h0,_,_,cb⟩:=Qml ha hb;have hll:=Qct l;refine Fw func6 rfl (ln 2 rfl rfl λhcl=>?_);rw [hll] at hcl;refine Ud [.c Uv cb,.f rfl] rfl ?_;refine Ui (S:=Nat×Es) 8 (λL1 s=>(13,.v (.oi (s.1:Int)))::L1) (λs=>enL s.2 ms N) (λs=>6-s.1) (λs=>s.1<=6/\s.1<=l.length/\EOk (67000000*s.1) s.2) (0,IQ N nd) ⟨by show 0<=6; decide,Qh _,h0.mono (show (0:Int)<=67000000*((0:Nat):Int) by decide)⟩ rfl rfl λ⟨i,E⟩ ⟨hi,hi2,hE⟩=>?_
 dsimp only at hi hi2 hE ⊢;by_cases hr:i<l.length/\i<6
 ·obtain ⟨x,hx⟩:=gxE (l:=l) (i:=i) hr.1;obtain ⟨E',e1,e2,e3⟩:=Qoe (ms:=ms) hE (by omega) hN (hl x (Qc hx));refine Ue [.T,.T,.x (Qcs hx),.c Uv e3] rfl ?_;have e:67000000*(i:Int)+67000000=67000000*((i+1:Nat):Int):=by omega
  rw [e] at e1;exact rd (i+1,E') (by dsimp only; omega) ⟨hr.2,hr.1,e1⟩ rfl
 have csm:=Qm7 hn hd;have b1:=Ew (v:=n) (n:=61) (by decide);have b2:=Ew (v:=d) (n:=6) (by decide);have hT:=Qjw (qV (z:=S6 n 61-30) (by omega)) (qV (z:=1+S6 d 6) (by omega)) (by decide);obtain ⟨T,hTe⟩:=nmE (Gf (S6 n 61-30) (1+S6 d 6));rw [<-hTe] at csm hT;have ct:=IB (q:=T) (hT.mono (by decide));have gq:=Qui hE (by omega) hT (by decide);have cE:=Qg3 (E:=E);have ccl:=Qof hE;obtain ⟨G,g1,g2,g3,g4⟩:=Qud hE (by omega) hT (by decide);by_cases hne:(E.m.adv T).2≠0
 ·rw [(Ql8 hne).2] at gq;rw [g3 hne] at g4;have csa:=Quj (E:=E) (F:=E) hE rfl rfl;by_cases hj:i<l.length
  ·exact Uf [.T,.F,.k csm,.k ct,.c Uv gq,.c Uv cE,.c Ux ccl,.f rfl,.c Uw g4,.g 70 false (by simp),.lo,.c Uv cE,.f (by simp),.t (decide_eq_true hne),.t rfl,.c U0 csa,.t rfl,.k YK] rfl rfl (by simp [U4] <;> omega)
  ·exact Uf [.F,.f rfl,.k csm,.k ct,.c Uv gq,.c Uv cE,.c Ux ccl,.f rfl,.c Uw g4,.g 70 false (by simp),.lo,.c Uv cE,.f (by simp),.t (decide_eq_true hne),.t rfl,.c U0 csa,.t rfl,.k YK] rfl rfl (by simp [U4] <;> omega)
 have h0:(E.m.adv T).2=0:=by omega
 obtain ⟨k1,k2,k3⟩:=Qdy h0;rw [k3,h0] at gq;rw [h0] at g4;obtain ⟨_,_,q1,q2,_⟩:=Qik g2;rw [k1] at q1;rw [k2] at q2;have q1:G.M=E.M:=q1;have tl:=Quk g1;rw [q1,q2] at tl;have gq:dS 20 [.one (.ow 0 0),.agg (rl T)] E [.agg (xK E.M T),.oi 0] E:=gq;have hs:∀ {l:Um},l.length<=1000000->Uj 40 [.one (ids l),.one (ids l)] [.one (.bool true)]:=λ{l} h=>by
  have:=pL (a:=l) (b:=l) h h;rwa [show decide (l=l)=true from decide_eq_true rfl] at this
 have hM:=hE.m.m.ln;have l1:(Tu (tq T) E.M).length<=6:=by rw [Mg]; exact hM
 have l3:=I4 E.M (tq T);have l5:=RL (Fq (tq T)) hM;have s1:=hs (l:=(Tu (tq T) E.M).map (·.id)) (by rw [Q7]; omega);have s2:=hs (l:=(Ni (Fq (tq T)) E.M).1.map (·.id)) (by rw [Q7]; rcases kZ (Fq (tq T)) E.M with e | ⟨w,e⟩ <;> rw [e] <;> simp);have s3:=hs (l:=(Pa E.M (tq T)).map (·.id)) (by rw [Q7]; omega);have s4:=hs (l:=(Om (Fq (tq T)) E.M).map (·.id)) (by rw [Q7]; rcases LH (Fq (tq T)) E.M with e | ⟨a,b,e⟩ <;> rw [e] <;> simp);have s5:=Qm6 (l:=LY (Fq (tq T)) E.M) (by omega);by_cases hj:i<l.length
 ·exact Uf [.T,.F,.k csm,.k ct,.c Uv gq,.c Uv cE,.c Ux ccl,.f rfl,.c Uw g4,.g 70 false (by simp),.lo,.c Uv cE,.f (by simp),.f rfl,.c Uw tl,.k s1,.t rfl,.k s2,.t rfl,.k s3,.t rfl,.k s4,.t rfl,.k s5,.t rfl,.k YK] rfl rfl (by simp [U4])
 ·exact Uf [.F,.f rfl,.k csm,.k ct,.c Uv gq,.c Uv cE,.c Ux ccl,.f rfl,.c Uw g4,.g 70 false (by simp),.lo,.c Uv cE,.f (by simp),.f rfl,.c Uw tl,.k s1,.t rfl,.k s2,.t rfl,.k s3,.t rfl,.k s4,.t rfl,.k s5,.t rfl,.k YK] rfl rfl (by simp [U4])
end Orr
namespace Orr
open Go Go.Proofs Tryz
variable {H:Type} {enc:TypeId×Value->H} {w:World} {base:Nat} {spare:Nat->Bool} {held:Bool}
theorem Sr {α:Type} {l:List α} {n i:Nat} (h:l.length=n) (hi:i<n):∃ x,l[i]? = some x:=⟨l[i]'(by omega),Qe (by omega)⟩
end Orr
namespace Orr
open Go Go.Proofs Tryz Go.ChangeShapes Go.WideShapes Go.ChangeAt Go.RowKit Go.WideElems
theorem Qnz {w:World} {a:Addr} {v:Value} (h:w.cell? a=some v):a.spot=none/\a.block<w.heap.size:=by
 simp only [World.cell?] at h
 split at h
 ·rename_i c t fr hc
  split at h
  ·cases h
  ·rename_i hs;refine ⟨by cases e:a.spot with | none=>rfl | some _=>simp [e] at hs,?_⟩;exact (Array.getElem?_eq_some_iff.1 hc).1
 ·cases h
theorem Ql7 {a:Addr} (h:a.spot=none) (n m:Nat):(a.add n).add m=⟨a.block,a.off+n+m,none⟩:=by
 obtain ⟨b,o,s⟩:=a;simp only at h;subst h;simp only [Addr.add]
 split
 ·rename_i h; subst h
  split
  ·rename_i h; subst h; simp
  ·simp
 ·split
  ·rename_i h; subst h; simp
  ·simp
def fr0 (w:World):Fr:=⟨λb=>b<w.heap.size,λ_=>False,w,λ_=>False,λ_=>none⟩
theorem AS (w:World):HS (fr0 w) (ob []) (nw []) (λ_=>none) (λ_=>False) w where
 size:=Ql _
 kept:=λb hb=>⟨hb,rfl,Iff.rfl⟩
 ids:=λi h=>h.elim
 nj:=λi h=>by rw [yT] at h; cases h
 io:=⟨rfl,rfl⟩
 blk:=λi=>by rw [yT]; trivial
 nk:=λi g c m h _=>by rw [yT] at h; cases h
 inj:=λi j g c m c' m' h _ _ _=>by rw [yT] at h; cases h
 mlt:=λb h=>h.elim
 m0:=λb _ h=>h.elim
 un:=λi _=>⟨rfl,rfl⟩
 uj:=λi _ h=>h.elim
theorem Qqc {w w':World} {bl:Nat->OB} {U:Nat->Prop} {E:B7} {M:Nat->Prop} (h:HS (fr0 w) bl U E M w') {p:MemPlace} (hp:p.block<w.heap.size):w.sameAt w' p:=by
 cases p with
 | cell b off=>simp only [World.sameAt,World.cell?]; rw [(h.kept b hp).2.1]; rfl
 | map b=>exact (h.kept b hp).2.1
theorem Qou {w w':World} {bl:Nat->OB} {U:Nat->Prop} {E:B7} {M:Nat->Prop} (h:HS (fr0 w) bl U E M w') (may:MemPlace->Prop):w.keptBut w' may:=by
 refine ⟨h.io.1,h.io.2,λi hi=>?_⟩;have e:w'.heap[i]? = w.heap[i]? := (h.kept i hi).2.1;rw [e];cases w.heap[i]? with
 | none=>rfl
 | some o=>cases o <;> simp
theorem JL {H:Type} {P:Program} {e:TypeId}:∀ {l:List (DataW H)} {i:Nat} {d:DataW H},l[i]? = some d->∀ n∈d.weights P e,n∈DataW.weightsAll P e l
 | [],i,d,h,_,_=>by simp at h
 |
  x::l,0,d,h,n,hn=>by
  simp at h; subst h;simp only [DataW.weightsAll,Qr]; exact .inl hn
 |
  x::l,i+1,d,h,n,hn=>by
  simp only [DataW.weightsAll,Qr];exact .inr (JL (i:=i) (by simpa using h) n hn)
theorem Mj {H:Type} {P:Program} {t:TypeId} {fs:Array Field} {parts:List (DataW H)} (hu:P.underlying t=some (.struct fs)) (hz:((DataW.agg parts).weights P t).all (· <= reachBytes)=true) {i:Nat} {f:Field} {d:DataW H} (hf:fs[i]? = some f) (hd:parts[i]? = some d) :
 (d.weights P f.type).all (· <= reachBytes)=true:=by
 rw [Jt] at hz ⊢;intro n hn;refine hz n ?_;simp only [DataW.weights,hu];exact DataW.weights_mem_each (j:=i) (by rw [Q9]; simp [hf]) hd n hn
variable {H:Type} {enc:TypeId×Value->H} {w:World}
abbrev O0:Nat->Prop:=λ_=>False
def kU (w:World) (cs:List Value) (ls:Ur):Prop:=cs.length=ls.length/\∀ (j:Nat) (u:LV),ls[j]? = some u->∃ v,cs[j]? = some v/\LRep w O0 v u
theorem GK {α:Type} {rw_:α->Ur} {Ok:α->Prop} {t e sz:Nat} (hu:prog.underlying t=some (.slice e)) (hc:prog.cellsOf e=sz) (hsz:0<sz) (hb:1<=prog.bytesOf e) (hw:∀ z,(rw_ z).length=sz)
 (elem:∀ fuel cs x,DataW.trod enc prog w 0 (λ_=>true) true fuel e cs=some x->(x.1.weights prog e).all (· <= reachBytes)=true->∃ z,Ok z/\kU w cs (rw_ z))
 {fuel:Nat} {cs:List Value} {x:DataW H×List MemPlace} (h:DataW.trod enc prog w 0 (λ_=>true) true fuel t cs=some x) (hz:(x.1.weights prog t).all (· <= reachBytes)=true) :
 ∃ (v:Value) (l:List α),cs=[v]/\(∀ z∈l,Ok z)/\l.length<2^47/\LRep w O0 v (.row (l.map rw_)):=by
 rcases Go.Deep.open_slice hu h with ⟨rfl,_⟩ | ⟨a',len,cap,m,n,D,Pl,rfl,_,hlc,hcap,hm,rfl,hr⟩
 ·refine ⟨_,[],rfl,by simp,Nat.two_pow_pos 47,?_⟩;exact LRep.row none 0 0 0 0 [] (λ_ _=>.bool true) (Ql _) (by decide) (by simp) (by simp) (by simp) (by simp)
 ·simp only [if_true] at hm;subst hm;rw [Jt] at hz;have hlen:len<2^47:=by
   have h0:=hz ((len+(m-len))*prog.bytesOf e) (by simp [DataW.weights,hu]);have h1:len<=(len+(m-len))*prog.bytesOf e:=by
    have:=Zc (Kw len (m-len)) hb;omega
   have h2:(len+(m-len))*prog.bytesOf e<=reachBytes:=by simpa using h0
   exact Z3 (Qa h1 h2) reachBytes_lt
  have hel:∀ i,i<len->((D i).weights prog e).all (· <= reachBytes)=true:=λi hi=>by
   rw [Jt];intro k hk;refine hz k ?_;simp only [DataW.weights,hu];refine Qg _ (Qr.2 (.inl (JL (i:=i) ?_ k hk)));rw [Q9,X1 hi]; rfl
  have hone:∀ i,i<len->∃ z cs',Ok z/\kU w cs' (rw_ z)/\∀ j,j<sz->w.cell? ((a'.add (i*sz)).add j)=cs'[j]? := λi hi=>by
   obtain ⟨cs',hcs,htr⟩:=hr i (by omega);rw [hc] at hcs;obtain ⟨_,hl,hcell⟩:=World.cells?_some hcs;obtain ⟨z,hz1,hz2⟩:=elem _ _ _ htr (hel i hi);refine ⟨z,cs',hz1,hz2,λj hj=>?_⟩;rw [hcell j (by omega)]
  have hspot:0<len->a'.spot=none/\a'.block<w.heap.size:=λh0=>by
   obtain ⟨z,cs',_,⟨hl,_⟩,h3⟩:=hone 0 h0;have h4:=h3 0 hsz;have:(a'.add (0*sz)).add 0=a':=by simp [Addr.add]
   rw [this,Qe (by rw [hl,hw]; exact hsz)] at h4;exact Qnz h4
  obtain ⟨l,hll,hl⟩:∃ l:List α,l.length=len/\∀ i z,l[i]? = some z->Ok z/\∃ cs',kU w cs' (rw_ z)/\∀ j,j<sz->w.cell? ((a'.add (i*sz)).add j)=cs'[j]? := by
   have:∀ k,k<=len->∃ l:List α,l.length=k/\∀ i z,l[i]? = some z->Ok z/\∃ cs',kU w cs' (rw_ z)/\∀ j,j<sz->w.cell? ((a'.add (i*sz)).add j)=cs'[j]? := by
    intro k
    induction k with
    | zero=>intro _; exact ⟨[],rfl,λi z h=>by simp at h⟩
    |
     succ k ih =>
     intro hk;obtain ⟨l,h1,h2⟩:=ih (by omega);obtain ⟨z,cs',h3,h4,h5⟩:=hone k (by omega);refine ⟨l++[z],by simp [h1],λi y hy=>?_⟩;rcases Zb i l.length with hi | hi
     ·rw [Zi hi] at hy; exact h2 i y hy
     ·rw [Z8 hi] at hy;have:i-l.length=0:=by
       rcases Q3 (i-l.length) with h | h
       ·exact h
       ·rw [Qu (by rw [Vr]; exact h)] at hy; cases hy
      rw [this] at hy;simp at hy;subst hy;have:i=k:=by omega
      subst this;exact ⟨h3,cs',h4,h5⟩
   exact this len (Ql _)
  refine ⟨_,l,rfl,λz hz=>?_,by rw [hll]; exact hlen,?_⟩
  ·obtain ⟨i,hi⟩:=Zk.1 hz;exact (hl i z hi).1
  ·have key:LRep w O0 (.slice (some a') (l.map rw_).length m) (.row (l.map rw_)):=by
    have hgl:∀ i c,(l.map rw_)[i]? = some c->∃ z,l[i]? = some z/\c=rw_ z/\i<len:=λi c h=>by
     rw [Q9] at h;cases e:l[i]? with
     | none=>rw [e] at h; cases h
     | some z=>rw [e] at h; simp at h; exact ⟨z,rfl,h.symm,by have:=(Qf.1 e).1; omega⟩
    have hcl:∀ i c,(l.map rw_)[i]? = some c->∃ cs':List Value,kU w cs' c/\∀ j,j<sz->w.cell? ⟨a'.block,a'.off+i*sz+j,none⟩=cs'[j]? := λi c h=>by
     obtain ⟨z,hz,rfl,hi⟩:=hgl i c h;obtain ⟨_,cs',h1,h2⟩:=hl i z hz;refine ⟨cs',h1,λj hj=>?_⟩;rw [<-h2 j hj,Ql7 (hspot (by omega)).1]
    refine LRep.row (some a') m sz a'.block a'.off (l.map rw_) (λi j=>(w.cell? ⟨a'.block,a'.off+i*sz+j,none⟩).getD (.bool true)) (by rw [Q7]; omega) ?_ ?_ ?_ ?_ ?_
    ·have:maxLen=2^63-1:=by rfl
     omega
    ·intro c hc2;obtain ⟨z,_,rfl⟩:=Za.1 hc2;exact hw z
    ·intro h0;rw [Q7,hll] at h0;obtain ⟨hs,hb⟩:=hspot h0;refine ⟨?_,hb,by simp [O0]⟩;obtain ⟨b,o,s⟩:=a';simp only at hs;rw [hs]
    ·intro i c hi j hj;obtain ⟨z,_,rfl,_⟩:=hgl i c hi;obtain ⟨cs',⟨h1,_⟩,h2⟩:=hcl i _ hi;have hjs:j<sz:=by rw [<-hw z]; exact hj
     rw [h2 j hjs,Qe (by rw [h1]; exact hj)]; rfl
    ·intro i c hi j u hu2;obtain ⟨z,_,rfl,_⟩:=hgl i c hi;obtain ⟨cs',⟨h1,h3⟩,h2⟩:=hcl i _ hi;obtain ⟨v,hv,hr2⟩:=h3 j u hu2;have hjs:j<sz:=by rw [<-hw z]; exact (Qf.1 hu2).1
     show LRep w O0 ((w.cell? ⟨a'.block,a'.off+i*sz+j,none⟩).getD (.bool true)) u;rw [h2 j hjs,hv]; exact hr2
   rw [Q7,hll] at key;exact key
abbrev Qza (x:Nat):Ur:=[.int .u32 (x:Int)]
theorem Qla:∀ fuel cs x,DataW.trod enc prog w 0 (λ_=>true) true fuel 151 cs=some x->(x.1.weights prog 151).all (· <= reachBytes)=true->∃ z:Nat,z<4294967296/\kU w cs (Qza z):=by
 intro fuel cs x h _;obtain ⟨n,rfl,_,hwf⟩:=DataW.trod_int underlying151 h;have hn:0<=n/\n<4294967296:=by
  have:0<=n/\n<=4294967295:=by simpa [Lit.wf,IntKind.min,IntKind.max,IntKind.signed,IntKind.bits] using hwf
  omega
 refine ⟨n.toNat,by omega,rfl,λj u hu=>?_⟩
 match j,hu with
 |
  0,hu =>
  simp at hu; subst hu;refine ⟨_,rfl,?_⟩;rw [show max n 0=n by omega];exact .int _ _
 | j+1,hu=>simp at hu
set_option maxRecDepth 20000 in
theorem XH:∀ fuel cs x,DataW.trod enc prog w 0 (λ_=>true) true fuel 36 cs=some x->(x.1.weights prog 36).all (· <= reachBytes)=true->∃ z:RawInt,z.Ok/\kU w cs (L8 z):=by
 intro fuel cs x h hz;obtain ⟨xs,n,_,rfl,hl,hxs,hf⟩:=DataW.trod_struct underlying36 h;have hl:cs.length=2:=hl
 match cs,hl with
 |
  [v0,v1],_ =>
  obtain ⟨z0,hz0⟩:=Sr (i:=0) hxs (by decide);obtain ⟨z1,hz1⟩:=Sr (i:=1) hxs (by decide);have h0:=hf 0 _ rfl;have h1:=hf 1 _ rfl;rw [hz0] at h0; rw [hz1] at h1;obtain ⟨b,e0,_⟩:=DataW.trod_bool underlying4 h0;have f0:v0=.bool b:=(List.cons.inj (show [v0]=[Value.bool b] from e0)).1;have hw1:=Mj underlying36 hz (i:=1) rfl (d:=z1.1) (by rw [Q9,hz1]; rfl);obtain ⟨v,l,e1,hlo,_,hrep⟩:=GK (sz:=1) (Ok:=λu:Nat=>u<4294967296) (rw_:=Qza) underlying34 (by kernel_rfl) (by decide) (of_decide_eq_true (by kernel_rfl)) (λ_=>rfl) Qla h1 hw1;have f1:v1=v:=(List.cons.inj (show [v1]=[v] from e1)).1;subst f0 f1;refine ⟨⟨b,l⟩,⟨hlo⟩,rfl,λj u hu=>?_⟩
  match j,hu with
  | 0,hu=>simp at hu; subst hu; exact ⟨_,rfl,.bool _⟩
  | 1,hu=>simp at hu; subst hu; exact ⟨_,rfl,hrep⟩
  | j+2,hu=>simp at hu
set_option maxRecDepth 20000 in
theorem bR:∀ fuel cs x,DataW.trod enc prog w 0 (λ_=>true) true fuel 40 cs=some x->(x.1.weights prog 40).all (· <= reachBytes)=true->∃ z:RawPt,z.Ok/\kU w cs (rwq z):=by
 intro fuel cs x h hz;obtain ⟨xs,n,_,rfl,hl,hxs,hf⟩:=DataW.trod_struct underlying40 h;have hl:cs.length=5:=hl
 match cs,hl with
 |
  [v0,v1,v2,v3,v4],_ =>
  obtain ⟨z0,hz0⟩:=Sr (i:=0) hxs (by decide);obtain ⟨z1,hz1⟩:=Sr (i:=1) hxs (by decide);have h0:=hf 0 _ rfl;have h1:=hf 1 _ rfl;rw [hz0] at h0; rw [hz1] at h1;obtain ⟨id,e4,_,hwf⟩:=DataW.trod_int underlying3 h1;have f4:v4=.int .i64 id:=(List.cons.inj (show [v4]=[Value.int .i64 id] from e4)).1;have hw0:=Mj underlying40 hz (i:=0) rfl (d:=z0.1) (by rw [Q9,hz0]; rfl);obtain ⟨ys,n2,_,e5,_,hys,hg⟩:=DataW.trod_struct underlying38 h0;rw [e5] at hw0;obtain ⟨y0,hy0⟩:=Sr (i:=0) hys (by decide);obtain ⟨y1,hy1⟩:=Sr (i:=1) hys (by decide);obtain ⟨y2,hy2⟩:=Sr (i:=2) hys (by decide);have g0:=hg 0 _ rfl;have g1:=hg 1 _ rfl;have g2:=hg 2 _ rfl;rw [hy0] at g0; rw [hy1] at g1; rw [hy2] at g2;have w0:=Mj underlying38 hw0 (i:=0) rfl (d:=y0.1) (by rw [Q9,hy0]; rfl);have w1:=Mj underlying38 hw0 (i:=1) rfl (d:=y1.1) (by rw [Q9,hy1]; rfl);have w2:=Mj underlying38 hw0 (i:=2) rfl (d:=y2.1) (by rw [Q9,hy2]; rfl);obtain ⟨u0,lx,e0,hx,_,rx⟩:=GK (sz:=2) (Ok:=RawInt.Ok) (rw_:=L8) underlying33 (by kernel_rfl) (by decide) (of_decide_eq_true (by kernel_rfl)) (λ_=>rfl) XH g0 w0;obtain ⟨u1,ly,e1,hy,_,ry⟩:=GK (sz:=2) (Ok:=RawInt.Ok) (rw_:=L8) underlying33 (by kernel_rfl) (by decide) (of_decide_eq_true (by kernel_rfl)) (λ_=>rfl) XH g1 w1;obtain ⟨d,hd,hde⟩:=XH _ _ _ g2 w2;have f0:v0=u0:=(List.cons.inj (show [v0]=[u0] from e0)).1;have f1:v1=u1:=(List.cons.inj (show [v1]=[u1] from e1)).1;have hde2:kU w [v2,v3] (L8 d):=hde;subst f0 f1 f4;obtain ⟨q2,hq2,r2⟩:=hde2.2 0 _ rfl;obtain ⟨q3,hq3,r3⟩:=hde2.2 1 _ rfl;simp at hq2 hq3;subst hq2 hq3;refine ⟨⟨lx,ly,d,id⟩,⟨hx,hy,hd,by simpa [Lit.wf,IntKind.min,IntKind.max,IntKind.signed,IntKind.bits] using hwf⟩,rfl,λj u hu=>?_⟩
  match j,hu with
  | 0,hu=>simp [rwq] at hu; subst hu; exact ⟨_,rfl,rx⟩
  | 1,hu=>simp [rwq] at hu; subst hu; exact ⟨_,rfl,ry⟩
  | 2,hu=>simp [rwq] at hu; subst hu; exact ⟨_,rfl,r2⟩
  | 3,hu=>simp [rwq] at hu; subst hu; exact ⟨_,rfl,r3⟩
  | 4,hu=>simp [rwq] at hu; subst hu; exact ⟨_,rfl,.int _ _⟩
  | j+5,hu=>simp [rwq] at hu
end Orr
namespace Orr
open Go Go.Proofs Tryz Go.ChangeShapes Go.WideShapes Go.ChangeAt Go.RowKit Go.WideElems
variable {H:Type} {enc:TypeId×Value->H} {w:World}
end Orr
