/- MD3 MD4 MD5 MD6 X22 SD2 H4 En2 X20 X21 En3 EnZ En4 EnO EnQ EnP EnR RawO EnA EnE W24 EnU EnV RatZ EnB EnG EnI WT24 WTS24 ReadN LastN LastR LastS ArgR -/
import Derived.Test.YtoohlnnpalgnaaaGreatPart09
import Derived.Test.YtoohlnnpalgnaaaGreatPart00
import Derived.Test.YtoohlnnpalgnaaaGreatPart08
import Derived.Test.YtoohlnnpalgnaaaGreatPart07
import Derived.Deep.Slices
import Derived.ProofKit
import Derived.OpenShut
import Derived.WideKeyArgs
import Derived.SizedLaws
set_option linter.all false
namespace Orr
open Go Go.Proofs Tryz Orq
set_option maxRecDepth 10000
set_option maxHeartbeats 8000000 in
theorem AG {l:List Pt} {a:Tm} {c:Cr} {r1:Uq} (hl:∀ p∈l,Sc p.c) (hn:l.length≤6) (ha:Va a):U5 prog 199 [.one (.ow 0 0),.agg (ta a)] [.blk 229 (Hr c (Uy l) r1)] [.one (.row (U6 (EF l a)))] [.blk 229 (Hr c (Uy l) (brD l a))]:=by
 have hwl:=Oz l;have cw:=sN (l:=l) (oQ hl) (by omega);have hgb:=Qgt a;unfold brD EF uI OR;obtain ⟨sg',hsg⟩:∃ s,s=Fp a:=⟨_,rfl⟩;obtain ⟨W,hW⟩:=nmE (Tg l);have hWs:∀ p∈W,Sc p.c:=λp hp=>hl p (Nk (by rw [<-hW]; exact hp))
 have mR:=λ{x y z:Pt} (hx:x∈W) (hy:y∈W) (hz:z∈W)=>cE (t:=a) (hWs x hx) (hWs y hy) (hWs z hz) ha
 have mC:=λ{x y z u:Pt} (hx:x∈W) (hy:y∈W) (hz:z∈W) (hu:u∈W)=>Qly (t:=a) (hWs x hx) (hWs y hy) (hWs z hz) (hWs u hu) ha
 rw [<-hW] at cw hwl ⊢;rw [<-hsg] at hgb mR mC ⊢;have hW6:W.length<=6:=by omega
 have hTi:=λps=>Qbh hgb ps
 have hcp:(W.map Fa).length=W.length:=by simp
 have hcp2:=G0 W;have hdr:∀ i,(Uy W).drop i=Uy (W.drop i):=λi=>by unfold Uy; rw [List.map_drop]
 have hel:∀ z∈Uy W,z.length=5:=λz hz=>by obtain ⟨p,_,rfl⟩:=Q8.1 hz; rfl
 have s7:∀ x:Ct,∀ y∈[Db x],y.length=7:=λx y hy=>by rw [Qk.1 hy]; rfl
 have s3:∀ x:P3,∀ y∈[trL x],y.length=3:=λx y hy=>by rw [Qk.1 hy]; rfl
 obtain ⟨T,hT⟩:=nmE (Ap (ZW sg' (Rp W)));obtain ⟨G,hG⟩:=nmE (I5 T (VX sg' (Ot W)));have hTI:vG T:=by rw [hT]; exact hTi _
 have hTm:Qk0 T:=λk=>(hTI k).1
 have hGB:Qcv G:=λk=>by rw [hG]; exact sK _ _ _ k
 rw [<-hT,<-hG];have e0:(U6 (((Lh 0 W).map (PY sg'))))=[]:=rfl;refine Fw func199 rfl ?_;refine Ub [.k cw,.o 6 99 7] rfl ?_;refine Ug (S:=Nat) 4 (λL1 i=>(42,.v (.oi i))::(6,.v (.one (.orow 2 7 none)))::L1) (λi=>[.blk 229 (Hr c (Uy l) r1),.blk 105 (ta a),.row false 99 7 (U6 ((Lh i W).map (PY sg'))),.mpb (Ap (ZW sg' (Lh i W)))]) (λi=>W.length-i) (λi=>i<=W.length) 0 (Qh _) rfl rfl λi hi=>?_
 by_cases hlt:i<W.length
 ·obtain ⟨x,hx⟩:=gxE (l:=W) (i:=i) hlt;have xm:=Qa hx;obtain ⟨V,hV⟩:=nmE (W.drop (i+1));have hVl:V.length=W.length-(i+1):=by rw [hV,Zj]
  have hVm:∀ p∈V,p∈W:=λp hp=>by rw [hV] at hp; exact Q3 hp
  have eV:(Uy W).drop (i+1)=Uy V:=by rw [hdr,<-hV]
  rw [<-DF W x i];refine go tt [.T,.x (Ta hx),.r 49 (eI (b:=((i+1:Nat):Int)) (by omega)),.i (i+1),.r 50 (UY eV)] rfl (by simp only [Uz]; (repeat' apply And.intro) <;> first | omega | exact hel) ?_;have hVr:=G0 V;refine Ug (S:=Nat) 5 (λL1 j=>(52,.v (.oi j))::(6,.v (.one (.orow 2 7 none)))::L1) (λj=>[.blk 229 (Hr c (Uy l) r1),.blk 105 (ta a),.row false 99 7 (U6 ((p3j W x i j).map (PY sg'))),.mpb (Ap (ZW sg' (p3j W x i j))),.blk 40 (Fa x)]) (λj=>V.length-j) (λj=>j<=V.length) 0 (Qh _) rfl rfl λj hj=>?_
  by_cases hltj:j<V.length
  ·obtain ⟨y,hy⟩:=gxE (l:=V) (i:=j) hltj;have ym:=hVm y (Qa hy);have hy':(W.drop (i+1))[j]? = some y:=by rw [<-hV]; exact hy
   obtain ⟨U,hU⟩:=nmE (V.drop (j+1));have hUl:U.length=V.length-(j+1):=by rw [hU,Zj]
   have hUm:∀ p∈U,p∈W:=λp hp=>by rw [hU] at hp; exact hVm p (Q3 hp)
   have hUW:U=(W.drop (i+1)).drop (j+1):=by rw [hU,hV]
   have eU:(Uy W).drop (i+j+2)=Uy U:=by rw [hdr,hU,hV,Yp]; congr 2; omega
   have hUr:=G0 U;rw [<-DT W x y i j];refine go tt [.T,.x (Ta hy),.r 61 (eI (b:=((i+j+2:Nat):Int)) (by omega)),.i (i+j+2),.r 62 (UY eU)] rfl (by simp only [Uz]; (repeat' apply And.intro) <;> first | omega | exact hel) ?_;refine Ug (S:=Nat) 6 (λL1 k=>(64,.v (.oi k))::(6,.v (.one (.orow 2 7 none)))::L1) (λk=>[.blk 229 (Hr c (Uy l) r1),.blk 105 (ta a),.row false 99 7 (U6 ((OL W x y i j k).map (PY sg'))),.mpb (Ap (ZW sg' (OL W x y i j k))),.blk 40 (Fa x),.blk 40 (Fa y)]) (λk=>U.length-k) (λk=>k<=U.length) 0 (Qh _) rfl rfl λk hk=>?_
   by_cases hltk:k<U.length
   ·obtain ⟨z,hz⟩:=gxE (l:=U) (i:=k) hltk;have zm:=hUm z (Qa hz);have hlen:=aG hW6 (k:=k) hx hy';have en:=DG (x:=x) (y:=y) (by rw [<-hUW]; exact hz);have et:=cX sg' (OL W x y i j k) (x,y,z);rw [<-en] at et;refine go tt [.T,.x (Ta hz),.k (mR xm ym zm),.s (sz:=7) (s7 _)] rfl (by simp [Uz,Pa] <;> omega) ?_;exact rd (k+1) (by omega) hltk (by rw [et,en,Yd]; simp [U6]; rfl)
   ·have e:=jL (x:=x) (k:=k) hy' (by rw [<-hUW]; omega);rw [e];refine go tt [.F] rfl (by simp [Uz] <;> omega) ?_;exact rd (j+1) (by omega) hltj rfl
  ·have e:=jD (x:=x) (j:=j) hx (by rw [<-hV]; omega);rw [e];refine go tt [.F] rfl (by simp [Uz] <;> omega) ?_;exact rd (i+1) (by omega) hlt rfl
 rw [iN (show i=W.length by omega),<-hT];have hiW:¬i<W.length:=hlt;clear hlt;obtain ⟨C3,hC3⟩:=nmE ((Rp W).map (PY sg'));have hC3l:C3.length<=20:=by rw [hC3,Q6]; exact (YS hW6).1
 rw [<-hC3];refine Ub [.F] rfl ?_;have eC:U6 C3=U6 (C3++(Eg 0 W).map (HZ sg')):=by rw [show Eg 0 W=[] from rfl,X7,Zw]
 rw [eC];refine Ug (S:=Nat) 5 (λL1 i=>(97,.v (.oi i))::(6,.v (.one (.orow 2 7 none)))::L1) (λi=>[.blk 229 (Hr c (Uy l) r1),.blk 105 (ta a),.row false 99 7 (U6 (C3++(Eg i W).map (HZ sg'))),.mpb T,.mpb (I5 T (VX sg' (Eg i W)))]) (λi=>W.length-i) (λi=>i<=W.length) 0 (Qh _) rfl rfl λi hi=>?_
 by_cases hlt:i<W.length
 ·obtain ⟨x,hx⟩:=gxE (l:=W) (i:=i) hlt;have xm:=Qa hx;obtain ⟨V,hV⟩:=nmE (W.drop (i+1));have hVl:V.length=W.length-(i+1):=by rw [hV,Zj]
  have hVm:∀ p∈V,p∈W:=λp hp=>by rw [hV] at hp; exact Q3 hp
  have eV:(Uy W).drop (i+1)=Uy V:=by rw [hdr,<-hV]
  have hVr:=G0 V;rw [<-Qh3 W x i];refine go tt [.T,.x (Ta hx),.r 104 (eI (b:=((i+1:Nat):Int)) (by omega)),.i (i+1),.r 105 (UY eV)] rfl (by simp only [Uz]; (repeat' apply And.intro) <;> first | omega | exact hel) ?_;refine Ug (S:=Nat) 6 (λL1 j=>(107,.v (.oi j))::(6,.v (.one (.orow 2 7 none)))::L1) (λj=>[.blk 229 (Hr c (Uy l) r1),.blk 105 (ta a),.row false 99 7 (U6 (C3++(p4j W x i j).map (HZ sg'))),.mpb T,.mpb (I5 T (VX sg' (p4j W x i j))),.blk 40 (Fa x)]) (λj=>V.length-j) (λj=>j<=V.length) 0 (Qh _) rfl rfl λj hj=>?_
  by_cases hltj:j<V.length
  ·obtain ⟨y,hy⟩:=gxE (l:=V) (i:=j) hltj;have ym:=hVm y (Qa hy);have hy':(W.drop (i+1))[j]? = some y:=by rw [<-hV]; exact hy
   obtain ⟨U,hU⟩:=nmE (V.drop (j+1));have hUl:U.length=V.length-(j+1):=by rw [hU,Zj]
   have hUm:∀ p∈U,p∈W:=λp hp=>by rw [hU] at hp; exact hVm p (Q3 hp)
   have hUW:U=(W.drop (i+1)).drop (j+1):=by rw [hU,hV]
   have eU:(Uy W).drop (i+j+2)=Uy U:=by rw [hdr,hU,hV,Yp]; congr 2; omega
   have hUr:=G0 U;rw [<-Qh4 W x y i j];refine go tt [.T,.x (Ta hy),.r 116 (eI (b:=((i+j+2:Nat):Int)) (by omega)),.i (i+j+2),.r 117 (UY eU)] rfl (by simp only [Uz]; (repeat' apply And.intro) <;> first | omega | exact hel) ?_;refine Ug (S:=Nat) 7 (λL1 k=>(119,.v (.oi k))::(6,.v (.one (.orow 2 7 none)))::L1) (λk=>[.blk 229 (Hr c (Uy l) r1),.blk 105 (ta a),.row false 99 7 (U6 (C3++(p4k W x y i j k).map (HZ sg'))),.mpb T,.mpb (I5 T (VX sg' (p4k W x y i j k))),.blk 40 (Fa x),.blk 40 (Fa y)]) (λk=>U.length-k) (λk=>k<=U.length) 0 (Qh _) rfl rfl λk hk=>?_
   by_cases hltk:k<U.length
   ·obtain ⟨z,hz⟩:=gxE (l:=U) (i:=k) hltk;have zm:=hUm z (Qa hz);have hz':((W.drop (i+1)).drop (j+1))[k]? = some z:=by rw [<-hUW]; exact hz
    obtain ⟨R,hR⟩:=nmE (U.drop (k+1));have hRl:R.length=U.length-(k+1):=by rw [hR,Zj]
    have hRm:∀ p∈R,p∈W:=λp hp=>by rw [hR] at hp; exact hUm p (Q3 hp)
    have hRW:R=((W.drop (i+1)).drop (j+1)).drop (k+1):=by rw [hR,hUW]
    have eR:(Uy W).drop (i+j+k+3)=Uy R:=by rw [hdr,hRW,Yp,Yp]; congr 2; omega
    have hRr:=G0 R;rw [<-Qh6 W x y z i j k];refine go tt [.T,.x (Ta hz),.r 130 (eI (b:=((i+j+k+3:Nat):Int)) (by omega)),.i (i+j+k+3),.r 131 (UY eR)] rfl (by simp only [Uz]; (repeat' apply And.intro) <;> first | omega | exact hel) ?_;refine Ug (S:=Nat) 8 (λL1 m=>(133,.v (.oi m))::(6,.v (.one (.orow 2 7 none)))::L1) (λm=>[.blk 229 (Hr c (Uy l) r1),.blk 105 (ta a),.row false 99 7 (U6 (C3++(p4m W x y z i j k m).map (HZ sg'))),.mpb T,.mpb (I5 T (VX sg' (p4m W x y z i j k m))),.blk 40 (Fa x),.blk 40 (Fa y),.blk 40 (Fa z)]) (λm=>R.length-m) (λm=>m<=R.length) 0 (Qh _) rfl rfl λm hm=>?_
    by_cases hltm:m<R.length
    ·obtain ⟨u,hu⟩:=gxE (l:=R) (i:=m) hltm;have um:=hRm u (Qa hu);have hlen:=Qoi hW6 (m:=m) hx hy' hz';have en:=Qh5 (x:=x) (y:=y) (z:=z) (by rw [<-hRW]; exact hu);have et:=pD sg' T (p4m W x y z i j k m) (x,y,z,u);rw [<-en] at et;have cf:=Qsu (F:=I5 T (VX sg' (p4m W x y z i j k m))) (s:=(OS sg' x y z u).want) (n0:=x.id) (n1:=y.id) (n2:=z.id) (n3:=u.id) hTI (hgb _);refine go tt [.T,.x (Ta hu),.k (mC xm ym zm um),.s (sz:=7) (s7 _),.c [4,3] cf] rfl (by simp [Uz,Pa] <;> omega) ?_;exact rd (m+1) (by omega) hltm (by rw [et,en,Yd,<-Za]; simp [U6]; rfl)
    ·have e:=Qoh (x:=x) (y:=y) (m:=m) hz' (by rw [<-hRW]; omega);rw [e];refine go tt [.F] rfl (by simp [Uz] <;> omega) ?_;exact rd (k+1) (by omega) hltk rfl
   ·have e:=Qog (x:=x) (k:=k) hy' (by rw [<-hUW]; omega);rw [e];refine go tt [.F] rfl (by simp [Uz] <;> omega) ?_;exact rd (j+1) (by omega) hltj rfl
  ·have e:=Qof (x:=x) (j:=j) hx (by rw [<-hV]; omega);rw [e];refine go tt [.F] rfl (by simp [Uz] <;> omega) ?_;exact rd (i+1) (by omega) hlt rfl
 rw [Qow (show i=W.length by omega),<-hG];obtain ⟨C4,hC4⟩:=nmE (C3++(Ot W).map (HZ sg'));rw [<-hC4];refine Ub [.F] rfl ?_;refine ozM 0 13 84 3 rfl rfl ?_;have eT:([]:Uq)=QD ((Lh 0 W).filter (xA T G)):=rfl;rw [eT];refine Ug (S:=Nat) 6 (λL1 i=>(174,.v (.oi i))::L1) (λi=>[.blk 229 [.bool true,pl c.now.p,sg c.now.lo.num,mg c.now.lo.num,sg (c.now.lo.den:Int),mg (c.now.lo.den:Int),sg c.now.hi.num,mg c.now.hi.num,sg (c.now.hi.den:Int),mg (c.now.hi.den:Int),.row (Bu c.l),.int .i64 c.ev,.row (Uy l),.orow 5 3 none],.blk 105 (ta a),.row false 99 7 (U6 C4),.mpb T,.mpb G,.row false 84 3 (QD ((Lh i W).filter (xA T G)))]) (λi=>W.length-i) (λi=>i<=W.length) 0 (Qh _) rfl rfl λi hi=>?_
 by_cases hlt:i<W.length
 ·obtain ⟨x,hx⟩:=gxE (l:=W) (i:=i) hlt;obtain ⟨V,hV⟩:=nmE (W.drop (i+1));have hVl:V.length=W.length-(i+1):=by rw [hV,Zj]
  have eV:(Uy W).drop (i+1)=Uy V:=by rw [hdr,<-hV]
  have hVr:=G0 V;rw [<-DF W x i];refine go tt [.T,.x (Ta hx),.r 181 (eI (b:=((i+1:Nat):Int)) (by omega)),.i (i+1),.r 182 (UY eV)] rfl (by simp only [Uz]; (repeat' apply And.intro) <;> first | omega | exact hel) ?_;refine Ug (S:=Nat) 7 (λL1 j=>(184,.v (.oi j))::L1) (λj=>[.blk 229 [.bool true,pl c.now.p,sg c.now.lo.num,mg c.now.lo.num,sg (c.now.lo.den:Int),mg (c.now.lo.den:Int),sg c.now.hi.num,mg c.now.hi.num,sg (c.now.hi.den:Int),mg (c.now.hi.den:Int),.row (Bu c.l),.int .i64 c.ev,.row (Uy l),.orow 5 3 none],.blk 105 (ta a),.row false 99 7 (U6 C4),.mpb T,.mpb G,.row false 84 3 (QD ((p3j W x i j).filter (xA T G))),.blk 40 (Fa x)]) (λj=>V.length-j) (λj=>j<=V.length) 0 (Qh _) rfl rfl λj hj=>?_
  by_cases hltj:j<V.length
  ·obtain ⟨y,hy⟩:=gxE (l:=V) (i:=j) hltj;have hy':(W.drop (i+1))[j]? = some y:=by rw [<-hV]; exact hy
   obtain ⟨U,hU⟩:=nmE (V.drop (j+1));have hUl:U.length=V.length-(j+1):=by rw [hU,Zj]
   have hUW:U=(W.drop (i+1)).drop (j+1):=by rw [hU,hV]
   have eU:(Uy W).drop (i+j+2)=Uy U:=by rw [hdr,hU,hV,Yp]; congr 2; omega
   have hUr:=G0 U;rw [<-DT W x y i j];refine go tt [.T,.x (Ta hy),.r 193 (eI (b:=((i+j+2:Nat):Int)) (by omega)),.i (i+j+2),.r 194 (UY eU)] rfl (by simp only [Uz]; (repeat' apply And.intro) <;> first | omega | exact hel) ?_;refine Ug (S:=Nat) 8 (λL1 k=>(196,.v (.oi k))::L1) (λk=>[.blk 229 [.bool true,pl c.now.p,sg c.now.lo.num,mg c.now.lo.num,sg (c.now.lo.den:Int),mg (c.now.lo.den:Int),sg c.now.hi.num,mg c.now.hi.num,sg (c.now.hi.den:Int),mg (c.now.hi.den:Int),.row (Bu c.l),.int .i64 c.ev,.row (Uy l),.orow 5 3 none],.blk 105 (ta a),.row false 99 7 (U6 C4),.mpb T,.mpb G,.row false 84 3 (QD ((OL W x y i j k).filter (xA T G))),.blk 40 (Fa x),.blk 40 (Fa y)]) (λk=>U.length-k) (λk=>k<=U.length) 0 (Qh _) rfl rfl λk hk=>?_
   by_cases hltk:k<U.length
   ·obtain ⟨z,hz⟩:=gxE (l:=U) (i:=k) hltk;have hlen:=aG hW6 (k:=k) hx hy';have en:=DG (x:=x) (y:=y) (by rw [<-hUW]; exact hz);have hfl:=Yx (xA T G) (OL W x y i j k);have htl:=rE ((OL W x y i j k).filter (xA T G));by_cases h1:ZV T [x.id,y.id,z.id]≠0
    ·by_cases h2:NT G [x.id,y.id,z.id]=true
     ·have ef:xA T G (x,y,z)=false:=by unfold xA mJ; simp [h2]
      have eF:=Qge (ps:=OL W x y i j k) ef;rw [<-en] at eF;refine go tt [.T,.x (Ta hz),.g 211 true (decide_eq_true h1),.f (by rw [h2]; rfl)] rfl (by simp only [Uz]; (repeat' apply And.intro) <;> first | exact hTm | exact hGB | omega | (simp only [Q7,X6]; omega)) ?_;exact rd (k+1) (by omega) hltk (by rw [eF]; rfl)
     ·have h2:NT G [x.id,y.id,z.id]=false:=by simpa using h2
      have ef:xA T G (x,y,z)=true:=by unfold xA mJ; simp [h2,h1]
      have eF:=Qtt (ps:=OL W x y i j k) ef;rw [<-en] at eF;refine go tt [.T,.x (Ta hz),.g 211 true (decide_eq_true h1),.t (by rw [h2]; rfl),.s (sz:=3) (s3 (x,y,z))] rfl (by simp only [Uz]; (repeat' apply And.intro) <;> first | exact hTm | exact hGB | omega | (simp only [Q7,X6]; omega)) ?_;exact rd (k+1) (by omega) hltk (by rw [eF]; simp [QD]; rfl)
    ·have ef:xA T G (x,y,z)=false:=by unfold xA mJ; simp [h1]
     have eF:=Qge (ps:=OL W x y i j k) ef;rw [<-en] at eF;refine go tt [.T,.x (Ta hz),.g 211 false (decide_eq_false h1),.f rfl] rfl (by simp only [Uz]; (repeat' apply And.intro) <;> first | exact hTm | exact hGB | omega | (simp only [Q7,X6]; omega)) ?_;exact rd (k+1) (by omega) hltk (by rw [eF]; rfl)
   ·have e:=jL (x:=x) (k:=k) hy' (by rw [<-hUW]; omega);rw [e];refine go tt [.F] rfl (by simp [Uz] <;> omega) ?_;exact rd (j+1) (by omega) hltj rfl
  ·have e:=jD (x:=x) (j:=j) hx (by rw [<-hV]; omega);rw [e];refine go tt [.F] rfl (by simp [Uz] <;> omega) ?_;exact rd (i+1) (by omega) hlt rfl
 rw [iN (show i=W.length by omega)];rw [hC4,hC3];exact Uf [2,5] [0] [.F] rfl
theorem Qwj {T:Nat} {t:Rat} {Bc:Tm->List Ct} {Br:Tm->Uq} {r0:Uq} (ht:Qs 1640000 t) (hB:BuildOk Bc)
 (hb:∀ a c r1,Va a->CrOk c->U5 prog 199 [.one (.ow 0 0),.agg (ta a)] [.blk T (Hr c r0 r1)] [.one (.row (U6 (Bc a)))] [.blk T (Hr c r0 (Br a))])
 {K:Nat} {c c':Cr} {r1 r1':Uq} {n:Int} (hc:CrOk c) (hev:0<=c.ev/\c.ev+K<=1000000000000000000) (h:Fj c.now t<=0) (hg:UR Bc Br t K c r1 0=some (c',r1',n)) :
 U5 prog 396 [.one (.ow 0 0),.agg (rl t),.one (.ofn 199 [.ow 0 0] [])] [.blk T (Hr c r0 r1)] [.oi n,.oi 0] [.blk T (Hr c' r0 r1')]:=by
 have qt:Qb t:=ht.mono (by decide);have c1:=C6 hc.n.tb qt;refine Fw func396 rfl ?_;refine Ub [.c [0] (O6 hc.n),.k c1,.f (by simpa using h)] rfl ?_;refine Ug (S:=Nat×Cr×Uq×Int) 2 (λL1 s=>(8,.v (.oi s.2.2.2))::L1) (λs=>[.blk T (Hr s.2.1 r0 s.2.2.1),.blk 42 (rl t)]) (λs=>s.1) (λs=>CrOk s.2.1/\(0<=s.2.1.ev/\s.2.1.ev+s.1<=1000000000000000000)/\(0<=s.2.2.2/\s.2.2.2+s.1<=1000000000000000000)/\UR Bc Br t s.1 s.2.1 s.2.2.1 s.2.2.2=some (c',r1',n)) (K,c,r1,0) ⟨hc,hev,⟨Int.le_refl 0,by dsimp only; omega⟩,hg⟩ rfl rfl λ⟨k,x,r,m⟩ ⟨j1,j2,j3,j4⟩=>?_
 dsimp only at j1 j2 j3 j4 ⊢;cases k with
 | zero=>cases j4
 |
  succ k =>
  simp only [UR] at j4;obtain ⟨ws,w1,j4⟩:=Qd.1 j4;obtain ⟨o,o1,j4⟩:=Qd.1 j4;have cn:=PM (T:=T) (r0:=r0) (r1:=r) j1 w1 o1;have ca:=VW (U3 t.num) (U3 (t.den:Int)) (Qc ht.1 (by decide)) (Qc ht.2 (by decide)) (by rw [Sv]; exact ht.mono (by decide));rw [Sv] at ca;cases o with
  |
   none =>
   injection j4 with j4; injection j4 with e1 j4; injection j4 with e2 e3;subst e1; subst e2; subst e3;exact Uf [] [0] [.c [0] cn,.g 25 true rfl,.t rfl,.k ca] rfl
  |
   some a =>
   have ha:=DW j1 w1 o1;dsimp only at j4;have cc:=C6 ha.tb qt;by_cases h0:0<Fj a t
   ·rw [if_pos h0] at j4;injection j4 with j4; injection j4 with e1 j4; injection j4 with e2 e3;subst e1; subst e2; subst e3;exact Uf [] [0] [.c [0] cn,.g 25 false rfl,.k cc,.t (by simpa using h0),.k ca] rfl
   ·rw [if_neg h0] at j4;obtain ⟨w2,l1,j4⟩:=Qd.1 j4;have j1':=Ec j1 w1;have cl:=Sx (b:=a) (l:=[]) ha.tb (λt ht=>by cases ht) (by decide) rfl;have cb:=hb a { x with l:=ws } r ha j1';have cy:=WM (T:=T) (r0:=r0) (r1:=Br a) j1' ha (hB.p a ha) (hB.n a ha) l1;have hf:decide (0<Fj a t)=false:=by simpa using h0
    refine Uc [.c [0] cn,.g 25 false rfl,.k cc,.f hf,.k cl,.c [0] cb,.c [0] cy] rfl ?_;exact rd (k,⟨a,w2,x.ev+1⟩,Br a,m+1) (by dsimp only; omega) ⟨lay_ok _ j1' ha (hB.p a ha) (hB.n a ha) l1,by dsimp only; omega,by dsimp only; omega,j4⟩ rfl
theorem Qr8 {t:Rat} {l:List Pt} {K:Nat} {c c':Cr} {r1 r1':Uq} {n:Int} (ht:Qs 1640000 t) (hl:∀ p∈l,Sc p.c) (hn:l.length≤6) (hc:CrOk c) (hev:0≤c.ev/\c.ev+K≤1000000000000000000) (h:Fj c.now t≤0) (hg:UR (EF l) (brD l) t K c r1 0=some (c',r1',n)) :
 U5 prog 432 [.one (.ow 0 0),.agg (rl t)] [.blk 229 (Hr c (Uy l) r1)] [.oi n,.oi 0] [.blk 229 (Hr c' (Uy l) r1')]:=by
 have cg:=Qwj (T:=229) (r0:=Uy l) ht (tL hl hn) (λa c r1 ha _=>AG (c:=c) (r1:=r1) hl hn ha) hc hev h hg;refine Fw func432 rfl ?_;exact Uf [] [0] [.k (Nl (ht.mono (by decide))),.c [0] cg] rfl
theorem sG {c:Cr} {r0:Uq} {ts:List P3} (ht:ts.length<=1000):U5 prog 83 [.one (.ow 0 0)] [.blk 229 (Hr c r0 (QD ts))] [.one (.row (QD ts))] [.blk 229 (Hr c r0 (QD ts))]:=by
 have hl:=rE ts;have h3:∀ y∈QD ts,y.length=3:=λy hy=>by obtain ⟨m,_,rfl⟩:=Q8.1 hy; rfl
 refine Fw func83 rfl ?_;exact Uf [1] [0] [.s (sz:=3) h3] rfl (by simp [Uz] <;> omega)

theorem Qdn {c:Cr} {l l':List Pt} {r1:Uq} {ws:List Wt} (hc:CrOk c) (hl:∀ p∈l',Sc p.c) (hn:l'.length≤6) (h:P0 c.l c.now (Fq (EF l' c.now))=some ws) :
 U5 prog 436 [.one (.ow 0 0),.agg [pts l'],.oi 0] [.blk 229 (Hr c (Uy l) r1)] [.oi 0] [.blk 229 (Hr ⟨c.now,ws,c.ev⟩ (Uy l') (brD l' c.now))]:=by
 have hB:=tL hl hn;have cn:=O6 (T:=229) (c:=c) (r0:=Uy l') (r1:=r1) hc.n;have cb:=AG (c:=c) (r1:=r1) hl hn hc.n;have cg:=JM (T:=229) (r0:=Uy l') (r1:=brD l' c.now) hc hc.n (Iw hc.n) (Ya 0) (hB.p _ hc.n) (hB.n _ hc.n) h;refine Fw func436 rfl ?_;exact Uf [] [0] [.f rfl,.c [0] cn,.c [0] cb,.c [0] cg] rfl
theorem Qlq {lx ly:Uq} {px py:Uk} {x y:LV} {d id:Int} {c:Cr} {l:List Pt} {r1:Uq} {ws:List Wt} (hx:IsInts lx px) (hy:IsInts ly py) (hd:Gs x y d) (hk:Cs 4294967294 1073741824 (Crv.mk px py d)) (hll:l.length<=900)
 (he:KL l ⟨Crv.norm (Crv.mk px py d),id⟩=0) (hc:CrOk c) (hl:∀ p∈put l ⟨Crv.norm (Crv.mk px py d),id⟩,Sc p.c) (hn:(put l ⟨Crv.norm (Crv.mk px py d),id⟩).length≤6) (h:P0 c.l c.now (Fq (EF (put l ⟨Crv.norm (Crv.mk px py d),id⟩) c.now))=some ws) :
 U5 prog 434 [.one (.ow 0 0),.agg [.row lx,.row ly,x,y,.int .i64 id]] [.blk 229 (Hr c (Uy l) r1)] [.oi 0] [.blk 229 (Hr ⟨c.now,ws,c.ev⟩ (Uy (put l ⟨Crv.norm (Crv.mk px py d),id⟩)) (brD (put l ⟨Crv.norm (Crv.mk px py d),id⟩) c.now))]:=by
 have cp:=kZ (l:=l) (id:=id) hx hy hd hk (by omega);rw [if_pos he,he] at cp;have cw:=Qdn (l:=l) (r1:=r1) hc hl hn h;refine Fw func434 rfl ?_;obtain ⟨b,l',rfl,rfl,_⟩:=hd;exact Uf [] [0] [.k cp,.c [0] cw] rfl
theorem oD {c:Cr} {r0:Uq} {r1:Uq}:U5 prog 67 [.one (.ow 0 0)] [.blk 229 (Hr c r0 r1)] [.one (.ow 1 0)] [.blk 229 (Hr c r0 r1),.blk 229 (Hr c r0 r1)]:=by
 refine Fw func67 rfl ?_;exact Uf [] [0,1] [] rfl

theorem Qwk {T:Nat} {t:Rat} {Bc:Tm->List Ct} {Br:Tm->Uq} {r0:Uq} (ht:Qs 1640000 t) (hB:BuildOk Bc)
 (hb:∀ a c r1,Va a->CrOk c->U5 prog 197 [.one (.ow 0 0),.agg (ta a)] [.blk T (Hr c r0 r1)] [.one (.row (U6 (Bc a)))] [.blk T (Hr c r0 (Br a))])
 {K:Nat} {c c':Cr} {r1 r1':Uq} {n:Int} (hc:CrOk c) (hev:0<=c.ev/\c.ev+K<=1000000000000000000) (h:Fj c.now t<=0) (hg:UR Bc Br t K c r1 0=some (c',r1',n)) :
 U5 prog 396 [.one (.ow 0 0),.agg (rl t),.one (.ofn 197 [.ow 0 0] [])] [.blk T (Hr c r0 r1)] [.oi n,.oi 0] [.blk T (Hr c' r0 r1')]:=by
 have qt:Qb t:=ht.mono (by decide);have c1:=C6 hc.n.tb qt;refine Fw func396 rfl ?_;refine Ub [.c [0] (O6 hc.n),.k c1,.f (by simpa using h)] rfl ?_;refine Ug (S:=Nat×Cr×Uq×Int) 2 (λL1 s=>(8,.v (.oi s.2.2.2))::L1) (λs=>[.blk T (Hr s.2.1 r0 s.2.2.1),.blk 42 (rl t)]) (λs=>s.1) (λs=>CrOk s.2.1/\(0<=s.2.1.ev/\s.2.1.ev+s.1<=1000000000000000000)/\(0<=s.2.2.2/\s.2.2.2+s.1<=1000000000000000000)/\UR Bc Br t s.1 s.2.1 s.2.2.1 s.2.2.2=some (c',r1',n)) (K,c,r1,0) ⟨hc,hev,⟨Int.le_refl 0,by dsimp only; omega⟩,hg⟩ rfl rfl λ⟨k,x,r,m⟩ ⟨j1,j2,j3,j4⟩=>?_
 dsimp only at j1 j2 j3 j4 ⊢;cases k with
 | zero=>cases j4
 |
  succ k =>
  simp only [UR] at j4;obtain ⟨ws,w1,j4⟩:=Qd.1 j4;obtain ⟨o,o1,j4⟩:=Qd.1 j4;have cn:=PM (T:=T) (r0:=r0) (r1:=r) j1 w1 o1;have ca:=VW (U3 t.num) (U3 (t.den:Int)) (Qc ht.1 (by decide)) (Qc ht.2 (by decide)) (by rw [Sv]; exact ht.mono (by decide));rw [Sv] at ca;cases o with
  |
   none =>
   injection j4 with j4; injection j4 with e1 j4; injection j4 with e2 e3;subst e1; subst e2; subst e3;exact Uf [] [0] [.c [0] cn,.g 25 true rfl,.t rfl,.k ca] rfl
  |
   some a =>
   have ha:=DW j1 w1 o1;dsimp only at j4;have cc:=C6 ha.tb qt;by_cases h0:0<Fj a t
   ·rw [if_pos h0] at j4;injection j4 with j4; injection j4 with e1 j4; injection j4 with e2 e3;subst e1; subst e2; subst e3;exact Uf [] [0] [.c [0] cn,.g 25 false rfl,.k cc,.t (by simpa using h0),.k ca] rfl
   ·rw [if_neg h0] at j4;obtain ⟨w2,l1,j4⟩:=Qd.1 j4;have j1':=Ec j1 w1;have cl:=Sx (b:=a) (l:=[]) ha.tb (λt ht=>by cases ht) (by decide) rfl;have cb:=hb a { x with l:=ws } r ha j1';have cy:=WM (T:=T) (r0:=r0) (r1:=Br a) j1' ha (hB.p a ha) (hB.n a ha) l1;have hf:decide (0<Fj a t)=false:=by simpa using h0
    refine Uc [.c [0] cn,.g 25 false rfl,.k cc,.f hf,.k cl,.c [0] cb,.c [0] cy] rfl ?_;exact rd (k,⟨a,w2,x.ev+1⟩,Br a,m+1) (by dsimp only; omega) ⟨lay_ok _ j1' ha (hB.p a ha) (hB.n a ha) l1,by dsimp only; omega,by dsimp only; omega,j4⟩ rfl
def Qwd (l:List Pt) (a:Tm):Cr:=⟨a,(Fq (TP l a)).map fresh,0⟩
theorem Qsa {t:Rat} {l:List Pt} {K:Nat} {c c':Cr} {r1 r1':Uq} {n:Int} (ht:Qs 1640000 t) (hl:∀ p∈l,Sc p.c) (hn:l.length≤10) (hc:CrOk c) (hev:0≤c.ev/\c.ev+K≤1000000000000000000) (h:Fj c.now t≤0) (hg:UR (TP l) (brH l) t K c r1 0=some (c',r1',n)) :
 U5 prog 422 [.one (.ow 0 0),.agg (rl t)] [.blk 225 (Hr c (Uy l) r1)] [.oi n,.oi 0] [.blk 225 (Hr c' (Uy l) r1')]:=by
 have cg:=Qwk (T:=225) (r0:=Uy l) ht (tI hl hn) (λa c r1 ha _=>AT (c:=c) (r1:=r1) hl hn ha) hc hev h hg;refine Fw func422 rfl ?_;exact Uf [] [0] [.k (Nl (ht.mono (by decide))),.c [0] cg] rfl
theorem Qsb {c:Cr} {l s:List Pt} (hs:s.length<=1000000):U5 prog 82 [.one (.ow 0 0)] [.blk 225 (Hr c (Uy l) (Uy s))] [.one (ids (s.map (·.id)))] [.blk 225 (Hr c (Uy l) (Uy s))]:=by
 have hcl:=G0 s;refine Fw func82 rfl ?_;refine Ub [.o 3 3 1] rfl ?_;refine Ug (S:=Nat) 2 (λL1 i=>(11,.v (.oi i))::(3,.v (.one (.orow 1 1 none)))::L1) (λi=>[.blk 225 (Hr c (Uy l) (Uy s)),.row false 3 1 (((s.take i).map (·.id)).map λ(z:Int)=>[LV.int .i64 z])]) (λi=>s.length-i) (λi=>i<=s.length) 0 (Qh _) rfl rfl λi hi=>?_
 by_cases hlt:i<s.length
 ·obtain ⟨p,hp⟩:=gxE (l:=s) (i:=i) hlt;have hg:(((s.take (i+1)).map (·.id)).map λ(z:Int)=>[LV.int .i64 z])=(((s.take i).map (·.id)).map λ(z:Int)=>[LV.int .i64 z])++[[.int .i64 p.id]]:=by
   rw [Zv,hp]; simp
  refine Uc [.t (by simp [hcl]; omega),.x (Sp hp),.s (sz:=1) (l:=[[.int .i64 p.id]]) (λc hc=>by rw [Qk.1 hc]; rfl)] rfl ?_;exact rd (i+1) (by omega) hlt (by rw [hg]; rfl)
 ·obtain rfl:i=s.length:=by omega
  rw [Q5];exact Uf [1] [0] [.f (by simp [hcl])] rfl
abbrev GF (k:Nat) (np nd:Int) (M:List Pt) (q:Rat) (s t h p d:Cr):Ur:=[.blk 80 (lK k q),tB np nd M,bS s M q,bT t M q,bH h M q,bP p M q,bD d M q]
abbrev Qy5 (k:Nat):Up:=[.oif 74 (k+2) 0,.oif 75 (k+3) 0,.oif 76 (k+4) 0,.oif 77 (k+5) 0,.oif 78 (k+6) 0]
theorem dY {np nd:Int} {Mt M:List Pt} {q:Rat} {s t h p d:Cr}:U5 prog 71 [.one (.ow 0 0)] [.blk 80 (lK 0 q),tB np nd Mt,bS s M q,bT t M q,bH h M q,bP p M q,bD d M q] [.agg (Qy5 0)] [.blk 80 (lK 0 q),tB np nd Mt,bS s M q,bT t M q,bH h M q,bP p M q,bD d M q]:=by
 refine Fw func71 rfl ?_;exact Uf [] [0,1,2,3,4,5,6] [] rfl
abbrev sel (k i:Nat) (a b:OB):OB:=match Nat.blt k i with
 | true=>b
 | false=>a
theorem Qdv {np nd id:Int} {M M':List Pt} {q:Rat} {s t h p d s' t' h' p' d':Cr} {lx ly l3:Uq} {bn:Bool} {e1 e2 e3 e4 e5:Int}
 (ht:U5 prog 132 [.one (.ow 0 0),.agg [.row lx,.row ly,.bool bn,.row l3,.int .i64 id]] [tB np nd M] [.oi 0] [tB np nd M'])
 (h1:U5 prog 393 [.one (.ow 0 0),.agg [.row lx,.row ly,.bool bn,.row l3,.int .i64 id]] [bS s M q] [.oi e1] [bS s' M' q])
 (h2:U5 prog 419 [.one (.ow 0 0),.agg [.row lx,.row ly,.bool bn,.row l3,.int .i64 id]] [bT t M q] [.oi e2] [bT t' M' q])
 (h3:U5 prog 424 [.one (.ow 0 0),.agg [.row lx,.row ly,.bool bn,.row l3,.int .i64 id]] [bH h M q] [.oi e3] [bH h' M' q])
 (h4:U5 prog 429 [.one (.ow 0 0),.agg [.row lx,.row ly,.bool bn,.row l3,.int .i64 id]] [bP p M q] [.oi e4] [bP p' M' q])
 (h5:U5 prog 434 [.one (.ow 0 0),.agg [.row lx,.row ly,.bool bn,.row l3,.int .i64 id]] [bD d M q] [.oi e5] [bD d' M' q]) :
 U5 prog 58 [.one (.ow 0 0),.oi id,.agg [.row lx,.row ly,.bool bn,.row l3]] (GF 0 np nd M q s t h p d) [.oi 0] (GF 0 np nd M' q s' t' h' p' d'):=by
 refine Fw func58 rfl ?_;refine Ub [.c [1] ht,.f rfl,.c Ut dY] rfl ?_;refine Ug (S:=Nat) 9 (λL1 i=>(25,.v (.oi i))::L1) (λi=>[.blk 80 (lK 0 q),tB np nd M',sel 0 i (bS s M q) (bS s' M' q),sel 1 i (bT t M q) (bT t' M' q),sel 2 i (bH h M q) (bH h' M' q),sel 3 i (bP p M q) (bP p' M' q),sel 4 i (bD d M q) (bD d' M' q),.blk 38 [.row lx,.row ly,.bool bn,.row l3],.blk 40 [.row lx,.row ly,.bool bn,.row l3,.int .i64 id]]) (λi=>5-i) (λi=>i<=5) 0 (by decide) rfl rfl λi hi=>?_
 rcases (show i=0\/i=1\/i=2\/i=3\/i=4\/i=5 by omega) with rfl | rfl | rfl | rfl | rfl | rfl
 ·exact go tt [.t rfl,.i 0,.c [2] h1] rfl (by simp [Uz]) (rd 1 (by omega) (by omega) rfl)
 ·exact go tt [.t rfl,.i 1,.c [3] h2] rfl (by simp [Uz]) (rd 2 (by omega) (by omega) rfl)
 ·exact go tt [.t rfl,.i 2,.c [4] h3] rfl (by simp [Uz]) (rd 3 (by omega) (by omega) rfl)
 ·exact go tt [.t rfl,.i 3,.c [5] h4] rfl (by simp [Uz]) (rd 4 (by omega) (by omega) rfl)
 ·exact go tt [.t rfl,.i 4,.c [6] h5] rfl (by simp [Uz]) (rd 5 (by omega) (by omega) rfl)
 ·exact Uf [] [0,1,2,3,4,5,6] [.f rfl] rfl
theorem Qab {np nd id:Int} {M:List Pt} {q:Rat} {s t h p d:Cr} {lx ly l3:Uq} {bn:Bool} {e:Int} (he:e≠0)
 (ht:U5 prog 132 [.one (.ow 0 0),.agg [.row lx,.row ly,.bool bn,.row l3,.int .i64 id]] [tB np nd M] [.oi e] [tB np nd M]) :
 U5 prog 58 [.one (.ow 0 0),.oi id,.agg [.row lx,.row ly,.bool bn,.row l3]] (GF 0 np nd M q s t h p d) [.oi e] (GF 0 np nd M q s t h p d):=by
 refine Fw func58 rfl ?_;exact Uf [] [0,1,2,3,4,5,6] [.c [1] ht,.t (by simpa using he)] rfl
theorem oC {np nd:Int} {M:List Pt} {q r:Rat} {s t h p d s' t' h' p' d':Cr} {x0 x1 x2 x3:LV} {a b n1 n2 n3 n4 n5:Int} (ha:Gs x0 x1 a) (hb:Gs x2 x3 b) (sa:Fe a<=4294967295) (sb:Fe b<=4294967295) (hr:Gu a b=r) (hs:Qs 128 r) (hq:Qs 128 q) (hqr:q<=r)
 (h1:U5 prog 388 [.one (.ow 0 0),.agg (rl r)] [bS s M q] [.oi n1,.oi 0] [bS s' M r])
 (h2:U5 prog 417 [.one (.ow 0 0),.agg (rl r)] [bT t M q] [.oi n2,.oi 0] [bT t' M r])
 (h3:U5 prog 422 [.one (.ow 0 0),.agg (rl r)] [bH h M q] [.oi n3,.oi 0] [bH h' M r])
 (h4:U5 prog 427 [.one (.ow 0 0),.agg (rl r)] [bP p M q] [.oi n4,.oi 0] [bP p' M r])
 (h5:U5 prog 432 [.one (.ow 0 0),.agg (rl r)] [bD d M q] [.oi n5,.oi 0] [bD d' M r]) :
 U5 prog 17 [.one (.ow 0 0),.agg [x0,x1,x2,x3]] (GF 0 np nd M q s t h p d) [.oi 0] (GF 0 np nd M r s' t' h' p' d'):=by
 have cm:=BX ha hb sa sb;rw [hr] at cm;obtain ⟨b1,r1,rfl,rfl,_⟩:=ha;obtain ⟨b2,r2,rfl,rfl,_⟩:=hb;have cc:=B5 (a:=r) (b:=q) (hs.mono (by decide)) (hq.mono (by decide));have l1:=RZ.2 hs.1;have l2:(Fy r.den).length<=4:=by simpa using RZ.2 hs.2
 have hc:¬G6 r q<0:=λh=>absurd (Nm.1 h) (V5.2 hqr)
 refine Fw func17 rfl ?_;refine Ub [.k cm,.f (by simp [lml]; omega),.f (by simp [lml]; omega),.k cc,.f (by simpa using hc),.c Ut dY] rfl ?_;refine Ug (S:=Nat) 8 (λL1 i=>(32,.v (.oi i))::L1) (λi=>[.blk 80 (lK 0 q),tB np nd M,sel 0 i (bS s M q) (bS s' M r),sel 1 i (bT t M q) (bT t' M r),sel 2 i (bH h M q) (bH h' M r),sel 3 i (bP p M q) (bP p' M r),sel 4 i (bD d M q) (bD d' M r),.blk 42 (rl r)]) (λi=>5-i) (λi=>i<=5) 0 (by decide) rfl rfl λi hi=>?_
 rcases (show i=0\/i=1\/i=2\/i=3\/i=4\/i=5 by omega) with rfl | rfl | rfl | rfl | rfl | rfl
 ·exact go tt [.t rfl,.i 0,.c [2] h1] rfl (by simp [Uz]) (rd 1 (by omega) (by omega) rfl)
 ·exact go tt [.t rfl,.i 1,.c [3] h2] rfl (by simp [Uz]) (rd 2 (by omega) (by omega) rfl)
 ·exact go tt [.t rfl,.i 2,.c [4] h3] rfl (by simp [Uz]) (rd 3 (by omega) (by omega) rfl)
 ·exact go tt [.t rfl,.i 3,.c [5] h4] rfl (by simp [Uz]) (rd 4 (by omega) (by omega) rfl)
 ·exact go tt [.t rfl,.i 4,.c [6] h5] rfl (by simp [Uz]) (rd 5 (by omega) (by omega) rfl)
 ·exact Uf [] [0,1,2,3,4,5,6] [.f rfl] rfl
theorem zH {np nd:Int} {M:List Pt} {q r:Rat} {s t h p d:Cr} {x0 x1 x2 x3:LV} {a b:Int} (ha:Gs x0 x1 a) (hb:Gs x2 x3 b) (sa:Fe a<=4294967295) (sb:Fe b<=4294967295) (hr:Gu a b=r) (hs:¬Qs 128 r) :
 U5 prog 17 [.one (.ow 0 0),.agg [x0,x1,x2,x3]] (GF 0 np nd M q s t h p d) [.oi 1] (GF 0 np nd M q s t h p d):=by
 have cm:=BX ha hb sa sb;rw [hr] at cm;obtain ⟨b1,r1,rfl,rfl,_⟩:=ha;obtain ⟨b2,r2,rfl,rfl,_⟩:=hb;refine Fw func17 rfl ?_;by_cases h1:Fe r.num<=128
 ·have h2:¬Fe (r.den:Int)<=128:=λh=>hs ⟨h1,h⟩
  have l1:=RZ.2 h1;have l2:=mt RZ.1 h2;exact Uf [] [0,1,2,3,4,5,6] [.k cm,.f (by simp [lml]; omega),.t (by simp [lml] at l2 ⊢; omega)] rfl
 ·have l1:=mt RZ.1 h1;exact Uf [] [0,1,2,3,4,5,6] [.k cm,.t (by simp [lml]; omega),.t rfl] rfl
theorem EN {np nd:Int} {M:List Pt} {q r:Rat} {s t h p d:Cr} {x0 x1 x2 x3:LV} {a b:Int} (ha:Gs x0 x1 a) (hb:Gs x2 x3 b) (sa:Fe a<=4294967295) (sb:Fe b<=4294967295) (hr:Gu a b=r) (hs:Qs 128 r) (hq:Qs 128 q) (hqr:r<q) :
 U5 prog 17 [.one (.ow 0 0),.agg [x0,x1,x2,x3]] (GF 0 np nd M q s t h p d) [.oi 8] (GF 0 np nd M q s t h p d):=by
 have cm:=BX ha hb sa sb;rw [hr] at cm;obtain ⟨b1,r1,rfl,rfl,_⟩:=ha;obtain ⟨b2,r2,rfl,rfl,_⟩:=hb;have cc:=B5 (a:=r) (b:=q) (hs.mono (by decide)) (hq.mono (by decide));have l1:=RZ.2 hs.1;have l2:(Fy r.den).length<=4:=by simpa using RZ.2 hs.2
 have hc:G6 r q<0:=Nm.2 hqr;refine Fw func17 rfl ?_;exact Uf [] [0,1,2,3,4,5,6] [.k cm,.f (by simp [lml]; omega),.f (by simp [lml]; omega),.k cc,.t (by simpa using hc)] rfl
theorem Qdt {c:Cr} {l l':List Pt} {r1:Uq} {ws:List Wt} (hc:CrOk c) (hl:∀ p∈l',Sc p.c) (hn:l'.length≤10) (h:P0 c.l c.now (Fq (TP l' c.now))=some ws) :
 U5 prog 426 [.one (.ow 0 0),.agg [pts l'],.oi 0] [.blk 225 (Hr c (Uy l) r1)] [.oi 0] [.blk 225 (Hr ⟨c.now,ws,c.ev⟩ (Uy l') (brH l' c.now))]:=by
 have hB:=tI hl hn;have cn:=O6 (T:=225) (c:=c) (r0:=Uy l') (r1:=r1) hc.n;have cb:=AT (c:=c) (r1:=r1) hl hn hc.n;have cg:=JM (T:=225) (r0:=Uy l') (r1:=brH l' c.now) hc hc.n (Iw hc.n) (Ya 0) (hB.p _ hc.n) (hB.n _ hc.n) h;refine Fw func426 rfl ?_;exact Uf [] [0] [.f rfl,.c [0] cn,.c [0] cb,.c [0] cg] rfl
theorem Qlv {lx ly:Uq} {px py:Uk} {x y:LV} {d id:Int} {c:Cr} {l:List Pt} {r1:Uq} {ws:List Wt} (hx:IsInts lx px) (hy:IsInts ly py) (hd:Gs x y d) (hk:Cs 4294967294 1073741824 (Crv.mk px py d)) (hll:l.length<=900)
 (he:KL l ⟨Crv.norm (Crv.mk px py d),id⟩=0) (hc:CrOk c) (hl:∀ p∈put l ⟨Crv.norm (Crv.mk px py d),id⟩,Sc p.c) (hn:(put l ⟨Crv.norm (Crv.mk px py d),id⟩).length≤10) (h:P0 c.l c.now (Fq (TP (put l ⟨Crv.norm (Crv.mk px py d),id⟩) c.now))=some ws) :
 U5 prog 424 [.one (.ow 0 0),.agg [.row lx,.row ly,x,y,.int .i64 id]] [.blk 225 (Hr c (Uy l) r1)] [.oi 0] [.blk 225 (Hr ⟨c.now,ws,c.ev⟩ (Uy (put l ⟨Crv.norm (Crv.mk px py d),id⟩)) (brH (put l ⟨Crv.norm (Crv.mk px py d),id⟩) c.now))]:=by
 have cp:=kZ (l:=l) (id:=id) hx hy hd hk (by omega);rw [if_pos he,he] at cp;have cw:=Qdt (l:=l) (r1:=r1) hc hl hn h;refine Fw func424 rfl ?_;obtain ⟨b,l',rfl,rfl,_⟩:=hd;exact Uf [] [0] [.k cp,.c [0] cw] rfl
theorem Qaa {c:Cr} {r0:Uq} {r1:Uq}:U5 prog 65 [.one (.ow 0 0)] [.blk 225 (Hr c r0 r1)] [.one (.ow 1 0)] [.blk 225 (Hr c r0 r1),.blk 225 (Hr c r0 r1)]:=by
 refine Fw func65 rfl ?_;exact Uf [] [0,1] [] rfl
theorem Qd5 {c:Cr} {l l':List Pt} {r1:Uq} {ws:List Wt} (hc:CrOk c) (hl:∀ p∈l',Sc p.c) (hn:l'.length≤10) (h:P0 c.l c.now (Fq (zF l' c.now))=some ws) :
 U5 prog 431 [.one (.ow 0 0),.agg [pts l'],.oi 0] [.blk 227 (Hr c (Uy l) r1)] [.oi 0] [.blk 227 (Hr ⟨c.now,ws,c.ev⟩ (Uy l') (brP l' c.now))]:=by
 have hB:=Qdb hl hn;have cn:=O6 (T:=227) (c:=c) (r0:=Uy l') (r1:=r1) hc.n;have cb:=AS (c:=c) (r1:=r1) hl hn hc.n;have cg:=JM (T:=227) (r0:=Uy l') (r1:=brP l' c.now) hc hc.n (Iw hc.n) (Ya 0) (hB.p _ hc.n) (hB.n _ hc.n) h;refine Fw func431 rfl ?_;exact Uf [] [0] [.f rfl,.c [0] cn,.c [0] cb,.c [0] cg] rfl
theorem Ql3 {lx ly:Uq} {px py:Uk} {x y:LV} {d id:Int} {c:Cr} {l:List Pt} {r1:Uq} {ws:List Wt} (hx:IsInts lx px) (hy:IsInts ly py) (hd:Gs x y d) (hk:Cs 4294967294 1073741824 (Crv.mk px py d)) (hll:l.length<=900)
 (he:KL l ⟨Crv.norm (Crv.mk px py d),id⟩=0) (hc:CrOk c) (hl:∀ p∈put l ⟨Crv.norm (Crv.mk px py d),id⟩,Sc p.c) (hn:(put l ⟨Crv.norm (Crv.mk px py d),id⟩).length≤10) (h:P0 c.l c.now (Fq (zF (put l ⟨Crv.norm (Crv.mk px py d),id⟩) c.now))=some ws) :
 U5 prog 429 [.one (.ow 0 0),.agg [.row lx,.row ly,x,y,.int .i64 id]] [.blk 227 (Hr c (Uy l) r1)] [.oi 0] [.blk 227 (Hr ⟨c.now,ws,c.ev⟩ (Uy (put l ⟨Crv.norm (Crv.mk px py d),id⟩)) (brP (put l ⟨Crv.norm (Crv.mk px py d),id⟩) c.now))]:=by
 have cp:=kZ (l:=l) (id:=id) hx hy hd hk (by omega);rw [if_pos he,he] at cp;have cw:=Qd5 (l:=l) (r1:=r1) hc hl hn h;refine Fw func429 rfl ?_;obtain ⟨b,l',rfl,rfl,_⟩:=hd;exact Uf [] [0] [.k cp,.c [0] cw] rfl
theorem Qad {c:Cr} {r0:Uq} {r1:Uq}:U5 prog 66 [.one (.ow 0 0)] [.blk 227 (Hr c r0 r1)] [.one (.ow 1 0)] [.blk 227 (Hr c r0 r1),.blk 227 (Hr c r0 r1)]:=by
 refine Fw func66 rfl ?_;exact Uf [] [0,1] [] rfl
theorem Qlo {np nd:Int} {M:List Pt} {q:Rat} {s t h p d:Cr} (hq:Qs 128 q):U5 prog 32 [.one (.ow 0 0)] (GF 0 np nd M q s t h p d) [.agg (rl q)] (GF 0 np nd M q s t h p d):=by
 refine Fw func32 rfl ?_;exact Uf [] [0,1,2,3,4,5,6] [.k (Nl (hq.mono (by decide)))] rfl
abbrev en2 (np nd:Int) (M:List Pt) (q:Rat) (s t h p d:Cr) (np' nd':Int) (M':List Pt) (q':Rat) (s' t' h' p' d':Cr):Ur:=[.blk 80 (lK 0 q),tB np nd M,bS s M q,bT t M q,bH h M q,bP p M q,bD d M q,.blk 80 (lK 7 q'),tB np' nd' M',bS s' M' q',bT t' M' q',bH h' M' q',bP p' M' q',bD d' M' q']
theorem zS {np nd:Int} {M:List Pt} {q:Rat} {s t h p d:Cr} (hq:Qs 128 q):U5 prog 13 [.one (.ow 0 0)] (GF 0 np nd M q s t h p d) [.one (.ow 7 0)] (en2 np nd M q s t h p d np nd M q s t h p d):=by
 refine Fw func13 rfl ?_;exact Uf [] [0,1,2,3,4,5,6,13,7,8,9,10,11,12] [.lo,.c [1,7] Qfb,.lo,.c Ut (Qlo hq),.lo,.c [2,8] Qeb,.lo,.c [3,9] Qaj,.lo,.c [4,10] Qaa,.lo,.c [5,11] Qad,.lo,.c [6,12] oD] rfl
abbrev anw (S W H P:List Pt) (T:List P3):Up:=[ids (S.map (·.id)),ids (W.map (·.id)),ids (H.map (·.id)),ids (P.map (·.id)),.row (QD T)]
theorem Qmf {np nd:Int} {M S W H P:List Pt} {T:List P3} {r2:Uq} {q:Rat} {s t h p d:Cr} (hS:S.length<=1000000) (hH:H.length<=1000000) (hT:T.length<=1000) (hW:W=[]\/∃ w,W=[w]) (hP:P=[]\/∃ a b,P=[a,b]) :
 U5 prog 26 [.one (.ow 0 0)] [.blk 80 (lK 0 q),tB np nd M,.blk 220 (Hr s (Uy M) (Uy S)),.blk 223 (To t (Uy M) (W.map Fa,r2)),.blk 225 (Hr h (Uy M) (Uy H)),.blk 227 (Hr p (Uy M) (Uy P)),.blk 229 (Hr d (Uy M) (QD T))]
  [.agg (anw S W H P T)] [.blk 80 (lK 0 q),tB np nd M,.blk 220 (Hr s (Uy M) (Uy S)),.blk 223 (To t (Uy M) (W.map Fa,r2)),.blk 225 (Hr h (Uy M) (Uy H)),.blk 227 (Hr p (Uy M) (Uy P)),.blk 229 (Hr d (Uy M) (QD T))]:=by
 have c1:=Qsm (c:=s) (l:=M) hS;have c2:=Qsb (c:=h) (l:=M) hH;have c3:=sG (c:=d) (r0:=Uy M) hT;rcases hW with rfl | ⟨w,rfl⟩
 ·have c4:=Qej (c:=t) (r0:=Uy M) (r2:=r2);rcases hP with rfl | ⟨a,b,rfl⟩
  ·have c5:=kQ (c:=p) (r0:=Uy M);refine Fw func26 rfl ?_;exact Uf [] [0,1,2,3,4,5,6] [.c [2] c1,.c [4] c2,.c [6] c3,.c [3] c4,.f rfl,.c [5] c5,.f rfl] rfl
  ·have c5:=cO (c:=p) (r0:=Uy M) (a:=a) (b:=b);refine Fw func26 rfl ?_;exact Uf [] [0,1,2,3,4,5,6] [.c [2] c1,.c [4] c2,.c [6] c3,.c [3] c4,.f rfl,.c [5] c5,.t rfl] rfl
 ·have c4:=Qmi (c:=t) (r0:=Uy M) (r2:=r2) (w:=w);rcases hP with rfl | ⟨a,b,rfl⟩
  ·have c5:=kQ (c:=p) (r0:=Uy M);refine Fw func26 rfl ?_;exact Uf [] [0,1,2,3,4,5,6] [.c [2] c1,.c [4] c2,.c [6] c3,.c [3] c4,.t rfl,.c [5] c5,.f rfl] rfl
  ·have c5:=cO (c:=p) (r0:=Uy M) (a:=a) (b:=b);refine Fw func26 rfl ?_;exact Uf [] [0,1,2,3,4,5,6] [.c [2] c1,.c [4] c2,.c [6] c3,.c [3] c4,.t rfl,.c [5] c5,.t rfl] rfl
abbrev EP (M:List Pt) (q:Rat):Up:=anw (Ts (tq q) M) (Mw (Fp (tq q)) M).1 (Sr M (tq q)) (ZZ (Fp (tq q)) M) (OR (Fp (tq q)) M)
theorem oZ (sg:Uk->Int) (M:List Pt):(Mw sg M).1=[]\/∃ w,(Mw sg M).1=[w]:=by
 by_cases h:0<M.length
 ·obtain ⟨a,ha,_⟩:=Nc sg M.length M (Ql _) h;exact .inr ⟨a,ha⟩
 ·obtain rfl:=Qj (by omega:M.length=0);exact .inl rfl
theorem fJ (sg:Uk->Int) (M:List Pt):ZZ sg M=[]\/∃ a b,ZZ sg M=[a,b]:=by
 match M with
 | []=>exact .inl rfl
 | [_]=>exact .inl rfl
 | _::_::_=>exact .inr ⟨_,_,rfl⟩
theorem zB {np nd:Int} {M:List Pt} {q:Rat} {s t h p d:Cr} (hM:M.length<=6):U5 prog 26 [.one (.ow 0 0)] (GF 0 np nd M q s t h p d) [.agg (EP M q)] (GF 0 np nd M q s t h p d) :=
 Qmf (by rw [Nh]; omega) (by have:=JL M (tq q); omega) (by have:=OT (Fp (tq q)) hM; omega) (oZ _ _) (fJ _ _)
theorem Qae {np nd:Int} {M:List Pt} {q r:Rat} {s t h p d s' t' h' p' d':Cr} {b1 b2:Bool} {r1 r2:Uq} (hq:Qs 128 q) (hM:M.length<=6)
 (ha:U5 prog 17 [.one (.ow 0 0),.agg [.bool b1,.row r1,.bool b2,.row r2]] (GF 0 np nd M q s t h p d) [.oi 0] (GF 0 np nd M r s' t' h' p' d')) :
 U5 prog 20 [.one (.ow 0 0),.agg [.bool b1,.row r1,.bool b2,.row r2]] (GF 0 np nd M q s t h p d) [.agg (EP M r),.oi 0] (GF 0 np nd M q s t h p d):=by
 refine Fw func20 rfl ?_;exact Uf [] [0,1,2,3,4,5,6] [.c Uw (zS hq),.c Uv ha,.f rfl,.c Uv (zB hM)] rfl
abbrev Qru:Up:=[.row [],.row [],.row [],.row [],.row []]
theorem Qd8 {np nd:Int} {M:List Pt} {q:Rat} {s t h p d:Cr} {b1 b2:Bool} {r1 r2:Uq} {e:Int} (he:e≠0) (hq:Qs 128 q)
 (ha:U5 prog 17 [.one (.ow 0 0),.agg [.bool b1,.row r1,.bool b2,.row r2]] (GF 0 np nd M q s t h p d) [.oi e] (GF 0 np nd M q s t h p d)) :
 U5 prog 20 [.one (.ow 0 0),.agg [.bool b1,.row r1,.bool b2,.row r2]] (GF 0 np nd M q s t h p d) [.agg Qru,.oi e] (GF 0 np nd M q s t h p d):=by
 refine Fw func20 rfl ?_;exact Uf [] [0,1,2,3,4,5,6] [.c Uw (zS hq),.c Uv ha,.t (by simpa using he)] rfl
abbrev Qjb (k i:Nat) (e:Int):LV:=match Nat.blt k i with
 | true=>.int .i64 e
 | false=>.int .i64 0
theorem Qdl {np nd:Int} {M:List Pt} {q:Rat} {s t h p d:Cr}:U5 prog 22 [.one (.ow 0 0)] (GF 0 np nd M q s t h p d) [.agg [.int .i64 s.ev,.int .i64 t.ev,.int .i64 h.ev,.int .i64 p.ev,.int .i64 d.ev]] (GF 0 np nd M q s t h p d):=by
 refine Fw func22 rfl ?_;refine Ub [.c Ut dY] rfl ?_;refine Ug (S:=Nat) 9 (λL1 i=>(8,.v (.oi i))::L1) (λi=>[.blk 80 (lK 0 q),tB np nd M,bS s M q,bT t M q,bH h M q,bP p M q,bD d M q,.blk 63 [.int .i64 0,.int .i64 0,.int .i64 0,.int .i64 0,.int .i64 0],.blk 63 [Qjb 0 i s.ev,Qjb 1 i t.ev,Qjb 2 i h.ev,Qjb 3 i p.ev,Qjb 4 i d.ev]]) (λi=>5-i) (λi=>i<=5) 0 (by decide) rfl rfl λi hi=>?_
 rcases (show i=0\/i=1\/i=2\/i=3\/i=4\/i=5 by omega) with rfl | rfl | rfl | rfl | rfl | rfl
 ·exact go tt [.t rfl,.i 0,.c [2] JB,.i 0] rfl (by simp [Uz]) (rd 1 (by omega) (by omega) rfl)
 ·exact go tt [.t rfl,.i 1,.c [3] Qai,.i 1] rfl (by simp [Uz]) (rd 2 (by omega) (by omega) rfl)
 ·exact go tt [.t rfl,.i 2,.c [4] JB,.i 2] rfl (by simp [Uz]) (rd 3 (by omega) (by omega) rfl)
 ·exact go tt [.t rfl,.i 3,.c [5] JB,.i 3] rfl (by simp [Uz]) (rd 4 (by omega) (by omega) rfl)
 ·exact go tt [.t rfl,.i 4,.c [6] JB,.i 4] rfl (by simp [Uz]) (rd 5 (by omega) (by omega) rfl)
 ·exact Uf [] [0,1,2,3,4,5,6] [.f rfl] rfl
abbrev Ih (l:List Wt):List Ct:=Fq (l.map (·.c))
def TB (s t h p d:Cr):Nat->Uq
 | 0=>[]
 | 1=>[]++U6 (Ih s.l)
 | 2=>[]++U6 (Ih s.l)++U6 (Ih t.l)
 | 3=>[]++U6 (Ih s.l)++U6 (Ih t.l)++U6 (Ih h.l)
 | 4=>[]++U6 (Ih s.l)++U6 (Ih t.l)++U6 (Ih h.l)++U6 (Ih p.l)
 | _=>[]++U6 (Ih s.l)++U6 (Ih t.l)++U6 (Ih h.l)++U6 (Ih p.l)++U6 (Ih d.l)
theorem Qln {np nd:Int} {M:List Pt} {q:Rat} {s t h p d:Cr} (hs:CrOk s) (ht:CrOk t) (hh:CrOk h) (hp:CrOk p) (hd:CrOk d):U5 prog 24 [.one (.ow 0 0)] (GF 0 np nd M q s t h p d) [.one (.row (U6 (Ih s.l++Ih t.l++Ih h.l++Ih p.l++Ih d.l)))] (GF 0 np nd M q s t h p d):=by
 have e:U6 (Ih s.l++Ih t.l++Ih h.l++Ih p.l++Ih d.l)=TB s t h p d 5:=by simp [U6,TB]
 rw [e];have ln:∀ {c:Cr},CrOk c->(U6 (Ih c.l)).length<=1000:=λ{c} hc=>by rw [Pa,Ml,Q6]; exact hc.k
 have l1:=ln hs;have l2:=ln ht;have l3:=ln hh;have l4:=ln hp;have l5:=ln hd;have k1:(U6 (Fq (s.l.map (·.c)))).length<=1000:=ln hs;have k2:(U6 (Fq (t.l.map (·.c)))).length<=1000:=ln ht;have k3:(U6 (Fq (h.l.map (·.c)))).length<=1000:=ln hh;have k4:(U6 (Fq (p.l.map (·.c)))).length<=1000:=ln hp;have k5:(U6 (Fq (d.l.map (·.c)))).length<=1000:=ln hd;have m1:(TB s t h p d 1).length<=1000:=by show ([]++U6 (Ih s.l)).length<=_; simp only [Qy,X6]; omega
 have m2:(TB s t h p d 2).length<=2000:=by show ([]++U6 (Ih s.l)++U6 (Ih t.l)).length<=_; simp only [Qy,X6]; omega
 have m3:(TB s t h p d 3).length<=3000:=by show ([]++U6 (Ih s.l)++U6 (Ih t.l)++U6 (Ih h.l)).length<=_; simp only [Qy,X6]; omega
 have m4:(TB s t h p d 4).length<=4000:=by show ([]++U6 (Ih s.l)++U6 (Ih t.l)++U6 (Ih h.l)++U6 (Ih p.l)).length<=_; simp only [Qy,X6]; omega
 have m0:(TB s t h p d 0).length=0:=rfl;refine Fw func24 rfl ?_;refine Ub [.o 3 99 7,.c Ut dY] rfl ?_;refine Ug (S:=Nat) 8 (λL1 i=>(8,.v (.oi i))::(3,.v (.one (.orow 7 7 none)))::L1) (λi=>[.blk 80 (lK 0 q),tB np nd M,bS s M q,bT t M q,bH h M q,bP p M q,bD d M q,.row false 99 7 (TB s t h p d i)]) (λi=>5-i) (λi=>i<=5) 0 (by decide) rfl rfl λi hi=>?_
 rcases (show i=0\/i=1\/i=2\/i=3\/i=4\/i=5 by omega) with rfl | rfl | rfl | rfl | rfl | rfl
 ·exact go tt [.t rfl,.i 0,.c [2] (WP hs),.s (Iz _)] rfl (by simp only [Uz]; omega) (rd 1 (by omega) (by omega) rfl)
 ·exact go tt [.t rfl,.i 1,.c [3] (Qeg ht),.s (Iz _)] rfl (by simp only [Uz]; omega) (rd 2 (by omega) (by omega) rfl)
 ·exact go tt [.t rfl,.i 2,.c [4] (WP hh),.s (Iz _)] rfl (by simp only [Uz]; omega) (rd 3 (by omega) (by omega) rfl)
 ·exact go tt [.t rfl,.i 3,.c [5] (WP hp),.s (Iz _)] rfl (by simp only [Uz]; omega) (rd 4 (by omega) (by omega) rfl)
 ·exact go tt [.t rfl,.i 4,.c [6] (WP hd),.s (Iz _)] rfl (by simp only [Uz]; omega) (rd 5 (by omega) (by omega) rfl)
 ·exact Uf [7] [0,1,2,3,4,5,6] [.f rfl] rfl
theorem Qp8:∀ p∈([]:List Pt),Sc p.c:=λ_ h=>by cases h
theorem Qkp:∀ x∈([]:List Ct),Cp x.p:=λ_ h=>by cases h
theorem tK:Uh 193 [.one (.row [])] [.agg [.row []],.oi 0]:=by
 refine Fw func193 rfl ?_;refine Ub [.f rfl] rfl ?_;refine nlb 1 rfl rfl rfl ?_;refine Ug (S:=Unit) 2 (λL1 _=>(14,.v (.oi 0))::L1) (λ_=>[.blk 218 [.nils],.blk 218 [.row []]]) (λ_=>0) (λ_=>True) () trivial rfl rfl λ_ _=>?_
 exact Ud [.f rfl] rfl
abbrev zT (r0 r1 r2:LV):OB:=.blk 223 [.bool false,.nils,.bool false,.nils,.bool false,.nils,.bool false,.nils,.bool false,.nils,.nils,.int .i64 0,r0,r1,r2]
theorem Qp6 {a:Tm}:U5 prog 254 [.one (.ow 0 0),.agg (ta a),.one (.row [])] [zT (.row []) .nils (.orow 1 10 none),.row false 323 10 []] [.one (.row [])] [zT (.row []) .nils (.orow 1 10 none),.row false 323 10 []]:=by
 refine Fw func254 rfl ?_;exact Uf [] [0,1] [.t rfl] rfl
theorem Qkn {a:Tm}:U5 prog 196 [.one (.ow 0 0),.agg (ta a)] [zT (.row []) .nils .nils] [.one (.row [])] [zT (.row []) (.row []) (.row [])]:=by
 refine Fw func196 rfl ?_;refine Ub [] rfl ?_;refine oz 0 14 323 10 rfl rfl ?_;refine Ub [.k (If (l:=[])),.c [0,2] (Qp6 (a:=a)),.o 5 99 7] rfl ?_;refine Ug (S:=Unit) 4 (λL1 _=>(29,.v (.oi 0))::(5,.v (.one (.orow 3 7 none)))::L1) (λ_=>[zT (.row []) (.row []) (.orow 2 10 none),.blk 105 (ta a),.row false 323 10 [],.row false 99 7 []]) (λ_=>0) (λ_=>True) () trivial rfl rfl λ_ _=>?_
 exact Uf [2,3] [0] [.f rfl] rfl
theorem Qko:Uh 257 [.agg [.row []]] [.one (.row [])]:=sN (l:=[]) (λ_ h=>by cases h) (by decide)
theorem Qrp {a:Tm} (ha:Va a):Uh 251 [.agg (ta a),.one (.row [])] [.one (.row [])]:=kX (l:=[]) Qp8 (by decide) ha
theorem Qkl {a:Tm} (ha:Va a):U5 prog 197 [.one (.ow 0 0),.agg (ta a)] [.blk 225 (pZ (.row []) .nils)] [.one (.row [])] [.blk 225 (pZ (.row []) (.row []))]:=by
 have cn:Uh 256 [.agg (ta a),.one (.row [])] [.one (.row [])]:=dH (R:=[]) Qp8 (by decide) ha;have cc:U5 prog 253 [.agg (ta a),.one (.row [])] [] [.one (.orow 0 7 none)] [.row false 99 7 []]:=TM (l:=[]) Qp8 (by decide) ha;refine Fw func197 rfl ?_;exact Uf [2] [0] [.k Qko,.k (Qrp ha),.k cn,.k (If (l:=[])),.k (Qrp ha),.c [2] cc,.t rfl] rfl
theorem Qkm {a:Tm}:U5 prog 198 [.one (.ow 0 0),.agg (ta a)] [.blk 227 (pZ (.row []) .nils)] [.one (.row [])] [.blk 227 (pZ (.row []) (.row []))]:=by
 refine Fw func198 rfl ?_;refine Ub [.k (If (l:=[]))] rfl ?_;refine nlc 0 13 rfl rfl rfl ?_;exact Uf [] [0] [.t rfl] rfl
theorem Qkk {a:Tm}:U5 prog 199 [.one (.ow 0 0),.agg (ta a)] [.blk 229 (pZ (.row []) .nils)] [.one (.row [])] [.blk 229 (pZ (.row []) (.row []))]:=by
 refine Fw func199 rfl ?_;refine Ub [.k Qko,.o 6 99 7] rfl ?_;refine Ug (S:=Unit) 4 (λL1 _=>(42,.v (.oi 0))::(6,.v (.one (.orow 2 7 none)))::L1) (λ_=>[.blk 229 (pZ (.row []) .nils),.blk 105 (ta a),.row false 99 7 [],.mpb (Ap (ZW (Fp a) []))]) (λ_=>0) (λ_=>True) () trivial rfl rfl λ_ _=>?_
 refine Ub [.f rfl] rfl ?_;refine Ug (S:=Unit) 5 (λL1 _=>(97,.v (.oi 0))::(6,.v (.one (.orow 2 7 none)))::L1) (λ_=>[.blk 229 (pZ (.row []) .nils),.blk 105 (ta a),.row false 99 7 [],.mpb (Ap (ZW (Fp a) [])),.mpb (I5 (Ap (ZW (Fp a) [])) (VX (Fp a) []))]) (λ_=>0) (λ_=>True) () trivial rfl rfl λ_ _=>?_
 refine Ub [.f rfl] rfl ?_;refine ozM 0 13 84 3 rfl rfl ?_;refine Ug (S:=Unit) 6 (λL1 _=>(174,.v (.oi 0))::L1) (λ_=>[.blk 229 [.bool false,.nils,.bool false,.nils,.bool false,.nils,.bool false,.nils,.bool false,.nils,.nils,.int .i64 0,.row [],.orow 5 3 none],.blk 105 (ta a),.row false 99 7 [],.mpb (Ap (ZW (Fp a) [])),.mpb (I5 (Ap (ZW (Fp a) [])) (VX (Fp a) [])),.row false 84 3 []]) (λ_=>0) (λ_=>True) () trivial rfl rfl λ_ _=>?_
 exact Uf [2,5] [0] [.f rfl] rfl
section
variable {x y x' y':LV} {n d:Int} (h1:Gs x y n) (h2:Gs x' y' d) (bn:Fe n<=4294967295) (bd:Fe d<=4294967295) (ht:Qs 1640000 (Gu n d))
include h1 h2 bn bd ht
theorem Qp5:U5 prog 123 [.agg [x,y,x',y'],.one (.row [])] [] [.one (.ow 0 0),.oi 0] [.blk 220 (Hr ⟨tq (Gu n d),[],0⟩ [] [])]:=by
 have co:=VW h1 h2 bn bd (ht.mono (by decide));have cb:U5 prog 195 [.one (.ow 0 0),.agg (ta (tq (Gu n d)))] [.blk 220 (pZ (.row []) .nils)] [.one (.row [])] [.blk 220 (pZ (.row []) (.row []))]:=Qaf (l:=[]) Qp8 (by decide) (TK ht);have cg:=JP (T:=220) (r0:=[]) (r1:=[]) (TK ht) Qkp (by decide);obtain ⟨b,l1,rfl,rfl,_⟩:=h1;obtain ⟨b',l2,rfl,rfl,_⟩:=h2;refine Fw func123 rfl ?_;exact Uf [] [2] [.k tK,.f rfl,.k co,.c [2] cb,.c [2] cg] rfl
theorem Qp7:U5 prog 124 [.agg [x,y,x',y'],.one (.row [])] [] [.one (.ow 0 0),.oi 0] [.blk 223 (To ⟨tq (Gu n d),[],0⟩ [] ([],[]))]:=by
 have co:=VW h1 h2 bn bd (ht.mono (by decide));have cg:=Qag (T:=223) (r0:=[]) (r1:=([],[])) (TK ht) Qkp (by decide);obtain ⟨b,l1,rfl,rfl,_⟩:=h1;obtain ⟨b',l2,rfl,rfl,_⟩:=h2;refine Fw func124 rfl ?_;exact Uf [] [2] [.k tK,.f rfl,.k co,.c [2] (Qkn (a:=tq (Gu n d))),.c [2] cg] rfl
theorem Qp3:U5 prog 125 [.agg [x,y,x',y'],.one (.row [])] [] [.one (.ow 0 0),.oi 0] [.blk 225 (Hr ⟨tq (Gu n d),[],0⟩ [] [])]:=by
 have co:=VW h1 h2 bn bd (ht.mono (by decide));have cg:=JP (T:=225) (r0:=[]) (r1:=[]) (TK ht) Qkp (by decide);obtain ⟨b,l1,rfl,rfl,_⟩:=h1;obtain ⟨b',l2,rfl,rfl,_⟩:=h2;refine Fw func125 rfl ?_;exact Uf [] [2] [.k tK,.f rfl,.k co,.c [2] (Qkl (TK ht)),.c [2] cg] rfl
theorem Qp4:U5 prog 126 [.agg [x,y,x',y'],.one (.row [])] [] [.one (.ow 0 0),.oi 0] [.blk 227 (Hr ⟨tq (Gu n d),[],0⟩ [] [])]:=by
 have co:=VW h1 h2 bn bd (ht.mono (by decide));have cg:=JP (T:=227) (r0:=[]) (r1:=[]) (TK ht) Qkp (by decide);obtain ⟨b,l1,rfl,rfl,_⟩:=h1;obtain ⟨b',l2,rfl,rfl,_⟩:=h2;refine Fw func126 rfl ?_;exact Uf [] [2] [.k tK,.f rfl,.k co,.c [2] (Qkm (a:=tq (Gu n d))),.c [2] cg] rfl
theorem Qp2:U5 prog 127 [.agg [x,y,x',y'],.one (.row [])] [] [.one (.ow 0 0),.oi 0] [.blk 229 (Hr ⟨tq (Gu n d),[],0⟩ [] [])]:=by
 have co:=VW h1 h2 bn bd (ht.mono (by decide));have cg:=JP (T:=229) (r0:=[]) (r1:=[]) (TK ht) Qkp (by decide);obtain ⟨b,l1,rfl,rfl,_⟩:=h1;obtain ⟨b',l2,rfl,rfl,_⟩:=h2;refine Fw func127 rfl ?_;exact Uf [] [2] [.k tK,.f rfl,.k co,.c [2] (Qkk (a:=tq (Gu n d))),.c [2] cg] rfl
end
end Orr
namespace Orr
open Go Go.Proofs Tryz Orq
set_option maxRecDepth 10000
theorem Qs4 {np nd:Int} (h1:1<=np/\np<=6) (h2:0<=nd/\nd<=2):U5 prog 121 [.oi np,.oi nd] [] [.one (.ow 0 0),.oi 0] [.blk 159 [.int .i64 np,.int .i64 nd,.nils]]:=by
 refine Fw func121 rfl ?_;exact Uf [] [0] [.F,.f (by simp; omega),.f (by simp; omega),.f (by simp; omega)] rfl
theorem Qr9 {np nd:Int} (h1:1<=np/\np<=6) (h2:0<=nd/\nd<=2):U5 prog 54 [.oi np,.oi nd] [] [.one (.ow 0 0),.oi 0] (GF 0 np nd [] 0 (Qwf [] (tq 0)) (Qwg [] (tq 0)) (Qwd [] (tq 0)) (Qwe [] (tq 0)) (Qwc [] (tq 0))):=by
 have ez:Gu (0:Rat).num ((0:Rat).den:Int)=0:=by decide
 have hq:Qs 1640000 (Gu (0:Rat).num ((0:Rat).den:Int)):=by rw [ez]; exact ⟨by decide,by decide⟩
 have i1:=U3 (0:Rat).num;have i2:=U3 ((0:Rat).den:Int);have c1:=Qp5 i1 i2 (by decide) (by decide) hq;have c2:=Qp7 i1 i2 (by decide) (by decide) hq;have c3:=Qp3 i1 i2 (by decide) (by decide) hq;have c4:=Qp4 i1 i2 (by decide) (by decide) hq;have c5:=Qp2 i1 i2 (by decide) (by decide) hq;rw [ez] at c1 c2 c3 c4 c5;have ci:=Qs1 (n:=0) (by decide);rw [show ((0:Int):Rat)=0 from rfl,D7] at ci;refine Fw func54 rfl ?_;refine Ub [.c [0] (Qs4 h1 h2),.f rfl] rfl ?_;refine nlc 0 2 rfl rfl rfl ?_;exact Uf [] [1,0,2,3,4,5,6] [.k ci,.c [2] c1,.c [3] c2,.c [4] c3,.c [5] c4,.c [6] c5] rfl
theorem WC {l:Uk} (hl:l.length<=1000000):Uh 76 [.one (ids l),.one (ids l)] [.one (.bool true)]:=by
 have hll:(l.map λ(x:Int)=>[LV.int .i64 x]).length=l.length:=by simp
 refine Fw func76 rfl ?_;refine Ub [.f (by simp)] rfl ?_;refine Ug (S:=Nat) 0 (λL1 i=>(14,.v (.oi i))::L1) (λ_=>[]) (λi=>l.length-i) (λi=>i<=l.length) 0 (Qh _) rfl rfl λi hi=>?_
 by_cases h:i<l.length
 ·have hx:=Gt (f:=λ(x:Int)=>[LV.int .i64 x]) (Qe h);refine Uc [.t (by simp; omega),.x hx,.x hx,.f (by simp)] rfl ?_;exact rd (i+1) (by omega) h rfl
 ·exact Ud [.f (by simp; omega)] rfl
theorem Qep {l:List P3} (hl:l.length<=1000000):Uh 77 [.one (.row (QD l)),.one (.row (QD l))] [.one (.bool true)]:=by
 have hll:(QD l).length=l.length:=by simp [QD]
 refine Fw func77 rfl ?_;refine Ub [.f (by simp)] rfl ?_;refine Ug (S:=Nat) 0 (λL1 i=>(14,.v (.oi i))::L1) (λ_=>[]) (λi=>l.length-i) (λi=>i<=l.length) 0 (Qh _) rfl rfl λi hi=>?_
 by_cases h:i<l.length
 ·have hx:=Gt (f:=trL) (Qe h);refine Uc [.t (by simp; omega),.x hx,.x hx,.f (by simp)] rfl ?_;exact rd (i+1) (by omega) h rfl
 ·exact Ud [.f (by simp; omega)] rfl
theorem Qlr {np nd np' nd':Int} {M:List Pt} {q:Rat} {s t h p d s' t' h' p' d':Cr} (hM:M.length≤6) (hok:∀ x∈M,oV 4294967294 1073741824 x) (hq:Qs 128 q):U5 prog 21 [.one (.ow 0 0),.one (.ow 7 0)] (en2 np nd M q s t h p d np' nd' M q s' t' h' p' d') [.one (.bool true)] (en2 np nd M q s t h p d np' nd' M q s' t' h' p' d'):=by
 have ca:=Qfa (np:=np) (nd:=nd) hok (by omega);have ca':=Qfa (np:=np') (nd:=nd') hok (by omega);have cc:=B5 (a:=q) (b:=q) (hq.mono (by decide)) (hq.mono (by decide));have e0:G6 q q=0:=by rcases Ty q q with ⟨e,h⟩ | ⟨e,h⟩ | ⟨e,h⟩ <;> grind
 rw [e0] at cc;have hll:(M.map Fa).length=M.length:=by simp
 have l1:(Ts (tq q) M).length<=6:=by rw [Nh]; exact hM
 have l3:=JL M (tq q);have l5:=OT (Fp (tq q)) hM;have s1:=WC (l:=(Ts (tq q) M).map (·.id)) (by rw [Q6]; omega);have s2:=WC (l:=(Mw (Fp (tq q)) M).1.map (·.id)) (by rw [Q6]; rcases oZ (Fp (tq q)) M with e | ⟨w,e⟩ <;> rw [e] <;> simp);have s3:=WC (l:=(Sr M (tq q)).map (·.id)) (by rw [Q6]; omega);have s4:=WC (l:=(ZZ (Fp (tq q)) M).map (·.id)) (by rw [Q6]; rcases fJ (Fp (tq q)) M with e | ⟨a,b,e⟩ <;> rw [e] <;> simp);have s5:=Qep (l:=OR (Fp (tq q)) M) (by omega);refine Fw func21 rfl ?_;refine Ub [.lo,.c [1] ca,.lo,.c [8] ca',.k cc,.g 31 false rfl,.f (by simp)] rfl ?_;refine Ug (S:=Nat) 14 (λL1 i=>(40,.v (.oi i))::L1) (λ_=>en2 np nd M q s t h p d np' nd' M q s' t' h' p' d') (λi=>M.length-i) (λi=>i<=M.length) 0 (Qh _) rfl rfl λi hi=>?_
 by_cases h:i<M.length
 ·obtain ⟨x,hx⟩:=gxE (l:=M) (i:=i) h;have hxo:=hok x (Qa hx);have cs:=dV hxo.1 hxo.1 hxo.2 hxo.2;rw [show Lu x.c x.c=true by simp [Lu]] at cs;refine Uc [.t (by simp; omega),.x (Ta hx),.x (Ta hx),.g 53 false (by simp),.x (Ta hx),.k cs,.f rfl] rfl ?_;exact rd (i+1) (by omega) h rfl
 ·exact Uf [] [0,1,2,3,4,5,6,7,8,9,10,11,12,13] [.f (by simp; omega),.c Ut (zB hM),.c [7,8,9,10,11,12,13] (zB hM),.k s1,.t rfl,.k s2,.t rfl,.k s3,.t rfl,.k s4,.t rfl,.k s5] rfl
def Em.ins (A:Em) (p:Pt):Em×Int:=(if Ms A.np A.nd A.M p=0 then { A with M:=put A.M p } else A,Ms A.np A.nd A.M p)
open Classical in
noncomputable def Em.adv (A:Em) (t:Rat):Em×Int:=if Qs 128 t then (if t<A.q then (A,8) else ({ A with q:=t,s:=A.s+(cnt (ZH A.M) A.q t:Nat),t:=A.t+(cnt (PS A.M) A.q t:Nat),h:=A.h+(cnt (TP A.M) A.q t:Nat),p:=A.p+(cnt (zF A.M) A.q t:Nat),d:=A.d+(cnt (EF A.M) A.q t:Nat) },0)) else (A,1)
theorem Qxv {np nd:Int} {k:Crv} (hn:JH k) (hnd:nd<=2) (h1:QB k=true) (h2:¬nd<wV k):Sc k:=by
 obtain ⟨s1,s2,s3⟩:=LD.1 h1;unfold wV at h2;exact ⟨hn,s1,s2,s3,by omega,by omega⟩
theorem Quf {p:Pt} (h:RY p=true):(0<=p.id/\p.id<=1048576)/\QB p.c=true:=by
 simp only [RY,Zn,decide_eq_true_iff] at h;exact ⟨⟨h.1,h.2.1⟩,h.2.2⟩
abbrev tR (f:Nat) (args:Us) (E:Es) (res:Us) (E':Es):Prop:=U5 prog f args (enB 0 E) res (enB 0 E')
theorem UK {E:Es} {b:Int} (h:EOk b E) {lx ly:Uq} {px py:Uk} {x y:LV} {d id:Int} (hx:IsInts lx px) (hy:IsInts ly py) (hd:Gs x y d) (hk:Cs 4294967294 1073741824 (Crv.mk px py d)) :
 ∃ E',EOk b E'/\E'.m=(E.m.ins ⟨Crv.norm (Crv.mk px py d),id⟩).1/\tR 58 [.one (.ow 0 0),.oi id,.agg [.row lx,.row ly,x,y]] E [.one (.int .i64 (E.m.ins ⟨Crv.norm (Crv.mk px py d),id⟩).2)] E':=by
 have hM:=h.m.m;have hl6:=hM.ln;have ct:=Qs5 (np:=E.np) (nd:=E.nd) (l:=E.M) (id:=id) hx hy hd hk (by omega);obtain ⟨p,hp⟩:=nmE (Pt.mk (Crv.norm (Crv.mk px py d)) id);have hpn:JH p.c:=by rw [hp]; exact Crv.nml _
 by_cases e:Ms E.np E.nd E.M p=0
 ·have e0:RY p=true/\has E.M p.id=false/\¬E.nd<wV p.c/\¬E.np<=(E.M.length:Int):=by
   unfold Ms at e;by_cases a1:RY p=false
   ·rw [if_pos a1] at e; cases e
   rw [if_neg a1] at e;by_cases a2:has E.M p.id=true
   ·rw [if_pos a2] at e; cases e
   rw [if_neg a2] at e;by_cases a3:E.nd<wV p.c
   ·rw [if_pos a3] at e; cases e
   rw [if_neg a3] at e;by_cases a4:E.np<=(E.M.length:Int)
   ·rw [if_pos a4] at e; cases e
   exact ⟨by simpa using a1,by simpa using a2,a3,a4⟩
  obtain ⟨f1,f2,f3,f4⟩:=e0;obtain ⟨g1,g2⟩:=Quf f1;have hsc:=Qxv (np:=E.np) hpn h.nd.2 g2 f3;have hpl:(put E.M p).length<=6:=by rw [aO]; have:=h.np.2; omega
  have hM':MOk (put E.M p):=⟨λz hz=>by rcases MS hz with rfl | hz; exact hsc; exact hM.sc z hz,hpl,LG hM.so f2⟩;have hME:MEn E.np E.nd (put E.M p):=⟨hM',by rw [aO]; have:=h.np.2; omega,λz hz=>by rcases MS hz with rfl | hz; omega; exact h.m.deg z hz,λz hz=>by rcases MS hz with rfl | hz; exact g1; exact h.m.id z hz⟩;have hpe:KL E.M p=0:=by unfold KL; rw [if_neg (by rw [f2]; decide),if_neg (by have:=h.np.2; omega)]
  rw [hp] at e hpe hM' hME hpl;rw [e,if_pos rfl] at ct;obtain ⟨w1,l1,a1⟩:=h.s.again okS hM';obtain ⟨w2,l2,a2⟩:=h.t.again okT hM';obtain ⟨w3,l3,a3⟩:=h.h.again okH hM';obtain ⟨w4,l4,a4⟩:=h.p.again okP hM';obtain ⟨w5,l5,a5⟩:=h.d.again okD hM';have c1:=Qsn (c:=E.s) (l:=E.M) (r1:=brS E.M (tq E.q)) hx hy hd hk (by omega) hpe h.s.st.inv.ok hM'.sc (by omega) l1;have c2:=Qmh (c:=E.t) (l:=E.M) (r1:=brT E.M (tq E.q)) hx hy hd hk (by omega) hpe h.t.st.inv.ok hM'.sc (by omega) l2;have c3:=Qlv (c:=E.h) (l:=E.M) (r1:=brH E.M (tq E.q)) hx hy hd hk (by omega) hpe h.h.st.inv.ok hM'.sc (by omega) l3;have c4:=Ql3 (c:=E.p) (l:=E.M) (r1:=brP E.M (tq E.q)) hx hy hd hk (by omega) hpe h.p.st.inv.ok hM'.sc (by omega) l4;have c5:=Qlq (c:=E.d) (l:=E.M) (r1:=brD E.M (tq E.q)) hx hy hd hk (by omega) hpe h.d.st.inv.ok hM'.sc (by omega) l5;rw [h.s.now] at c1;rw [h.t.now] at c2;rw [h.h.now] at c3;rw [h.p.now] at c4;rw [h.d.now] at c5;obtain ⟨b1,r,rfl,rfl,_⟩:=hd;refine ⟨⟨E.np,E.nd,put E.M ⟨Crv.norm (Crv.mk px py d),id⟩,E.q,⟨tq E.q,w1,E.s.ev⟩,⟨tq E.q,w2,E.t.ev⟩,⟨tq E.q,w3,E.h.ev⟩,⟨tq E.q,w4,E.p.ev⟩,⟨tq E.q,w5,E.d.ev⟩⟩,⟨h.np,h.nd,hME,h.q,a1,a2,a3,a4,a5,h.es,h.et,h.eh,h.ep,h.ed⟩,?_,?_⟩
  ·unfold Em.ins;show _=if Ms E.np E.nd E.M _=0 then _ else _
   rw [if_pos e]; rfl
  ·have e2:(E.m.ins ⟨Crv.norm (Crv.mk px py d),id⟩).2=0:=e;rw [e2];exact Qdv ct c1 c2 c3 c4 c5
 ·rw [hp] at e;rw [if_neg e] at ct;obtain ⟨b1,r,rfl,rfl,_⟩:=hd;refine ⟨E,h,?_,Qab e ct⟩;unfold Em.ins;show _=if Ms E.np E.nd E.M _=0 then _ else _
  rw [if_neg e]
theorem IV {E:Es} {b:Int} (h:EOk b E) (hb:b<=900000000000000000) {x0 x1 x2 x3:LV} {n m:Int} {t:Rat} (ha:Gs x0 x1 n) (hc:Gs x2 x3 m) (sa:Fe n<=4294967295) (sb:Fe m<=4294967295) (ht:Gu n m=t) :
 ∃ E',EOk (b+67000000) E'/\E'.m=(E.m.adv t).1/\((E.m.adv t).2≠0->E'=E)/\tR 17 [.one (.ow 0 0),.agg [x0,x1,x2,x3]] E [.one (.int .i64 (E.m.adv t).2)] E':=by
 have hM:=h.m.m;have hl6:=hM.ln;by_cases hs:Qs 128 t
 ·by_cases hp:t<E.q
  ·have e2:E.m.adv t=(E.m,8):=by unfold Em.adv; rw [if_pos hs]; exact if_pos hp
   rw [e2];exact ⟨E,h.mono (by omega),rfl,λ_=>rfl,EN ha hc sa sb ht hs h.q hp⟩
  ·have hqt:E.q<=t:=V5.1 hp;have e2:E.m.adv t=(({ E.m with q:=t,s:=E.s.ev+(cnt (ZH E.M) E.q t:Nat),t:=E.t.ev+(cnt (PS E.M) E.q t:Nat),h:=E.h.ev+(cnt (TP E.M) E.q t:Nat),p:=E.p.ev+(cnt (zF E.M) E.q t:Nat),d:=E.d.ev+(cnt (EF E.M) E.q t:Nat) }:Em),0):=by unfold Em.adv; rw [if_pos hs]; exact if_neg hp
   rw [e2];have hq:Qs 1640000 t:=hs.mono (by decide);obtain ⟨K1,d1,k1,g1,a1,v1,u1,_⟩:=h.s.adv okS hM hq hqt;obtain ⟨K2,d2,k2,g2,a2,v2,u2,_⟩:=h.t.adv okT hM hq hqt;obtain ⟨K3,d3,k3,g3,a3,v3,u3,_⟩:=h.h.adv okH hM hq hqt;obtain ⟨K4,d4,k4,g4,a4,v4,u4,_⟩:=h.p.adv okP hM hq hqt;obtain ⟨K5,d5,k5,g5,a5,v5,u5,_⟩:=h.d.adv okD hM hq hqt;have hcm:∀ {c:Cr},c.now=tq E.q->Fj c.now t<=0:=λ{c} hn=>by
    rw [hn,EY]; exact MQ.2 hqt
   have c1:=Qsl hq hM.sc (by omega) h.s.st.inv.ok (by have:=h.es; omega) (hcm h.s.now) g1;have c2:=Qmg hq hM.sc (by omega) h.t.st.inv.ok (by have:=h.et; omega) (hcm h.t.now) g2;have c3:=Qsa hq hM.sc (by omega) h.h.st.inv.ok (by have:=h.eh; omega) (hcm h.h.now) g3;have c4:=Ql2 hq hM.sc (by omega) h.p.st.inv.ok (by have:=h.ep; omega) (hcm h.p.now) g4;have c5:=Qr8 hq hM.sc (by omega) h.d.st.inv.ok (by have:=h.ed; omega) (hcm h.d.now) g5;refine ⟨⟨E.np,E.nd,E.M,t,d1,d2,d3,d4,d5⟩,⟨h.np,h.nd,h.m,hs,a1,a2,a3,a4,a5,?_,?_,?_,?_,?_⟩,?_,λh=>absurd rfl h,oC ha hc sa sb ht hs h.q hqt c1 c2 c3 c4 c5⟩
   ·have:=h.es; show 0<=d1.ev/\d1.ev<=_; omega
   ·have:=h.et; show 0<=d2.ev/\d2.ev<=_; omega
   ·have:=h.eh; show 0<=d3.ev/\d3.ev<=_; omega
   ·have:=h.ep; show 0<=d4.ev/\d4.ev<=_; omega
   ·have:=h.ed; show 0<=d5.ev/\d5.ev<=_; omega
   ·unfold Es.m;simp only [v1,v2,v3,v4,v5]
 ·have e2:E.m.adv t=(E.m,1):=by unfold Em.adv; exact if_neg hs
  rw [e2];exact ⟨E,h.mono (by omega),rfl,λ_=>rfl,zH ha hc sa sb ht hs⟩
noncomputable def Em.ans (A:Em) (t:Rat):Up:=if (A.adv t).2=0 then EP A.M t else Qru
theorem lV {E:Es} {b:Int} (h:EOk b E) (hb:b<=900000000000000000) {x0 x1 x2 x3:LV} {n m:Int} {t:Rat} (ha:Gs x0 x1 n) (hc:Gs x2 x3 m) (sa:Fe n<=4294967295) (sb:Fe m<=4294967295) (ht:Gu n m=t) :
 tR 20 [.one (.ow 0 0),.agg [x0,x1,x2,x3]] E [.agg (E.m.ans t),.one (.int .i64 (E.m.adv t).2)] E:=by
 obtain ⟨E',h1,h2,h3,h4⟩:=IV h hb ha hc sa sb ht;obtain ⟨b1,r1,rfl,rfl,_⟩:=ha;obtain ⟨b2,r2,rfl,rfl,_⟩:=hc;unfold Em.ans;by_cases e:(E.m.adv t).2=0
 ·rw [if_pos e];rw [e] at h4 ⊢;have hs:Qs 128 t/\¬t<E.q:=by
   unfold Em.adv at e;by_cases a:Qs 128 t
   ·rw [if_pos a] at e;by_cases a':t<E.m.q
    ·rw [if_pos a'] at e; cases e
    ·exact ⟨a,a'⟩
   ·rw [if_neg a] at e; cases e
  have e2:E.m.adv t=(({ E.m with q:=t,s:=E.s.ev+(cnt (ZH E.M) E.q t:Nat),t:=E.t.ev+(cnt (PS E.M) E.q t:Nat),h:=E.h.ev+(cnt (TP E.M) E.q t:Nat),p:=E.p.ev+(cnt (zF E.M) E.q t:Nat),d:=E.d.ev+(cnt (EF E.M) E.q t:Nat) }:Em),0):=by unfold Em.adv; rw [if_pos hs.1]; exact if_neg hs.2
  rw [e2] at h2;obtain ⟨np,nd,M,q,s,u,v,p,d⟩:=E';unfold Es.m at h2;injection h2 with i1 i2 i3 i4;dsimp only at i1 i2 i3 i4;subst i1 i2 i3 i4;exact Qae h.q h.m.m.ln h4
 ·rw [if_neg e];rw [h3 e] at h4;exact Qd8 e h.q h4
end Orr
namespace Orr
open Go Go.Proofs Tryz Orq
set_option maxRecDepth 10000
theorem vP {β:Type} {k:Knd β} {M:List Pt} {q:Rat} {c:Cr} (h:At k M q c):Ih c.l=Fq (Fq (k.bc M (tq q))):=by
 unfold Ih; rw [h.st.cs,h.now]
def AD (M:List Pt) (q:Rat):List Ct:=Fq (Fq (ZH M (tq q)))++Fq (Fq (PS M (tq q)))++Fq (Fq (TP M (tq q)))++Fq (Fq (zF M (tq q)))++Fq (Fq (EF M (tq q)))
theorem wR {E:Es} {b:Int} (h:EOk b E):tR 24 [.one (.ow 0 0)] E [.one (.row (U6 (AD E.M E.q)))] E:=by
 have hc:=Qln (np:=E.np) (nd:=E.nd) (M:=E.M) (q:=E.q) h.s.st.inv.ok h.t.st.inv.ok h.h.st.inv.ok h.p.st.inv.ok h.d.st.inv.ok;have e:Ih E.s.l++Ih E.t.l++Ih E.h.l++Ih E.p.l++Ih E.d.l=AD E.M E.q:=by
  rw [vP h.s,vP h.t,vP h.h,vP h.p,vP h.d]; rfl
 rw [e] at hc;exact hc
theorem Qfg {E:Es} {b:Int} (h:EOk b E):(∀ c∈AD E.M E.q,Cp c.p)/\(AD E.M E.q).length≤1000000:=by
 have hv:Va (tq E.q):=TK (h.q.mono (by decide));have S1:=okS.st _ h.m.m;have S2:=okT.st _ h.m.m;have S3:=okH.st _ h.m.m;have S4:=okP.st _ h.m.m;have S5:=okD.st _ h.m.m;constructor
 ·intro c hc;unfold AD at hc;simp only [Qq] at hc;rcases hc with (((hc | hc) | hc) | hc) | hc
  ·exact S1.ok.p _ hv c (Rw (Rw hc))
  ·exact S2.ok.p _ hv c (Rw (Rw hc))
  ·exact S3.ok.p _ hv c (Rw (Rw hc))
  ·exact S4.ok.p _ hv c (Rw (Rw hc))
  ·exact S5.ok.p _ hv c (Rw (Rw hc))
 ·unfold AD;simp only [Qy,Ml];have:=S1.ok.n _ hv; have:=S2.ok.n _ hv; have:=S3.ok.n _ hv; have:=S4.ok.n _ hv; have:=S5.ok.n _ hv;have e1:(kS.bc E.M (tq E.q)).length=(ZH E.M (tq E.q)).length:=rfl;have e2:(kT.bc E.M (tq E.q)).length=(PS E.M (tq E.q)).length:=rfl;have e3:(kH.bc E.M (tq E.q)).length=(TP E.M (tq E.q)).length:=rfl;have e4:(kP.bc E.M (tq E.q)).length=(zF E.M (tq E.q)).length:=rfl;have e5:(kD.bc E.M (tq E.q)).length=(EF E.M (tq E.q)).length:=rfl;omega
abbrev Qtn (E F:Es):Ur:=en2 E.np E.nd E.M E.q E.s E.t E.h E.p E.d F.np F.nd F.M F.q F.s F.t F.h F.p F.d
theorem Quu {E:Es} {b:Int} (h:EOk b E):∀ x∈E.M,oV 4294967294 1073741824 x:=λx hx=>by
 have:=h.m.m.sc x hx;exact ⟨this.n,this.c.mono (by decide) (by decide)⟩
theorem Qtk {E F:Es} {b:Int} (h:EOk b E) (hM:F.M=E.M) (hq:F.q=E.q):U5 prog 21 [.one (.ow 0 0),.one (.ow 7 0)] (Qtn E F) [.one (.bool true)] (Qtn E F):=by
 obtain ⟨np,nd,M,q,s,t,v,p,d⟩:=F;dsimp only at hM hq;subst hM hq;exact Qlr h.m.m.ln (Quu h) h.q
theorem Qnd {E:Es} {b:Int} (h:EOk b E):U5 prog 13 [.one (.ow 0 0)] (enB 0 E) [.one (.ow 7 0)] (Qtn E E):=zS h.q
abbrev Qza (A:Em):Up:=[.int .i64 A.s,.int .i64 A.t,.int .i64 A.h,.int .i64 A.p,.int .i64 A.d]
theorem wT {E:Es}:tR 22 [.one (.ow 0 0)] E [.agg (Qza E.m)] E:=Qdl
theorem Qtl {E:Es} {b:Int} (h:EOk b E):tR 26 [.one (.ow 0 0)] E [.agg (EP E.M E.q)] E:=zB h.m.m.ln
def vI (z:RawInt):Int:=Fb z.b (val z.l)
def RawInt.cutN (z:RawInt) (n:Nat):RawInt:=⟨z.b,z.l.take n⟩
theorem RawInt.Ok.cutN_ok {z:RawInt} (h:z.Ok) (n:Nat):(z.cutN n).Ok:=⟨λu hu=>h.u u (Qo hu)⟩
theorem OW {z:RawInt} (h:z.Ok):Gs (.bool z.b) (.row (lm z.l)) (vI z):=⟨z.b,z.l,rfl,rfl,h.u,rfl⟩
theorem lO {z:RawInt} (h:z.Ok) {n:Nat} (hl:z.l.length<=n):Fe (vI z)<=32*n:=by
 have h1:=Bh z.l h.u;have e:(vI z).natAbs=val z.l:=by unfold vI Fb; split <;> simp
 refine Sj.2 ?_;rw [e,Ks];exact Z6 h1 (Zs (by decide) hl)
theorem kO (z:RawInt) (n:Nat):(z.cutN n).l.length<=n:=by show (z.l.take n).length<=n; rw [Qt]; omega
theorem PC {z:RawInt} {n:Nat} (hn:n<=1000):Uh 203 [.agg (Ip z),.oi n] [.agg (Ip (z.cutN n))] :=
 Ue func203 rfl [.k (Qsv (l:=z.l) hn)] rfl
theorem Qmp {t u:RawInt}:Uh 131 [.agg (Ip t++Ip u),.oi 6] [.agg (Ip (t.cutN 6)++Ip (u.cutN 6))] :=
 Ue func131 rfl [.k (PC (z:=t) (n:=6) (by decide)),.k (PC (z:=u) (n:=6) (by decide))] rfl
theorem kY {l:List RawInt}:Uh 202 [.one (.row (Ic l)),.oi 4,.oi 1] [.one (.row (Ic ((l.take 4).map (·.cutN 1))))]:=by
 have hll:=Ou l;refine Fw func202 rfl (ln 0 rfl rfl λhzl=>?_);rw [hll] at hzl;refine Ub [.o 7 36 2] rfl ?_;refine Ug (S:=Nat) 1 (λL1 i=>(8,.v (.oi i))::(7,.v (.one (.orow 0 2 none)))::L1) (λi=>[.row false 36 2 (Ic ((l.take i).map (·.cutN 1)))]) (λi=>4-i) (λi=>i<=4/\i<=l.length) 0 ⟨by decide,Qh _⟩ rfl rfl λi ⟨hi,hi2⟩=>?_
 have hil:(Ic ((l.take i).map (·.cutN 1))).length=i:=by rw [Ou,Q6,Qt]; omega
 by_cases h1:i<l.length
 ·by_cases h2:i<4
  ·obtain ⟨z,hz⟩:=gxE (l:=l) (i:=i) h1;have hm:∀ y∈[Ip (z.cutN 1)],y.length=2:=λy hy=>by rw [Qk.1 hy]; rfl
   refine go tt [.g 13 true Uj,.T,.x (Gt (f:=Ip) hz),.k (PC (n:=1) (by decide)),.s (sz:=2) hm] rfl (by simp [Uz,hil,-List.map_take]; omega) ?_;exact rd (i+1) (by omega) ⟨h2,h1⟩ (by rw [Zv,hz]; simp [Ic]; rfl)
  ·have e:i=4:=by omega
   have e2:l.take 4=l.take i:=by rw [e]
   rw [e2];exact Ud [.g 13 true Uj,.F] rfl
 ·have e:l.take i=l.take 4:=by rw [Qn (by omega),Qn (by omega)]
  rw [e];exact Ud [.g 13 false Ui,.f rfl] rfl
theorem Qr7 {z:RawPt}:Uh 129 [.agg (rcw z),.oi 4,.oi 1] [.agg [.row (Ic ((z.x.take 4).map (·.cutN 1))),.row (Ic ((z.y.take 4).map (·.cutN 1))),.bool z.d.b,.row (lm (z.d.l.take 1))]] :=
 Ue func129 rfl [.k (kY (l:=z.x)),.k (kY (l:=z.y)),.k (PC (z:=z.d) (n:=1) (by decide))] rfl
theorem KU:∀ {l:List RawInt},(∀ z∈l,z.Ok)->IsInts (Ic l) (l.map vI)
 | [],_=>trivial
 | z::l,h=>⟨⟨_,_,rfl,OW (h z (Qx ..))⟩,KU λy hy=>h y (Qg _ hy)⟩
theorem AH {x y:LV} {z:Int} (h:Gs x y z) (hl:∀ l,y=.row (lm l)->l.length<=1000):Uh 74 [.agg [x,y]] [.agg (ri z)]:=by
 obtain ⟨b,l,rfl,rfl,hs,rfl⟩:=h;have hl:=hl l rfl;have hv:=Bh l hs;have hsz:sz (val l)<=100000000:=by
  refine Qc ((Ni (k:=32*l.length)).2 ?_) (by omega);rw [Ks]; exact hv
 exact Ue func74 rfl [.k (Qls hs (by omega) hsz),.k (Ax b (val l))] rfl
theorem Qlt {x y x' y':LV} {a b:Int} (h:Gs x y a) (h':Gs x' y' b) (hl:∀ l,y=.row (lm l)->l.length<=1000) (hl':∀ l,y'=.row (lm l)->l.length<=1000) (sa:Fe a<=90000000) (sb:Fe b<=90000000):Uh 19 [.agg [x,y,x',y']] [.agg (fr (Gu a b))]:=by
 have c1:=AH h hl;have c2:=AH h' hl';have c3:=WL sa sb;obtain ⟨b1,l1,rfl,rfl,_⟩:=h;obtain ⟨b2,l2,rfl,rfl,_⟩:=h';exact Ue func19 rfl [.k c1,.k c2,.k c3] rfl
theorem Quc {a b:Um} (h:LV.row (lm a)=.row (lm b)):a.length=b.length:=by
 injection h with h;have:=congrArg List.length h;simpa [lm] using this
theorem Qdq {q:Rat} (hq:Qs 30000 q):Uh 19 [.agg (rl q)] [.agg (fr q)]:=by
 have e:Gu q.num (q.den:Int)=q:=by
  unfold Gu;rw [if_neg (by have:=q.den_pos; omega)];exact Z2 q
 have ln:∀ {z:Int},Fe z<=30000->∀ l,mg z=.row (lm l)->l.length<=1000:=λ{z} hz l h=>by
  have h1:=Ri (x:=z.natAbs) (k:=30000) hz;have:=Quc h;omega
 have h:=Qlt (U3 q.num) (U3 (q.den:Int)) (ln hq.1) (ln hq.2) (Qc hq.1 (by decide)) (Qc hq.2 (by decide));rw [e] at h;exact h
end Orr
namespace Orr
open Go
structure RawOp where
 k:Int
 n:Int
 d:Int
 p:RawPt
 t:RawInt
 u:RawInt
structure RawOp.Ok (o:RawOp):Prop where
 k:-9223372036854775808<=o.k/\o.k<=9223372036854775807
 n:-9223372036854775808<=o.n/\o.n<=9223372036854775807
 d:-9223372036854775808<=o.d/\o.d<=9223372036854775807
 p:o.p.Ok
 t:o.t.Ok
 u:o.u.Ok
abbrev rwo (o:RawOp):Up:=[.int .i64 o.k,.int .i64 o.n,.int .i64 o.d]++rwq o.p++Ip o.t++Ip o.u
end Orr
namespace Orr
open Go Go.Proofs Tryz Orq
set_option maxRecDepth 10000
def I9 (N:Int):Int:=if N=2 then 999 else if N=3 then 99 else 20
theorem fQ (N:Int):0<=I9 N/\I9 N<=999:=by unfold I9; split; decide; split; decide; decide
def HY (N:Int) (z:RawPt):Crv:=if 1<N then ⟨Gi (I9 N) z.x++(if 3<z.x.length then [1] else []),Gi (I9 N) z.y,Hy 3 z.d⟩ else ⟨((z.x.take 4).map (·.cutN 1)).map vI,((z.y.take 4).map (·.cutN 1)).map vI,vI (z.d.cutN 1)⟩
theorem Qit {l:List RawInt} (h:∀ a∈l,a.Ok):∀ z∈(l.take 4).map (·.cutN 1),z.Ok:=λz hz=>by
 obtain ⟨y,hy,rfl⟩:=Q8.1 hz;exact (h y (Qo hy)).cutN_ok 1
theorem Qis {l:List RawInt} (h:∀ a∈l,a.Ok):Bd 40 (((l.take 4).map (·.cutN 1)).map vI):=λz hz=>by
 obtain ⟨y,hy,rfl⟩:=Q8.1 hz;obtain ⟨x,hx,rfl⟩:=Q8.1 hy;exact Qc (lO ((h x (Qo hx)).cutN_ok 1) (kO x 1)) (by decide)
theorem Qm2 {N:Int} {z:RawPt} (hz:z.Ok):Cs 40 4 (HY N z):=by
 unfold HY
 split
 ·have h:=Qaw (fQ N) z.x z.y z.d;refine ⟨λy hy=>?_,U0 h.y (by decide),Qc h.d (by decide),?_,Qc h.ly (by decide)⟩
  ·rcases Qq.1 hy with hy | hy
   ·exact Qc (h.x y hy) (by decide)
   ·split at hy
    ·rw [Qk.1 hy]; decide
    ·cases hy
  ·have:=h.lx;have h2:(Gi (I9 N) z.x).length<=3:=this;show (_++_:Uk).length<=4;rw [Qy]
   split <;> simp <;> omega
 ·exact ⟨Qis hz.x,Qis hz.y,Qc (lO (hz.d.cutN_ok 1) (kO z.d 1)) (by decide),by show (List.map _ _).length<=4; rw [Q6,Q6,Qt]; omega,by show (List.map _ _).length<=4; rw [Q6,Q6,Qt]; omega⟩
def idO (o:RawOp):Int:=if My o.k 12<10 then My o.p.id 6 else o.p.id
abbrev Qwz (o:RawOp) (lx ly:Uq) (bb:Bool) (l3:Uq):Up:=[.int .i64 o.k,.int .i64 o.n,.int .i64 o.d,.row lx,.row ly,.bool bb,.row l3,.int .i64 (idO o)]++Ip (o.t.cutN 6)++Ip (o.u.cutN 6)
abbrev Qh7 (ms:Up) (N:Int):Up:=[.ow 0 0,.sh ms,.int .i64 N]
theorem jY {most:Int} {l:List RawInt} (h:3<l.length):(Gi most l).length=3:=by unfold Gi; rw [List.length_map,List.length_take]; omega
abbrev Qrb:Up:=[.bool false,.row [[.int .u32 1]]]
theorem mZ {p:Uk}:IsInts (p.map Hh++[Qrb]) (p++[1]):=(Gl p).append ⟨⟨_,_,rfl,false,[1],rfl,rfl,(λx hx=>by rw [Qk.1 hx]; decide),rfl⟩,trivial⟩
theorem Qac {z:RawPt} (hz:z.Ok) {most:Int} (hm:0<=most/\most<=999):U5 prog 130 [.agg (rcw z),.oi most] [] [.agg [.orow 0 2 none,.row (Af (Gi most z.y)),sg (Hy 3 z.d),mg (Hy 3 z.d)]] [.row false 36 2 (Af (Gi most z.x))]:=by
 have hxl:=Ou z.x;have hyl:=Ou z.y;obtain ⟨D,hD⟩:=nmE (Hy 3 z.d);have cd:=WE hz.d (most:=3) (by decide);have hx0:∀ {i:Nat},z.x.length<=i\/3<=i->Gi most (z.x.take i)=Gi most z.x:=SJ most;have hy0:∀ {i:Nat},z.y.length<=i\/3<=i->Gi most (z.y.take i)=Gi most z.y:=SJ most;rw [<-hD] at cd ⊢;refine Fw func130 rfl ?_;refine Ub [.k cd] rfl ?_;refine oz2 5 0 36 2 rfl rfl ?_;refine Ug (S:=Nat) 4 (λL1 i=>(6,.v (.oi i))::L1) (λi=>[.blk 38 (rcw z),.blk 38 [.nils,.nils,.bool false,.nils],.blk 38 [.orow 3 2 none,.nils,sg D,mg D],.row false 36 2 (Af (Gi most (z.x.take i)))]) (λi=>3-i) (λi=>i<=3/\i<=z.x.length) 0 ⟨by decide,Qh _⟩ rfl rfl λi ⟨hi,hi2⟩=>?_
 have hll:=jJ (most:=most) hi hi2;by_cases hr:i<z.x.length/\i<3
 ·obtain ⟨a,ha⟩:=gxE (l:=z.x) (i:=i) hr.1;have hs:∀ y∈[Hh (Hy most a)],y.length=2:=λy hy=>by rw [Qk.1 hy]; rfl
  refine go tt [.g 17 true Uj,.T,.x (Gt (f:=Ip) ha),.k (WE (hz.x a (Qa ha)) hm),.s (sz:=2) hs] rfl (by simp [Uz,hll]; omega) ?_;exact rd (i+1) (by omega) ⟨hr.2,hr.1⟩ (by rw [RJ hr.2 ha]; rfl)
 have hg1:decide ((i:Int)<((Ic z.x).length:Int))=true->i<z.x.length:=λh=>by have:=of_decide_eq_true h; omega
 rw [hx0 (by omega)];clear hll;have hfin:∀ {j:Nat},j<=3/\j<=z.y.length->¬(j<z.y.length/\j<3)->Af (Gi most (z.y.take j))=Af (Gi most z.y):=λh1 h2=>by rw [hy0 (by omega)]
 by_cases hxx:i<z.x.length
 ·refine Ub [.g 17 true Uj,.F] rfl ?_;refine oz2 5 1 36 2 rfl rfl ?_;refine Ug (S:=Nat) 5 (λL1 j=>(7,.v (.oi j))::L1) (λj=>[.blk 38 (rcw z),.blk 38 [.nils,.nils,.bool false,.nils],.blk 38 [.orow 3 2 none,.orow 4 2 none,sg D,mg D],.row false 36 2 (Af (Gi most z.x)),.row false 36 2 (Af (Gi most (z.y.take j)))]) (λj=>3-j) (λj=>j<=3/\j<=z.y.length) 0 ⟨by decide,Qh _⟩ rfl rfl λj ⟨hj,hj2⟩=>?_
  have hll:=jJ (most:=most) hj hj2;by_cases hr:j<z.y.length/\j<3
  ·obtain ⟨a,ha⟩:=gxE (l:=z.y) (i:=j) hr.1;have hs:∀ y∈[Hh (Hy most a)],y.length=2:=λy hy=>by rw [Qk.1 hy]; rfl
   refine go tt [.g 40 true Uj,.T,.x (Gt (f:=Ip) ha),.k (WE (hz.y a (Qa ha)) hm),.s (sz:=2) hs] rfl (by simp [Uz,hll]; omega) ?_;exact rd (j+1) (by omega) ⟨hr.2,hr.1⟩ (by rw [RJ hr.2 ha]; rfl)
  rw [hfin ⟨hj,hj2⟩ hr];by_cases hyy:j<z.y.length
  ·exact Uf [4] [3] [.g 40 true Uj,.F] rfl
  ·exact Uf [4] [3] [.g 40 false Ui,.f rfl] rfl
 ·refine Ub [.g 17 false Ui,.f rfl] rfl ?_;refine oz2 5 1 36 2 rfl rfl ?_;refine Ug (S:=Nat) 5 (λL1 j=>(7,.v (.oi j))::L1) (λj=>[.blk 38 (rcw z),.blk 38 [.nils,.nils,.bool false,.nils],.blk 38 [.orow 3 2 none,.orow 4 2 none,sg D,mg D],.row false 36 2 (Af (Gi most z.x)),.row false 36 2 (Af (Gi most (z.y.take j)))]) (λj=>3-j) (λj=>j<=3/\j<=z.y.length) 0 ⟨by decide,Qh _⟩ rfl rfl λj ⟨hj,hj2⟩=>?_
  have hll:=jJ (most:=most) hj hj2;by_cases hr:j<z.y.length/\j<3
  ·obtain ⟨a,ha⟩:=gxE (l:=z.y) (i:=j) hr.1;have hs:∀ y∈[Hh (Hy most a)],y.length=2:=λy hy=>by rw [Qk.1 hy]; rfl
   refine go tt [.g 40 true Uj,.T,.x (Gt (f:=Ip) ha),.k (WE (hz.y a (Qa ha)) hm),.s (sz:=2) hs] rfl (by simp [Uz,hll]; omega) ?_;exact rd (j+1) (by omega) ⟨hr.2,hr.1⟩ (by rw [RJ hr.2 ha]; rfl)
  rw [hfin ⟨hj,hj2⟩ hr];by_cases hyy:j<z.y.length
  ·exact Uf [4] [3] [.g 40 true Uj,.F] rfl
  ·exact Uf [4] [3] [.g 40 false Ui,.f rfl] rfl
set_option maxHeartbeats 4000000 in
theorem Qsk {E:Es} {N:Int} {o:RawOp} {ms:Up} (hN:1<=N/\N<=4) (ho:o.Ok):∃ lx ly bb l3,IsInts lx (HY N o.p).x/\IsInts ly (HY N o.p).y/\Gs (.bool bb) (.row l3) (HY N o.p).d /\
 U5 prog 56 [.agg (Qh7 ms N),.agg (rwo o)] (enB 0 E) [.agg (Qwz o lx ly bb l3)] (enB 0 E):=by
 have c4:=Qr7 (z:=o.p);have wk:=Dw (v:=o.k) (n:=12) ho.k (by decide);have wi:=Dw (v:=o.p.id) (n:=6) ho.p.id (by decide);have cr:=Qmp (t:=o.t) (u:=o.u);have cl:=Qac ho.p (most:=I9 N) (fQ N);obtain ⟨i,hi⟩:=nmE (idO o);have hln:(Ic o.p.x).length=o.p.x.length:=Ou _;unfold Qwz;rw [<-hi];by_cases h1:1<N
 ·have e1:HY N o.p=⟨Gi (I9 N) o.p.x++(if 3<o.p.x.length then [1] else []),Gi (I9 N) o.p.y,Hy 3 o.p.d⟩:=if_pos h1;rw [e1];dsimp only;obtain ⟨X,hX⟩:=nmE (Gi (I9 N) o.p.x);obtain ⟨Y,hY⟩:=nmE (Gi (I9 N) o.p.y);obtain ⟨D,hD⟩:=nmE (Hy 3 o.p.d);have hX3:=jY (most:=I9 N) (l:=o.p.x);rw [<-hX] at hX3;rw [<-hX,<-hY,<-hD] at cl ⊢;have e3:∃ k:Nat,(k:Int)=min N 4/\[[LV.int .i64 0],[.int .i64 0],[.int .i64 999],[.int .i64 99],[.int .i64 20]][k]? = some [.int .i64 (I9 N)]:=by
   rcases (show N=2\/N=3\/N=4 by omega) with rfl | rfl | rfl
   ·exact ⟨2,rfl,rfl⟩
   ·exact ⟨3,rfl,rfl⟩
   ·exact ⟨4,rfl,rfl⟩
  obtain ⟨k,k1,k2⟩:=e3;by_cases h3:3<o.p.x.length
  ·rw [if_pos h3];have hX3:=hX3 h3;have hml:(X.map Hh).length=3:=by rw [Q6]; exact hX3
   refine ⟨_,_,_,_,mZ,Gl Y,U3 D,?_⟩;refine Fw func56 rfl ?_;refine go tt [.k c4,.t (by simpa using h1),.r 19 (eI k1.symm),.x k2,.c [11] cl,.t (by simp; omega)] rfl (by simp only [Uz,OH]; omega) ?_;refine Ug (S:=Unit) 12 (λL1 _=>L1) (λ_=>enB 0 E++[.blk 27 (Qh7 ms N),.blk 44 (rwo o),.blk 44 [.int .i64 0,.int .i64 0,.int .i64 0,.nils,.nils,.bool false,.nils,.int .i64 0,.bool false,.nils,.bool false,.nils],.blk 38 [.orow 11 2 none,pl Y,sg D,mg D],.row false 36 2 (X.map Hh++[Qrb])]) (λ_=>0) (λ_=>True) () trivial rfl rfl λ_ _=>?_
   by_cases hk:My o.k 12<10
   ·rw [hi,show idO o=My o.p.id 6 from if_pos hk];exact Uf [11] [0,1,2,3,4,5,6] [.f (by simp; omega),.k wk,.t (by simpa using hk),.k wi,.k cr] rfl
   ·rw [hi,show idO o=o.p.id from if_neg hk];exact Uf [11] [0,1,2,3,4,5,6] [.f (by simp; omega),.k wk,.f (by simpa using hk),.k cr] rfl
  ·rw [if_neg h3,Zw];refine ⟨_,_,_,_,Gl X,Gl Y,U3 D,?_⟩;refine Fw func56 rfl ?_;by_cases hk:My o.k 12<10
   ·rw [hi,show idO o=My o.p.id 6 from if_pos hk];exact Uf [11] [0,1,2,3,4,5,6] [.k c4,.t (by simpa using h1),.r 19 (eI k1.symm),.x k2,.c [11] cl,.f (by simp; omega),.k wk,.t (by simpa using hk),.k wi,.k cr] rfl
   ·rw [hi,show idO o=o.p.id from if_neg hk];exact Uf [11] [0,1,2,3,4,5,6] [.k c4,.t (by simpa using h1),.r 19 (eI k1.symm),.x k2,.c [11] cl,.f (by simp; omega),.k wk,.f (by simpa using hk),.k cr] rfl
 ·have e1:HY N o.p=⟨((o.p.x.take 4).map (·.cutN 1)).map vI,((o.p.y.take 4).map (·.cutN 1)).map vI,vI (o.p.d.cutN 1)⟩:=if_neg h1;rw [e1];refine ⟨_,_,_,_,KU (Qit ho.p.x),KU (Qit ho.p.y),OW (ho.p.d.cutN_ok 1),?_⟩;refine Fw func56 rfl ?_;by_cases hk:My o.k 12<10
  ·rw [hi,show idO o=My o.p.id 6 from if_pos hk];exact Uf [] [0,1,2,3,4,5,6] [.k c4,.f (by simpa using h1),.k wk,.t (by simpa using hk),.k wi,.k cr] rfl
  ·rw [hi,show idO o=o.p.id from if_neg hk];exact Uf [] [0,1,2,3,4,5,6] [.k c4,.f (by simpa using h1),.k wk,.f (by simpa using hk),.k cr] rfl
theorem GV {v n:Int} (h:0<n):0<=My v n/\My v n<n:=by
 unfold My;rw [if_neg (by omega)];exact ⟨Vi _ (by omega),Yu _ h⟩

theorem vM {b:Int} (h:0<=b):0<=(0:Int)/\(0:Int)<=b:=⟨Ya _,h⟩
def EA (np nd:Int):Es:=⟨np,nd,[],0,Qwf [] (tq 0),Qwg [] (tq 0),Qwd [] (tq 0),Qwe [] (tq 0),Qwc [] (tq 0)⟩
theorem YU:MOk []:=⟨λp h=>(by cases h),by decide,List.Pairwise.nil⟩
theorem Qhu {np nd:Int} (h1:1<=np/\np<=6) (h2:0<=nd/\nd<=2):EOk 0 (EA np nd):=by
 have hq:Qs 1640000 (0:Rat):=⟨by decide,by decide⟩;exact ⟨h1,h2,⟨YU,by show ((0:Nat):Int)<=np; omega,λp h=>(by cases h),λp h=>(by cases h)⟩,(show Qs 128 (0:Rat) from ⟨by decide,by decide⟩),At.begin okS YU hq,At.begin okT YU hq,At.begin okH YU hq,At.begin okP YU hq,At.begin okD YU hq,vM (Ya _),vM (Ya _),vM (Ya _),vM (Ya _),vM (Ya _)⟩
theorem Qd1 {np nd:Int} (h1:1<=np/\np<=6) (h2:0<=nd/\nd<=2):U5 prog 54 [.oi np,.oi nd] [] [.one (.ow 0 0),.oi 0] (enB 0 (EA np nd)):=Qr9 h1 h2
theorem Qq6 {E:Es} {A:Em} (h:E.m=A):E.np=A.np/\E.nd=A.nd/\E.M=A.M/\E.q=A.q/\E.s.ev=A.s/\E.t.ev=A.t/\E.h.ev=A.h/\E.p.ev=A.p/\E.d.ev=A.d:=by subst h; exact ⟨rfl,rfl,rfl,rfl,rfl,rfl,rfl,rfl,rfl⟩
theorem NJ {A:Em} {t:Rat} (h1:Qs 128 t) (h2:¬t<A.q):A.adv t=(({ A with q:=t,s:=A.s+(cnt (ZH A.M) A.q t:Nat),t:=A.t+(cnt (PS A.M) A.q t:Nat),h:=A.h+(cnt (TP A.M) A.q t:Nat),p:=A.p+(cnt (zF A.M) A.q t:Nat),d:=A.d+(cnt (EF A.M) A.q t:Nat) }:Em),0):=by
 unfold Em.adv; rw [if_pos h1]; exact if_neg h2
theorem gR {a b:Int} {s:Nat} (ha:Fe a<=s) (hb:Fe b<=s) (h1:1<=s):Qs s (Gu a b):=by
 unfold Gu
 split
 ·exact ⟨Ac ha,Ab (Qc (show Fe 1<=1 by decide) h1) h1⟩
 ·exact ⟨Ac ha,Ab hb h1⟩
theorem YV {z:Int} (h:-127<=z/\z<=127):Fe z<=7:=by
 have:(2:Nat)^7=128:=by decide
 exact Sj.2 (by omega)
theorem Qk8 {A:Em} {t:Rat} (h:(A.adv t).2≠0):(A.adv t).1=A/\A.ans t=Qru:=by
 refine ⟨?_,if_neg h⟩;unfold Em.adv at h ⊢;by_cases a:Qs 128 t
 ·rw [if_pos a] at h ⊢;by_cases b:t<A.q
  ·rw [if_pos b]
  ·rw [if_neg b] at h; exact absurd rfl h
 ·rw [if_neg a]
theorem Qc2 {A:Em} {t:Rat} (h:(A.adv t).2=0):(A.adv t).1.M=A.M/\(A.adv t).1.q=t/\A.ans t=EP A.M t:=by
 have e:A.ans t=EP A.M t:=if_pos h;unfold Em.adv at h ⊢;by_cases a:Qs 128 t
 ·rw [if_pos a] at h ⊢;by_cases b:t<A.q
  ·rw [if_pos b] at h; cases h
  ·rw [if_neg b]; exact ⟨rfl,rfl,e⟩
 ·rw [if_neg a] at h; cases h
theorem Qc4 {E:Es} {b:Int} (h:EOk b E):E.m.adv E.q=(E.m,0):=by
 rw [NJ (A:=E.m) h.q (by show ¬E.q<E.q; exact Rat.lt_irrefl)];have hq:Qs 1640000 E.q:=h.q.mono (by decide);have e1:cnt (ZH E.m.M) E.m.q E.q=0:=ZS okS h.m.m hq;have e2:cnt (PS E.m.M) E.m.q E.q=0:=ZS okT h.m.m hq;have e3:cnt (TP E.m.M) E.m.q E.q=0:=ZS okH h.m.m hq;have e4:cnt (zF E.m.M) E.m.q E.q=0:=ZS okP h.m.m hq;have e5:cnt (EF E.m.M) E.m.q E.q=0:=ZS okD h.m.m hq;rw [e1,e2,e3,e4,e5];simp [Es.m]
theorem Qs.n32 {s:Nat} {t:Rat} (h:Qs s t) (hs:s<=4294967295):Fe t.num<=4294967295/\Fe (t.den:Int)<=4294967295:=⟨Qc h.1 hs,Qc h.2 hs⟩
theorem pF {E:Es} {b:Int} {s:Nat} (h:EOk b E) (hb:b<=900000000000000000) {t:Rat} (ht:Qs s t) (hs:s<=4294967295):∃ E',EOk (b+67000000) E'/\E'.m=(E.m.adv t).1/\((E.m.adv t).2≠0->E'=E)/\tR 17 [.one (.ow 0 0),.agg (rl t)] E [.one (.int .i64 (E.m.adv t).2)] E' :=
 IV h hb (U3 t.num) (U3 (t.den:Int)) (ht.n32 hs).1 (ht.n32 hs).2 (Sv t)
theorem Qtj {E:Es} {b:Int} {s:Nat} (h:EOk b E) (hb:b<=900000000000000000) {t:Rat} (ht:Qs s t) (hs:s<=4294967295):tR 20 [.one (.ow 0 0),.agg (rl t)] E [.agg (E.m.ans t),.one (.int .i64 (E.m.adv t).2)] E :=
 lV h hb (U3 t.num) (U3 (t.den:Int)) (ht.n32 hs).1 (ht.n32 hs).2 (Sv t)
noncomputable def advE (A:Em) (t:Rat):Em:={ A with q:=t,s:=A.s+(cnt (ZH A.M) A.q t:Nat),t:=A.t+(cnt (PS A.M) A.q t:Nat),h:=A.h+(cnt (TP A.M) A.q t:Nat),p:=A.p+(cnt (zF A.M) A.q t:Nat),d:=A.d+(cnt (EF A.M) A.q t:Nat) }
theorem Qc1 {A:Em} {t:Rat} (h1:Qs 128 t) (h2:¬t<A.q):A.adv t=(advE A t,0):=NJ h1 h2
theorem oW {E:Es} {b:Int} (h:EOk b E):advE E.m E.q=E.m:=by
 have:=Qc4 h;rw [Qc1 h.q (by show ¬E.q<E.q; exact Rat.lt_irrefl)] at this;exact congrArg Prod.fst this
theorem Qc0 {A:Em} {t u:Rat} (hM:MOk A.M) (h0:Qs 128 A.q) (ht:Qs 128 t) (hu:Qs 128 u) (h1:A.q<=t) (h2:t<=u):advE (advE A t) u=advE A u:=by
 have h0:=h0.mono (show 128<=1640000 by decide);have ht:=ht.mono (show 128<=1640000 by decide);have hu:=hu.mono (show 128<=1640000 by decide);have e1:cnt (ZH A.M) A.q u=cnt (ZH A.M) A.q t+cnt (ZH A.M) t u:=JD okS hM h0 ht hu h1 h2;have e2:cnt (PS A.M) A.q u=cnt (PS A.M) A.q t+cnt (PS A.M) t u:=JD okT hM h0 ht hu h1 h2;have e3:cnt (TP A.M) A.q u=cnt (TP A.M) A.q t+cnt (TP A.M) t u:=JD okH hM h0 ht hu h1 h2;have e4:cnt (zF A.M) A.q u=cnt (zF A.M) A.q t+cnt (zF A.M) t u:=JD okP hM h0 ht hu h1 h2;have e5:cnt (EF A.M) A.q u=cnt (EF A.M) A.q t+cnt (EF A.M) t u:=JD okD hM h0 ht hu h1 h2;unfold advE;dsimp only;rw [e1,e2,e3,e4,e5];simp only [Int.natCast_add,Int.add_assoc]
theorem Qc3 {A B:Em} {t u:Rat} (hM:MOk A.M) (h0:Qs 128 A.q) (ht:Qs 128 t) (h1:A.q<=t) (hB:B=advE A t) (hu:Qs 128 u):((B.adv u).1=B/\u<t)\/((B.adv u)=(advE A u,0)/\t<=u):=by
 have hq:B.q=t:=by rw [hB]; rfl
 by_cases h:u<B.q
 ·left;rw [hq] at h;refine ⟨?_,h⟩;unfold Em.adv;rw [if_pos hu,if_pos (by rw [hq]; exact h)]
 ·right;have h2:t<=u:=by rw [hq] at h; exact V5.1 h
  refine ⟨?_,h2⟩;rw [Qc1 hu h,hB,Qc0 hM h0 ht hu h1 h2]
end Orr
namespace Orr
theorem bz1:Bd 9000000 [1]:=λz hz=>by obtain rfl:=Qk.1 hz; decide
theorem bz2:Bd 9000000 [0,1]:=λz hz=>by
 simp only [Qm,Xy,or_false] at hz;rcases hz with rfl | rfl <;> decide
theorem Qy9:∀ z∈([0,1]:Uk),Fe z≤1:=by
 intro z hz;simp only [Qm,Xy,or_false] at hz;rcases hz with rfl | rfl <;> decide
theorem rz:RRun [1] 1 [0,1] []:=by
 refine .step (by decide) (by decide) bz2 bz1 ?_;rw [show rV [0,1] [1]=[] by decide];exact .stop (by decide)
theorem dz2:DOk [0,1] [1] [0,1]:=by
 refine ⟨by decide,by decide,by decide,bz1,[0,1],[],1,bz2,by decide,?_,by decide⟩;refine .step (by decide) (by decide) bz2 (by decide) (by decide) (by decide) ?_;exact .stop (by decide)
theorem dz1:DOk [1] [1] [1]:=by
 refine ⟨by decide,by decide,by decide,bz1,[1],[],1,bz1,by decide,?_,by decide⟩;refine .step (by decide) (by decide) bz1 (by decide) (by decide) (by decide) ?_;exact .stop (by decide)
theorem Quy:Qcx 0 [[-(0:Rat).num,((0:Rat).den:Int)],[1]]:=by
 show Qcx 0 [[0,1],[1]];refine ⟨[0,1],?_⟩;show ChRun [0,1] [0,1] [[0,1],[1]];have e1:Tf [0,1]=[0,1]:=by decide
 have e2:Gv [0,1]=[1]:=by decide
 have e3:Tf [1]=[1]:=by decide
 have e4:Ny [1]=[1]:=by decide
 refine ⟨⟨1,λ_=>[0,1],⟨⟨1,[[0,1],[1]],?_,rfl,λk hk=>?_⟩,by decide⟩,λi hi=>?_,by decide⟩,⟨1,?_⟩,λz hz=>Qc (Qy9 z hz) (by decide),by decide,by decide⟩
 ·rw [e1];refine .step (by decide) (by decide) (by show trim _=_; decide) bz2 (by show Bd _ (Gv [0,1]); rw [e2]; exact bz1) (m:=1) (g:=[1]) ?_ (by decide) (.stop (by decide));show GRun 1 (Tf [0,1]) (Tf (Gv [0,1])) [1];rw [e1,e2,e3];refine .step (by decide) (by decide) bz1 rz (by decide) (λz hz=>by cases hz) rfl ?_;rw [show Tf []=[] by decide];exact .stop _
 ·obtain rfl:k=0:=by omega
  exact ⟨[0,1],[1],[0,1],dz2,dz1,by rw [e1,e3]; exact dz2,e1.symm⟩
 ·obtain rfl:i=0:=by omega
  exact ⟨bz1,by decide,bz2,by decide⟩
 ·rw [e2,e4];refine .step (by decide) (by decide) bz1 (m:=1) (r:=[]) rz rfl (λz hz=>by cases hz) (by decide) (by decide) (by decide) ?_;exact .stop (by decide)
end Orr
namespace Orr
open Go Go.Proofs Tryz Orq
set_option maxRecDepth 10000
theorem Qf7 {q:Rat} {c:Ul}:Uh 324 [.one (.row []),.agg (aq q c)] [.one (.row [])]:=by
 refine Fw func324 rfl ?_;refine Ub [.z 5] rfl ?_;refine Ug (S:=Unit) 1 (λL1 _=>(10,.v (.oi 0))::(5,.v (.one (.row [])))::L1) (λ_=>[.blk 90 (aq q c)]) (λ_=>0) (λ_=>True) () trivial rfl rfl λ_ _=>?_
 exact Ud [.f rfl] rfl
theorem pG:Uh 326 [.one (.row [])] [.one (.row [])]:=by
 refine Fw func326 rfl ?_;refine Ub [.z 3] rfl ?_;refine Ug (S:=Unit) 0 (λL1 _=>(8,.v (.oi 0))::(3,.v (.one (.row [])))::L1) (λ_=>[]) (λ_=>0) (λ_=>True) () trivial rfl rfl λ_ _=>?_
 exact Ud [.f rfl] rfl
theorem Qf5:Uh 328 [.one (.row [])] [.one (.row [])]:=by
 refine Fw func328 rfl ?_;refine Ub [.z 3] rfl ?_;refine Ug (S:=Unit) 0 (λL1 _=>(8,.v (.oi 0))::(3,.v (.one (.row [])))::L1) (λ_=>[]) (λ_=>0) (λ_=>True) () trivial rfl rfl λ_ _=>?_
 exact Ud [.f rfl] rfl
theorem Qf8:Uh 331 [.one (.row [])] [.one (.row [])]:=by
 refine Fw func331 rfl ?_;refine Ub [.z 3,.k Qf5] rfl ?_;refine Ug (S:=Unit) 0 (λL1 _=>(11,.v (.oi 0))::(3,.v (.one (.row [])))::L1) (λ_=>[]) (λ_=>0) (λ_=>True) () trivial rfl rfl λ_ _=>?_
 exact Ud [.f rfl] rfl
section
variable {q:Rat} {c:Ul}
theorem Qf6:Uh 294 [.one (.row []),.agg (aq q c)] [.one (.row [])]:=by
 refine Fw func294 rfl ?_;refine Ub [.k Qf7,.z 6] rfl ?_;refine Ug (S:=Unit) 1 (λL1 _=>(7,.v (.oi 0))::(6,.v (.one (.row [])))::L1) (λ_=>[.blk 90 (aq q c)]) (λ_=>0) (λ_=>True) () trivial rfl rfl λ_ _=>?_
 exact Ud [.f rfl,.k pG] rfl rfl (by simp [Uz])
theorem Qtm:Uh 295 [.one (.row []),.agg (aq q c)] [.one (.row [])]:=Ue func295 rfl [.t rfl,.z 4] rfl
theorem Qa5:Uh 329 [.one (.row []),.agg (aq q c)] [.one (.row [])]:=Ue func329 rfl [.k Qf8,.t rfl] rfl
theorem Qtg:Uh 296 [.one (.row []),.agg (aq q c)] [.one (.row [])]:=by
 refine Fw func296 rfl ?_;refine Ub [.k Qf6,.k Qa5] rfl ?_;refine Ug (S:=Unit) 1 (λL1 _=>(7,.v (.oi 0))::(5,.v (.one (.row [])))::L1) (λ_=>[.blk 90 (aq q c)]) (λ_=>0) (λ_=>True) () trivial rfl rfl λ_ _=>?_
 exact Ud [.f rfl,.f rfl,.k pG] rfl
abbrev zPq:Up:=[.row [],.row [],.row [],.row [],.bool false,.row [],.int .i64 0]
theorem Qa4:Uh 330 [.one (.row []),.agg (aq q c)] [.agg zPq,.agg zPq,.one (.bool false)]:=Ue func330 rfl [.k Qf5,.t rfl] rfl
theorem Qti:Uh 297 [.one (.row []),.agg (aq q c)] [.one (.row [])]:=Ue func297 rfl [.k Qa4,.t rfl,.z 4] rfl
theorem Qth:Uh 298 [.one (.row []),.agg (aq q c)] [.one (.row [])]:=by
 refine Fw func298 rfl ?_;refine Ub [.k Qf8,.z 6] rfl ?_;refine Ug (S:=Unit) 1 (λL1 _=>(15,.v (.oi 0))::(6,.v (.one (.row [])))::L1) (λ_=>[.blk 90 (aq q c)]) (λ_=>0) (λ_=>True) () trivial rfl rfl λ_ _=>?_
 exact Ud [.f rfl,.k pG] rfl
theorem UV (k:Nat) (hk:k<5):Uh 201 [.oi k,.one (.row []),.agg (aq q c)] [.one (.row [])]:=by
 refine (?_:Uh 263 [.oi k,.one (.row []),.agg (aq q c)] [.one (.row [])]->_) ?_
 ·intro h;exact Ue func201 rfl [.k h] rfl
 ·rcases (show k=0\/k=1\/k=2\/k=3\/k=4 by omega) with rfl | rfl | rfl | rfl | rfl
  ·exact Ue func263 rfl [.t rfl,.k Qf6] rfl
  ·exact Ue func263 rfl [.f rfl,.t rfl,.k Qtm] rfl
  ·exact Ue func263 rfl [.f rfl,.f rfl,.t rfl,.k Qtg] rfl
  ·exact Ue func263 rfl [.f rfl,.f rfl,.f rfl,.t rfl,.k Qti] rfl
  ·exact Ue func263 rfl [.f rfl,.f rfl,.f rfl,.f rfl,.k Qth] rfl
end
theorem BA:Uh 200 [.one (.row []),.one (.row [])] [.one (.row [])]:=by
 refine Fw func200 rfl ?_;refine Ub [] rfl ?_;refine Ug (S:=Unit) 0 (λL1 _=>(9,.v (.oi 0))::L1) (λ_=>[]) (λ_=>0) (λ_=>True) () trivial rfl rfl λ_ _=>?_
 exact Ud [.f rfl] rfl
end Orr
namespace Orr
open Go Go.Proofs Tryz Orq
set_option maxRecDepth 10000
abbrev cC:Ul:=[[-(0:Rat).num,((0:Rat).den:Int)],[1]]
abbrev Qw0:Up:=[.nils,.nils,.nils,.bool false,.nils,.bool false,.nils,.bool false,.nils,.bool false,.nils,.int .i64 0,.nils]
abbrev Qw1:Up:=aq 0 cC++[.row [],.int .i64 0,.nils]
abbrev Qja (k i:Nat):Up:=match Nat.blt k i with
 | true=>Qw1
 | false=>Qw0
abbrev mdl (np nd:Int) (i:Nat):Up:=[.int .i64 np,.int .i64 nd,.nils]++fr 0++Qja 0 i++Qja 1 i++Qja 2 i++Qja 3 i++Qja 4 i
set_option maxHeartbeats 4000000 in
theorem Qdx {np nd:Int}:U5 prog 128 [.one (.ow 0 0)] [.blk 207 (mdl np nd 0)] [] [.blk 207 (mdl np nd 5)]:=by
 have hq:Qs 2000000 (0:Rat):=⟨by decide,by decide⟩;have cr:=kW hq Quy;refine Fw func128 rfl ?_;refine Ub [.k cr] rfl ?_;refine Ug (S:=Nat) 2 (λL1 i=>(9,.v (.oi i))::L1) (λi=>[.blk 207 (mdl np nd i),.blk 90 (aq 0 cC)]) (λi=>5-i) (λi=>i<=5) 0 (by decide) rfl rfl λi hi=>?_
 rcases (show i=0\/i=1\/i=2\/i=3\/i=4\/i=5 by omega) with rfl | rfl | rfl | rfl | rfl | rfl
 ·exact go tt [.t rfl,.i 0,.i 0,.i 0,.k (UV 0 (by decide)),.k BA,.i 0] rfl (by simp [Uz]) (rd 1 (by omega) (by omega) rfl)
 ·exact go tt [.t rfl,.i 1,.i 1,.i 1,.k (UV 1 (by decide)),.k BA,.i 1] rfl (by simp [Uz]) (rd 2 (by omega) (by omega) rfl)
 ·exact go tt [.t rfl,.i 2,.i 2,.i 2,.k (UV 2 (by decide)),.k BA,.i 2] rfl (by simp [Uz]) (rd 3 (by omega) (by omega) rfl)
 ·exact go tt [.t rfl,.i 3,.i 3,.i 3,.k (UV 3 (by decide)),.k BA,.i 3] rfl (by simp [Uz]) (rd 4 (by omega) (by omega) rfl)
 ·exact go tt [.t rfl,.i 4,.i 4,.i 4,.k (UV 4 (by decide)),.k BA,.i 4] rfl (by simp [Uz]) (rd 5 (by omega) (by omega) rfl)
 ·exact Uf [] [0] [.f rfl] rfl
theorem Qsf {np nd:Int} (h1:1<=np/\np<=6) (h2:0<=nd/\nd<=2):U5 prog 55 [.oi np,.oi nd] [] [.one (.ow 0 0),.oi 0] [.blk 207 (mdl np nd 5)]:=by
 have co:=VL (n:=0) (by decide);rw [show ((0:Int):Rat)=0 from rfl] at co;refine Fw func55 rfl ?_;exact Uf [] [0] [.F,.f (by simp; omega),.f (by simp; omega),.f (by simp; omega),.k co,.c [0] Qdx] rfl
theorem Qll {a b:Int} (ha:-9223372036854775808<=a/\a<=9223372036854775807) (hb:-9223372036854775808<=b/\b<=9223372036854775807):∃ (N nd:Int) (ms:Up),(1<=N/\N<=4)/\(0<=nd/\nd<=2)/\EOk 0 (EA N nd)/\N=1+My a 4/\nd=My b 3 /\
 U5 prog 11 [.oi a,.oi b] [] [.agg [.ow 0 0,.sh ms,.int .i64 N],.one (.bool true)] (enB 0 (EA N nd)):=by
 have w1:=GV (v:=a) (n:=4) (by decide);have w2:=GV (v:=b) (n:=3) (by decide);have c1:=Dw (v:=a) (n:=4) ha (by decide);have c2:=Dw (v:=b) (n:=3) hb (by decide);obtain ⟨N,hN⟩:=nmE (1+My a 4);obtain ⟨nd,hnd⟩:=nmE (My b 3);have hN4:1<=N/\N<=4:=by omega
 have hd2:0<=nd/\nd<=2:=by omega
 have cn:=Qd1 (np:=N) (nd:=nd) (by omega) hd2;have cm:=Qsf (np:=N) (nd:=nd) (by omega) hd2;refine ⟨N,nd,mdl N nd 5,hN4,hd2,Qhu (by omega) hd2,hN,hnd,?_⟩;refine Fw func11 rfl ?_;exact Uf [8] [1,2,3,4,5,6,7] [.k c1,.r 12 (eI hN.symm),.k c2,.r 14 (eI hnd.symm),.c [1,2,3,4,5,6,7] cn,.c [8] cm,.t rfl,.t rfl] rfl (by simp [Uz]; omega)
theorem Qf4 {E:Es} {b N:Int} {o:RawOp} {ms:Up} (h:EOk b E) (hN:1<=N/\N<=4) (ho:o.Ok) (w0:My o.k 12<3) :
 ∃ E' e,EOk (b+67000000) E'/\E'.q=E.q/\tR 12 [.agg (Qh7 ms N),.agg (rwo o)] E [.oi e] E':=by
 obtain ⟨lx,ly,bb,l3,i1,i2,i3,cp⟩:=Qsk (E:=E) (ms:=ms) hN ho;have wk:=Dw (v:=o.k) (n:=12) ho.k (by decide);have hcs:=Qm2 (N:=N) ho.p;have hk:Cs 4294967294 1073741824 (Crv.mk (HY N o.p).x (HY N o.p).y (HY N o.p).d):=hcs.mono (by decide) (by decide);obtain ⟨E',g1,g2,g3⟩:=UK h (id:=idO o) i1 i2 i3 hk;have hq:E'.m.q=E.m.q:=by
  rw [g2]; unfold Em.ins; dsimp only; split <;> rfl
 refine ⟨E',(E.m.ins ⟨Crv.norm (Crv.mk (HY N o.p).x (HY N o.p).y (HY N o.p).d),idO o⟩).2,g1.mono (by omega),hq,?_⟩;refine Fw func12 rfl ?_;exact Uf [] [0,1,2,3,4,5,6] [.c Ut cp,.k wk,.T,.c Ut g3] rfl
def run2:Crv:=⟨[0,1],[1],1⟩
theorem fY:JH run2:=⟨rfl,rfl,by decide,by decide⟩
theorem cs_run2:Cs 1 2 run2:=⟨λz hz=>by simp only [run2,Qm,Xy,or_false] at hz; rcases hz with rfl | rfl <;> decide,λz hz=>by simp only [run2,Qm,Xy,or_false] at hz; subst hz; decide,by decide,by decide,by decide⟩
abbrev wtP:List Pt:=[⟨Rx 0 0,5⟩,⟨Rx 4 0,6⟩,⟨run2,7⟩]
theorem Qpv:(Ts (tq 0) wtP).map (·.id)=[5,7,6]:=by decide +kernel
theorem Qpw:(Ts (tq 9) wtP).map (·.id)=[5,6,7]:=by decide +kernel
theorem Qpx:(Mw (Fp (tq 9)) wtP).1.map (·.id)=[7]:=by decide +kernel
theorem Qkb:((Sr wtP (tq 9)).map (·.id)).length=3:=by decide +kernel
theorem Qbs:Crv.norm (Crv.mk [0,1] [1] 0)=run2:=by
 have e:Crv.norm (Crv.mk [0,1] [1] 1)=Crv.norm (Crv.mk [0,1] [1] 0):=by simp only [Crv.norm,Crv.g,Crv.d']; rfl
 rw [<-e]; exact Crv.norm_of fY
theorem Qs3:Uh 80 [.one (.row [[.bool false,.row []],[.bool false,.row [[.int .u32 1]]]]),.one (.row [[.bool false,.row [[.int .u32 1]]]])] [.agg (cl run2)]:=by
 have i1:IsInts [[.bool false,.row [[.int .u32 1]]]] [1]:=⟨⟨_,_,rfl,false,[1],rfl,rfl,(λx hx=>by rw [Qk.1 hx]; decide),rfl⟩,trivial⟩;have i01:IsInts [[.bool false,.row []],[.bool false,.row [[.int .u32 1]]]] [0,1]:=⟨⟨_,_,rfl,false,[],rfl,rfl,(λx hx=>by cases hx),rfl⟩,i1⟩;have h:=Qqm (px:=[0,1]) (py:=[1]) i01 i1 ⟨U0 cs_run2.x (by decide),U0 cs_run2.y (by decide),by show Fe 0<=_; decide,by show 2<=1073741824; decide,by show 1<=1073741824; decide⟩;rw [Qbs] at h; exact h
theorem Qvr:Ms 3 1 [] ⟨Rx 0 0,5⟩=0:=by decide +kernel
theorem Qvs:Ms 3 1 [⟨Rx 0 0,5⟩] ⟨Rx 4 0,6⟩=0:=by decide +kernel
theorem Qvt:Ms 3 1 [⟨Rx 0 0,5⟩,⟨Rx 4 0,6⟩] ⟨run2,7⟩=0:=by decide +kernel
theorem Qkc:∃ E1 E2 E3:Es,EOk 0 E3/\E3.m=⟨3,1,wtP,0,0,0,0,0,0⟩/\tR 58 [.one (.ow 0 0),.oi 5,.agg (cl (Rx 0 0))] (EA 3 1) [.oi 0] E1/\tR 58 [.one (.ow 0 0),.oi 6,.agg (cl (Rx 4 0))] E1 [.oi 0] E2/\tR 58 [.one (.ow 0 0),.oi 7,.agg (cl run2)] E2 [.oi 0] E3:=by
 have h0:=Qhu (np:=3) (nd:=1) (by decide) (by decide);have s1:=rW (x:=0) (y:=0) (by decide) (by decide);have s2:=rW (x:=4) (y:=0) (by decide) (by decide);have e1:Crv.norm (Crv.mk (Rx 0 0).x (Rx 0 0).y (Rx 0 0).d)=Rx 0 0:=Crv.norm_of s1.n;have e2:Crv.norm (Crv.mk (Rx 4 0).x (Rx 4 0).y (Rx 4 0).d)=Rx 4 0:=Crv.norm_of s2.n;have e3:Crv.norm (Crv.mk run2.x run2.y run2.d)=run2:=Crv.norm_of fY;obtain ⟨E1,a1,a2,a3⟩:=UK h0 (id:=5) (Gl (Rx 0 0).x) (Gl (Rx 0 0).y) (U3 (Rx 0 0).d) (s1.c.mono (by decide) (by decide));rw [e1] at a2 a3;have i1:(EA 3 1).m.ins ⟨Rx 0 0,5⟩=((⟨3,1,[⟨Rx 0 0,5⟩],0,0,0,0,0,0⟩:Em),0):=by
  unfold Em.ins;rw [show Ms (EA 3 1).m.np (EA 3 1).m.nd (EA 3 1).m.M ⟨Rx 0 0,5⟩=0 from Qvr,if_pos rfl]; rfl
 rw [i1] at a2 a3;obtain ⟨E2,b1,b2,b3⟩:=UK a1 (id:=6) (Gl (Rx 4 0).x) (Gl (Rx 4 0).y) (U3 (Rx 4 0).d) (s2.c.mono (by decide) (by decide));rw [e2,a2] at b2 b3;have i2:((⟨3,1,[⟨Rx 0 0,5⟩],0,0,0,0,0,0⟩:Em),(0:Int)).1.ins ⟨Rx 4 0,6⟩=((⟨3,1,[⟨Rx 0 0,5⟩,⟨Rx 4 0,6⟩],0,0,0,0,0,0⟩:Em),0):=by
  unfold Em.ins;dsimp only;rw [Qvs,if_pos rfl]; rfl
 rw [i2] at b2 b3;obtain ⟨E3,c1,c2,c3⟩:=UK b1 (id:=7) (Gl run2.x) (Gl run2.y) (U3 run2.d) (cs_run2.up (by decide) (by decide));rw [e3,b2] at c2 c3;have i3:((⟨3,1,[⟨Rx 0 0,5⟩,⟨Rx 4 0,6⟩],0,0,0,0,0,0⟩:Em),(0:Int)).1.ins ⟨run2,7⟩=((⟨3,1,wtP,0,0,0,0,0,0⟩:Em),0):=by
  unfold Em.ins;dsimp only;rw [Qvt,if_pos rfl]; rfl
 rw [i3] at c2 c3;exact ⟨E1,E2,E3,c1,c2,a3,b3,c3⟩
theorem pY:Uh 25 [] [.one (.bool true)]:=by
 obtain ⟨E1,E2,E3,h3,m3,i1,i2,i3⟩:=Qkc;have ht:Qs 128 (9:Rat):=⟨by decide,by decide⟩;have gq:=lV h3 (by decide) (U3 (9:Rat).num) (U3 ((9:Rat).den:Int)) (by decide) (by decide) (Sv 9);have ea:=NJ (A:=E3.m) ht (by rw [m3]; show ¬(9:Rat)<0; decide);have en9:E3.m.ans 9=EP E3.m.M 9:=if_pos (by rw [ea]);have er9:(E3.m.adv 9).2=0:=by rw [ea]
 rw [en9,er9,m3] at gq;have gq:tR 20 [.one (.ow 0 0),.agg (rl 9)] E3 [.agg (EP wtP 9),.oi 0] E3:=gq;obtain ⟨_,_,e1,e2,_⟩:=Qq6 m3;dsimp only at e1 e2;have t3:=Qtl h3;rw [e1,e2] at t3;obtain ⟨A0,hA0⟩:=nmE (EP wtP 0);obtain ⟨A9,hA9⟩:=nmE (EP wtP 9);rw [<-hA0] at t3;rw [<-hA9] at gq;have g0:∃ a b c d,A0=[ids [5,7,6],.row a,.row b,.row c,.row d]:=by
  rw [hA0];show ∃ a b c d,[ids ((Ts (tq 0) wtP).map (·.id)),_,_,_,_]=_;rw [Qpv];exact ⟨_,_,_,_,rfl⟩
 have g9:∃ h c d,h.length=3/\A9=[ids [5,6,7],ids [7],ids h,.row c,.row d]:=by
  rw [hA9];show ∃ h c d,_/\[ids ((Ts (tq 9) wtP).map (·.id)),ids ((Mw (Fp (tq 9)) wtP).1.map (·.id)),ids ((Sr wtP (tq 9)).map (·.id)),_,_]=_;rw [Qpw,Qpx];exact ⟨_,_,_,Qkb,rfl⟩
 obtain ⟨a,b,c,d,rfl⟩:=g0;obtain ⟨h,c',d',hh,rfl⟩:=g9;have q1:=sT (a:=[5,7,6]) (b:=[5,7,6]) (by decide) (by decide);have q2:=sT (a:=[5,6,7]) (b:=[5,6,7]) (by decide) (by decide);have q3:=sT (a:=[7]) (b:=[7]) (by decide) (by decide);have hhl:(idl h).length=3:=by simp [idl,hh]
 have co:=VL (n:=9) (by decide);have ct:=Qei (q:=9) ⟨by decide,by decide⟩;have k0:=dZ (x:=0) (y:=0) (by decide) (by decide);have k4:=dZ (x:=4) (y:=0) (by decide) (by decide);refine Fw func25 rfl ?_;exact Ud [.c Ut (Qd1 (np:=3) (nd:=1) (by decide) (by decide)),.f rfl,.f rfl,.k k0,.c Ut i1,.f rfl,.k k4,.c Ut i2,.f rfl,.z 29,.k Qs3,.c Ut i3,.f rfl,.k co,.k ct,.c Ut gq,.t rfl,.c Ut t3,.k q1,.t rfl,.k q2,.t rfl,.k q3,.t rfl,.r 71 (eI (b:=3) (by rw [Q6]; omega))] rfl rfl (by simp [Uz])
abbrev enL (E:Es) (ms:Up) (N:Int):Ur:=[.blk 80 (lK 0 E.q),tB E.np E.nd E.M,bS E.s E.M E.q,bT E.t E.M E.q,bH E.h E.M E.q,bP E.p E.M E.q,bD E.d E.M E.q,.blk 27 [.ow 0 0,.sh ms,.int .i64 N]]
abbrev enK (E:Es):Ur:=[.blk 80 (lK 8 E.q),tB E.np E.nd E.M,bS E.s E.M E.q,bT E.t E.M E.q,bH E.h E.M E.q,bP E.p E.M E.q,bD E.d E.M E.q]
set_option maxHeartbeats 8000000 in
theorem xJ {l:List RawPt} {cu:Uk} {n d:Int} (hl:∀ x∈l,x.Ok) (hc:∀ x∈cu,-9223372036854775808≤x/\x≤9223372036854775807) (hn:-9223372036854775808≤n/\n≤9223372036854775807) (hd:-9223372036854775808≤d/\d≤9223372036854775807):Uh 3 [.one (.row (iW l)),.one (.row (idl cu)),.oi n,.oi d] [.one (.bool true)]:=by
 obtain ⟨N,nd,ms,hN,hnd,h0,_,_,cb⟩:=Qll (a:=3) (b:=2) (by decide) (by decide);have hll:(iW l).length=l.length:=by simp [iW]
 have hcul:(idl cu).length=cu.length:=by simp [idl]
 refine Fw func3 rfl (ln 0 rfl rfl λhcl=>ln 1 rfl rfl λhcl2=>?_);rw [hll] at hcl;rw [hcul] at hcl2;refine Ub [.c Ut cb,.f rfl] rfl ?_;refine Ug (S:=Nat×Es) 8 (λL1 s=>(11,.v (.oi (s.1:Int)))::L1) (λs=>enL s.2 ms N) (λs=>4-s.1) (λs=>s.1<=4/\s.1<=l.length/\EOk (67000000*s.1) s.2/\s.2.q=0) (0,EA N nd) ⟨by show 0<=4; decide,Qh _,h0.mono (show (0:Int)<=67000000*((0:Nat):Int) by decide),rfl⟩ rfl rfl λ⟨i,E⟩ ⟨hi,hi2,hE,hq⟩=>?_
 dsimp only at hi hi2 hE hq ⊢;by_cases hr:i<l.length/\i<4
 ·obtain ⟨x,hx⟩:=gxE (l:=l) (i:=i) hr.1;have hxo:=hl x (Qa hx);have hz:RawInt.Ok ⟨false,[]⟩:=⟨λu hu=>by cases hu⟩;obtain ⟨E',er,e1,e2,e3⟩:=Qf4 (ms:=ms) (o:=⟨0,0,0,⟨x.x,x.y,x.d,(i:Int)⟩,⟨false,[]⟩,⟨false,[]⟩⟩) hE hN ⟨(by show (-9223372036854775808:Int)<=0/\(0:Int)<=9223372036854775807; decide),(by show (-9223372036854775808:Int)<=0/\(0:Int)<=9223372036854775807; decide),(by show (-9223372036854775808:Int)<=0/\(0:Int)<=9223372036854775807; decide),⟨hxo.x,hxo.y,hxo.d,by show _<=(i:Int)/\(i:Int)<=_; omega⟩,hz,hz⟩ (by show My 0 12<3; decide);refine Uc [.T,.T,.x (Gt (f:=rwq) hx),.z 40,.c Ut e3] rfl ?_;have e:67000000*(i:Int)+67000000=67000000*((i+1:Nat):Int):=by omega
  rw [e] at e1;exact rd (i+1,E') (by dsimp only; omega) ⟨hr.2,hr.1,e1,e2.trans hq⟩ rfl
 have cw1:=Dw (v:=n) (n:=100) hn (by decide);have cw2:=Dw (v:=d) (n:=5) hd (by decide);have b1:=GV (v:=n) (n:=100) (by decide);have b2:=GV (v:=d) (n:=5) (by decide);have co:=Qqj (n:=My n 100) (d:=1+My d 5) (by omega) (by omega);have h7:=gR (YV (z:=My n 100) (by omega)) (YV (z:=1+My d 5) (by omega)) (by decide);have hge:∀ {z:Int},0<=z->0<=Gu z (1+My d 5):=λ{z} hz=>by
  rw [RN (by omega),<-pW,Jn];exact Y7 (by exact_mod_cast hz) (Qr (Rat.inv_pos.2 (by exact_mod_cast (show 0<1+My d 5 by omega))))
 obtain ⟨T,hTe⟩:=nmE (Gu (My n 100) (1+My d 5));have hT0:0<=T:=by rw [hTe]; exact hge b1.1
 rw [<-hTe] at co h7;have hT:Qs 128 T:=h7.mono (by decide);have ct:=Qei (q:=T) (h7.mono (by decide));have cf:=Qdq (q:=T) (h7.mono (by decide));have ccl:=Qnd hE;have hM:MOk E.m.M:=hE.m.m;have hEq:E.m.q=0:=hq;have hq0:Qs 128 E.m.q:=hE.q;obtain ⟨P,p1,p2,_,p3⟩:=pF hE (by omega) hT (by decide);have nT:¬T<E.m.q:=by rw [hEq]; exact V5.2 hT0
 rw [Qc1 hT nT] at p2 p3;have p2:P.m=advE E.m T:=p2;have p3:tR 17 [.one (.ow 0 0),.agg (rl T)] E [.oi 0] P:=p3;have hE5:EOk 335000000 E:=hE.mono (by omega);by_cases hj:i<l.length
 all_goals
  first
  | refine Uc [.T,.F,.c Ux ccl,.f rfl,.k cw1,.k cw2,.k co,.k ct,.c Ut p3,.f rfl] rfl ?_
  | refine Uc [.F,.f rfl,.c Ux ccl,.f rfl,.k cw1,.k cw2,.k co,.k ct,.c Ut p3,.f rfl] rfl ?_
  refine Ug (S:=Nat×Es) 16 (λL1 s=>(14,.v (.oi (s.1:Int)))::L1) (λs=>enL P ms N++enK s.2++[.blk 42 (rl T)]) (λs=>4-s.1) (λs=>s.1<=4/\s.1<=cu.length/\EOk (335000000+67000000*s.1) s.2/\∃ t,0<=t/\t<=T/\Qs 128 t/\s.2.m=advE E.m t) (0,E) ⟨by show 0<=4; decide,Qh _,hE5.mono (show (335000000:Int)<=335000000+67000000*((0:Nat):Int) by decide),0,Qp,hT0,⟨by decide,by decide⟩,by rw [<-hq,oW hE]⟩ rfl rfl λ⟨j,F⟩ ⟨hj1,hj2,hF,t,t1,t2,t3,t4⟩=>?_
  dsimp only at hj1 hj2 hF t4 ⊢;have hqt:E.m.q<=t:=by rw [hEq]; exact t1
  by_cases hs:j<cu.length/\j<4
  ·obtain ⟨c,hcx⟩:=gxE (l:=cu) (i:=j) hs.1;have hci:=hc c (Qa hcx);have hg:(idl cu)[j]? = some [.int .i64 c]:=Gt hcx;have cw3:=Dw (v:=c) (n:=100) hci (by decide);have b3:=GV (v:=c) (n:=100) (by decide);have co2:=Qqj (n:=My c 100) (d:=1+My d 5) (by omega) (by omega);have hU:=gR (YV (z:=My c 100) (by omega)) (YV (z:=1+My d 5) (by omega)) (by decide);have hU0:=hge b3.1;obtain ⟨U,hUe⟩:=nmE (Gu (My c 100) (1+My d 5));rw [<-hUe] at co2 hU hU0;have ctt:=Qei (q:=U) (hU.mono (by decide));have ccm:=Qmk (a:=U) (b:=T) (hU.mono (by decide)) (h7.mono (by decide));have hgt:=Dk (a:=U) (b:=T);have e:(335000000:Int)+67000000*(j:Int)+67000000=335000000+67000000*((j+1:Nat):Int):=by omega
   by_cases hev:0<G6 U T
   ·have gq:=Qtj hF (by omega) hU (by decide);by_cases hz:(F.m.adv U).2=0
    ·rw [(Qc2 hz).2.2] at gq;refine Uc [.T,.T,.x hg,.k cw3,.k cw2,.k co2,.k cf,.k ccm,.t (decide_eq_true hev),.k ctt,.c Uu gq] rfl ?_;exact rd (j+1,F) (by dsimp only; omega) ⟨hs.2,hs.1,hF.mono (by omega),t,t1,t2,t3,t4⟩ rfl
    ·rw [(Qk8 hz).2] at gq;refine Uc [.T,.T,.x hg,.k cw3,.k cw2,.k co2,.k cf,.k ccm,.t (decide_eq_true hev),.k ctt,.c Uu gq] rfl ?_;exact rd (j+1,F) (by dsimp only; omega) ⟨hs.2,hs.1,hF.mono (by omega),t,t1,t2,t3,t4⟩ rfl
   ·have hUT:U<=T:=V5.1 λh=>hev (hgt.2 h)
    obtain ⟨G,g1,g2,_,g4⟩:=pF hF (by omega) hU (by decide);refine Uc [.T,.T,.x hg,.k cw3,.k cw2,.k co2,.k cf,.k ccm,.f (decide_eq_false hev),.k ctt,.c Uu g4] rfl ?_;rw [e] at g1;refine rd (j+1,G) (by dsimp only; omega) ⟨hs.2,hs.1,g1,?_⟩ rfl;show ∃ t,0<=t/\t<=T/\Qs 128 t/\G.m=advE E.m t;rcases Qc3 hM hq0 t3 hqt t4 (hU.mono (by decide)) with ⟨h1,h2⟩ | ⟨h1,h2⟩
    ·exact ⟨t,t1,t2,t3,by rw [g2,h1,t4]⟩
    ·exact ⟨U,hU0,hUT,hU.mono (by decide),by rw [g2,h1]⟩
  obtain ⟨H,x1,x2,_,x4⟩:=pF hF (by omega) hT (by decide);have hon:F.m.adv T=(advE E.m T,0):=by
   rcases Qc3 hM hq0 t3 hqt t4 hT with ⟨_,h2⟩ | ⟨h1,_⟩
   ·exact absurd h2 (V5.2 t2)
   ·exact h1
  rw [hon] at x2 x4;have x4:tR 17 [.one (.ow 0 0),.agg (rl T)] F [.oi 0] H:=x4;have hHP:H.m=P.m:=by rw [x2,p2]
  obtain ⟨_,_,q1,q2,_⟩:=Qq6 hHP;have q1:H.M=P.M:=q1;have q2:H.q=P.q:=q2;have csa:=Qtk (E:=H) (F:=P) x1 q1.symm q2.symm;have cE1:=wT (E:=H);have cE2:=wT (E:=P);rw [hHP] at cE1;have cC1:=wR x1;have cC2:=wR p1;rw [q1,q2] at cC1;obtain ⟨hcp,hcn⟩:=Qfg p1;have csc:=Qed hcp hcn;by_cases hk:j<cu.length
  all_goals
   first
   | refine Ub [.T,.F] rfl ?_
   | refine Ub [.F,.f rfl] rfl ?_
   exact Ud [.c Uu x4,.g 95 true rfl,.lo,.c [8,9,10,11,12,13,14,0,1,2,3,4,5,6] csa,.g 101 true rfl,.lo,.c Uu cE1,.lo,.c Ut cE2,.g 109 true (by simp),.lo,.c Ut cC2,.lo,.c Uu cC1,.k csc,.g 117 true (by simp),.k pY] rfl
end Orr
namespace Orr
open Go Go.Proofs Tryz
variable {H:Type} {enc:TypeId×Value->H} {w:World} {base:Nat} {spare:Nat->Bool} {held:Bool}
theorem Aa {α:Type} {l:List α} {n i:Nat} (h:l.length=n) (hi:i<n):∃ x,l[i]? = some x:=⟨l[i]'(by omega),Qe (by omega)⟩
end Orr
namespace Orr
open Go Go.Proofs Tryz Go.ChangeShapes Go.WideShapes Go.ChangeAt Go.RowKit Go.WideElems
theorem Qmy {w:World} {a:Addr} {v:Value} (h:w.cell? a=some v):a.spot=none/\a.block<w.heap.size:=by
 simp only [World.cell?] at h
 split at h
 ·rename_i c t fr hc
  split at h
  ·cases h
  ·rename_i hs;refine ⟨by cases e:a.spot with | none=>rfl | some _=>simp [e] at hs,?_⟩;exact (Array.getElem?_eq_some_iff.1 hc).1
 ·cases h
theorem Qk7 {a:Addr} (h:a.spot=none) (n m:Nat):(a.add n).add m=⟨a.block,a.off+n+m,none⟩:=by
 obtain ⟨b,o,s⟩:=a;simp only at h;subst h;simp only [Addr.add]
 split
 ·rename_i h; subst h
  split
  ·rename_i h; subst h; simp
  ·simp
 ·split
  ·rename_i h; subst h; simp
  ·simp
def fr0 (w:World):Fr:=⟨λb=>b<w.heap.size,λ_=>False,w,λ_=>False,λ_=>none⟩
theorem EH (w:World):HS (fr0 w) (ob []) (nw []) (λ_=>none) (λ_=>False) w where
 size:=Ql _
 kept:=λb hb=>⟨hb,rfl,Iff.rfl⟩
 ids:=λi h=>h.elim
 nj:=λi h=>by rw [jM] at h; cases h
 io:=⟨rfl,rfl⟩
 blk:=λi=>by rw [jM]; trivial
 nk:=λi g c m h _=>by rw [jM] at h; cases h
 inj:=λi j g c m c' m' h _ _ _=>by rw [jM] at h; cases h
 mlt:=λb h=>h.elim
 m0:=λb _ h=>h.elim
 un:=λi _=>⟨rfl,rfl⟩
 uj:=λi _ h=>h.elim
theorem Qo7 {w w':World} {bl:Nat->OB} {U:Nat->Prop} {E:Bt} {M:Nat->Prop} (h:HS (fr0 w) bl U E M w') {p:MemPlace} (hp:p.block<w.heap.size):w.sameAt w' p:=by
 cases p with
 | cell b off=>simp only [World.sameAt,World.cell?]; rw [(h.kept b hp).2.1]; rfl
 | map b=>exact (h.kept b hp).2.1
theorem Qnt {w w':World} {bl:Nat->OB} {U:Nat->Prop} {E:Bt} {M:Nat->Prop} (h:HS (fr0 w) bl U E M w') (may:MemPlace->Prop):w.keptBut w' may:=by
 refine ⟨h.io.1,h.io.2,λi hi=>?_⟩;have e:w'.heap[i]? = w.heap[i]? := (h.kept i hi).2.1;rw [e];cases w.heap[i]? with
 | none=>rfl
 | some o=>cases o <;> simp
theorem JG {H:Type} {P:Program} {e:TypeId}:∀ {l:List (DataW H)} {i:Nat} {d:DataW H},l[i]? = some d->∀ n∈d.weights P e,n∈DataW.weightsAll P e l
 | [],i,d,h,_,_=>by simp at h
 |
  x::l,0,d,h,n,hn=>by
  simp at h; subst h;simp only [DataW.weightsAll,Qq]; exact .inl hn
 |
  x::l,i+1,d,h,n,hn=>by
  simp only [DataW.weightsAll,Qq];exact .inr (JG (i:=i) (by simpa using h) n hn)
theorem Iu {H:Type} {P:Program} {t:TypeId} {fs:Array Field} {parts:List (DataW H)} (hu:P.underlying t=some (.struct fs)) (hz:((DataW.agg parts).weights P t).all (· <= reachBytes)=true) {i:Nat} {f:Field} {d:DataW H} (hf:fs[i]? = some f) (hd:parts[i]? = some d) :
 (d.weights P f.type).all (· <= reachBytes)=true:=by
 rw [Jt] at hz ⊢;intro n hn;refine hz n ?_;simp only [DataW.weights,hu];exact DataW.weights_mem_each (j:=i) (by rw [Zb]; simp [hf]) hd n hn
variable {H:Type} {enc:TypeId×Value->H} {w:World}
abbrev O0:Nat->Prop:=λ_=>False
def Els (w:World) (cs:List Value) (ls:Up):Prop:=cs.length=ls.length/\∀ (j:Nat) (u:LV),ls[j]? = some u->∃ v,cs[j]? = some v/\LRep w O0 v u
theorem FS {α:Type} {rw_:α->Up} {Ok:α->Prop} {t e sz:Nat} (hu:prog.underlying t=some (.slice e)) (hc:prog.cellsOf e=sz) (hsz:0<sz) (hb:1<=prog.bytesOf e) (hw:∀ z,(rw_ z).length=sz)
 (elem:∀ fuel cs x,DataW.trod enc prog w 0 (λ_=>true) true fuel e cs=some x->(x.1.weights prog e).all (· <= reachBytes)=true->∃ z,Ok z/\Els w cs (rw_ z))
 {fuel:Nat} {cs:List Value} {x:DataW H×List MemPlace} (h:DataW.trod enc prog w 0 (λ_=>true) true fuel t cs=some x) (hz:(x.1.weights prog t).all (· <= reachBytes)=true) :
 ∃ (v:Value) (l:List α),cs=[v]/\(∀ z∈l,Ok z)/\l.length<2^47/\LRep w O0 v (.row (l.map rw_)):=by
 rcases Go.Deep.open_slice hu h with ⟨rfl,_⟩ | ⟨a',len,cap,m,n,D,Pl,rfl,_,hlc,hcap,hm,rfl,hr⟩
 ·refine ⟨_,[],rfl,by simp,Nat.two_pow_pos 47,?_⟩;exact LRep.row none 0 0 0 0 [] (λ_ _=>.bool true) (Ql _) (by decide) (by simp) (by simp) (by simp) (by simp)
 ·simp only [if_true] at hm;subst hm;rw [Jt] at hz;have hlen:len<2^47:=by
   have h0:=hz ((len+(m-len))*prog.bytesOf e) (by simp [DataW.weights,hu]);have h1:len<=(len+(m-len))*prog.bytesOf e:=by
    have:=Zf (Kw len (m-len)) hb;omega
   have h2:(len+(m-len))*prog.bytesOf e<=reachBytes:=by simpa using h0
   exact Z4 (Qc h1 h2) reachBytes_lt
  have hel:∀ i,i<len->((D i).weights prog e).all (· <= reachBytes)=true:=λi hi=>by
   rw [Jt];intro k hk;refine hz k ?_;simp only [DataW.weights,hu];refine Qg _ (Qq.2 (.inl (JG (i:=i) ?_ k hk)));rw [Zb,Xz hi]; rfl
  have hone:∀ i,i<len->∃ z cs',Ok z/\Els w cs' (rw_ z)/\∀ j,j<sz->w.cell? ((a'.add (i*sz)).add j)=cs'[j]? := λi hi=>by
   obtain ⟨cs',hcs,htr⟩:=hr i (by omega);rw [hc] at hcs;obtain ⟨_,hl,hcell⟩:=World.cells?_some hcs;obtain ⟨z,hz1,hz2⟩:=elem _ _ _ htr (hel i hi);refine ⟨z,cs',hz1,hz2,λj hj=>?_⟩;rw [hcell j (by omega)]
  have hspot:0<len->a'.spot=none/\a'.block<w.heap.size:=λh0=>by
   obtain ⟨z,cs',_,⟨hl,_⟩,h3⟩:=hone 0 h0;have h4:=h3 0 hsz;have:(a'.add (0*sz)).add 0=a':=by simp [Addr.add]
   rw [this,Qe (by rw [hl,hw]; exact hsz)] at h4;exact Qmy h4
  obtain ⟨l,hll,hl⟩:∃ l:List α,l.length=len/\∀ i z,l[i]? = some z->Ok z/\∃ cs',Els w cs' (rw_ z)/\∀ j,j<sz->w.cell? ((a'.add (i*sz)).add j)=cs'[j]? := by
   have:∀ k,k<=len->∃ l:List α,l.length=k/\∀ i z,l[i]? = some z->Ok z/\∃ cs',Els w cs' (rw_ z)/\∀ j,j<sz->w.cell? ((a'.add (i*sz)).add j)=cs'[j]? := by
    intro k
    induction k with
    | zero=>intro _; exact ⟨[],rfl,λi z h=>by simp at h⟩
    |
     succ k ih =>
     intro hk;obtain ⟨l,h1,h2⟩:=ih (by omega);obtain ⟨z,cs',h3,h4,h5⟩:=hone k (by omega);refine ⟨l++[z],by simp [h1],λi y hy=>?_⟩;rcases Q9 i l.length with hi | hi
     ·rw [Zm hi] at hy; exact h2 i y hy
     ·rw [Xg hi] at hy;have:i-l.length=0:=by
       rcases Q0 (i-l.length) with h | h
       ·exact h
       ·rw [Qw (by rw [Vs]; exact h)] at hy; cases hy
      rw [this] at hy;simp at hy;subst hy;have:i=k:=by omega
      subst this;exact ⟨h3,cs',h4,h5⟩
   exact this len (Ql _)
  refine ⟨_,l,rfl,λz hz=>?_,by rw [hll]; exact hlen,?_⟩
  ·obtain ⟨i,hi⟩:=Zh.1 hz;exact (hl i z hi).1
  ·have key:LRep w O0 (.slice (some a') (l.map rw_).length m) (.row (l.map rw_)):=by
    have hgl:∀ i c,(l.map rw_)[i]? = some c->∃ z,l[i]? = some z/\c=rw_ z/\i<len:=λi c h=>by
     rw [Zb] at h;cases e:l[i]? with
     | none=>rw [e] at h; cases h
     | some z=>rw [e] at h; simp at h; exact ⟨z,rfl,h.symm,by have:=(Qf.1 e).1; omega⟩
    have hcl:∀ i c,(l.map rw_)[i]? = some c->∃ cs':List Value,Els w cs' c/\∀ j,j<sz->w.cell? ⟨a'.block,a'.off+i*sz+j,none⟩=cs'[j]? := λi c h=>by
     obtain ⟨z,hz,rfl,hi⟩:=hgl i c h;obtain ⟨_,cs',h1,h2⟩:=hl i z hz;refine ⟨cs',h1,λj hj=>?_⟩;rw [<-h2 j hj,Qk7 (hspot (by omega)).1]
    refine LRep.row (some a') m sz a'.block a'.off (l.map rw_) (λi j=>(w.cell? ⟨a'.block,a'.off+i*sz+j,none⟩).getD (.bool true)) (by rw [Q6]; omega) ?_ ?_ ?_ ?_ ?_
    ·have:maxLen=2^63-1:=by rfl
     omega
    ·intro c hc2;obtain ⟨z,_,rfl⟩:=Q8.1 hc2;exact hw z
    ·intro h0;rw [Q6,hll] at h0;obtain ⟨hs,hb⟩:=hspot h0;refine ⟨?_,hb,by simp [O0]⟩;obtain ⟨b,o,s⟩:=a';simp only at hs;rw [hs]
    ·intro i c hi j hj;obtain ⟨z,_,rfl,_⟩:=hgl i c hi;obtain ⟨cs',⟨h1,_⟩,h2⟩:=hcl i _ hi;have hjs:j<sz:=by rw [<-hw z]; exact hj
     rw [h2 j hjs,Qe (by rw [h1]; exact hj)]; rfl
    ·intro i c hi j u hu2;obtain ⟨z,_,rfl,_⟩:=hgl i c hi;obtain ⟨cs',⟨h1,h3⟩,h2⟩:=hcl i _ hi;obtain ⟨v,hv,hr2⟩:=h3 j u hu2;have hjs:j<sz:=by rw [<-hw z]; exact (Qf.1 hu2).1
     show LRep w O0 ((w.cell? ⟨a'.block,a'.off+i*sz+j,none⟩).getD (.bool true)) u;rw [h2 j hjs,hv]; exact hr2
   rw [Q6,hll] at key;exact key
abbrev Qx9 (x:Nat):Up:=[.int .u32 (x:Int)]
theorem Qj6:∀ fuel cs x,DataW.trod enc prog w 0 (λ_=>true) true fuel 151 cs=some x->(x.1.weights prog 151).all (· <= reachBytes)=true->∃ z:Nat,z<4294967296/\Els w cs (Qx9 z):=by
 intro fuel cs x h _;obtain ⟨n,rfl,_,hwf⟩:=DataW.trod_int underlying151 h;have hn:0<=n/\n<4294967296:=by
  have:0<=n/\n<=4294967295:=by simpa [Lit.wf,IntKind.min,IntKind.max,IntKind.signed,IntKind.bits] using hwf
  omega
 refine ⟨n.toNat,by omega,rfl,λj u hu=>?_⟩
 match j,hu with
 |
  0,hu =>
  simp at hu; subst hu;refine ⟨_,rfl,?_⟩;rw [show max n 0=n by omega];exact .int _ _
 | j+1,hu=>simp at hu
set_option maxRecDepth 20000 in
theorem CB:∀ fuel cs x,DataW.trod enc prog w 0 (λ_=>true) true fuel 36 cs=some x->(x.1.weights prog 36).all (· <= reachBytes)=true->∃ z:RawInt,z.Ok/\Els w cs (Ip z):=by
 intro fuel cs x h hz;obtain ⟨xs,n,_,rfl,hl,hxs,hf⟩:=DataW.trod_struct underlying36 h;have hl:cs.length=2:=hl
 match cs,hl with
 |
  [v0,v1],_ =>
  obtain ⟨z0,hz0⟩:=Aa (i:=0) hxs (by decide);obtain ⟨z1,hz1⟩:=Aa (i:=1) hxs (by decide);have h0:=hf 0 _ rfl;have h1:=hf 1 _ rfl;rw [hz0] at h0; rw [hz1] at h1;obtain ⟨b,e0,_⟩:=DataW.trod_bool underlying4 h0;have f0:v0=.bool b:=(List.cons.inj (show [v0]=[Value.bool b] from e0)).1;have hw1:=Iu underlying36 hz (i:=1) rfl (d:=z1.1) (by rw [Zb,hz1]; rfl);obtain ⟨v,l,e1,hlo,_,hrep⟩:=FS (sz:=1) (Ok:=λu:Nat=>u<4294967296) (rw_:=Qx9) underlying34 (by kernel_rfl) (by decide) (of_decide_eq_true (by kernel_rfl)) (λ_=>rfl) Qj6 h1 hw1;have f1:v1=v:=(List.cons.inj (show [v1]=[v] from e1)).1;subst f0 f1;refine ⟨⟨b,l⟩,⟨hlo⟩,rfl,λj u hu=>?_⟩
  match j,hu with
  | 0,hu=>simp at hu; subst hu; exact ⟨_,rfl,.bool _⟩
  | 1,hu=>simp at hu; subst hu; exact ⟨_,rfl,hrep⟩
  | j+2,hu=>simp at hu
set_option maxRecDepth 20000 in
theorem nJ:∀ fuel cs x,DataW.trod enc prog w 0 (λ_=>true) true fuel 40 cs=some x->(x.1.weights prog 40).all (· <= reachBytes)=true->∃ z:RawPt,z.Ok/\Els w cs (rwq z):=by
 intro fuel cs x h hz;obtain ⟨xs,n,_,rfl,hl,hxs,hf⟩:=DataW.trod_struct underlying40 h;have hl:cs.length=5:=hl
 match cs,hl with
 |
  [v0,v1,v2,v3,v4],_ =>
  obtain ⟨z0,hz0⟩:=Aa (i:=0) hxs (by decide);obtain ⟨z1,hz1⟩:=Aa (i:=1) hxs (by decide);have h0:=hf 0 _ rfl;have h1:=hf 1 _ rfl;rw [hz0] at h0; rw [hz1] at h1;obtain ⟨id,e4,_,hwf⟩:=DataW.trod_int underlying3 h1;have f4:v4=.int .i64 id:=(List.cons.inj (show [v4]=[Value.int .i64 id] from e4)).1;have hw0:=Iu underlying40 hz (i:=0) rfl (d:=z0.1) (by rw [Zb,hz0]; rfl);obtain ⟨ys,n2,_,e5,_,hys,hg⟩:=DataW.trod_struct underlying38 h0;rw [e5] at hw0;obtain ⟨y0,hy0⟩:=Aa (i:=0) hys (by decide);obtain ⟨y1,hy1⟩:=Aa (i:=1) hys (by decide);obtain ⟨y2,hy2⟩:=Aa (i:=2) hys (by decide);have g0:=hg 0 _ rfl;have g1:=hg 1 _ rfl;have g2:=hg 2 _ rfl;rw [hy0] at g0; rw [hy1] at g1; rw [hy2] at g2;have w0:=Iu underlying38 hw0 (i:=0) rfl (d:=y0.1) (by rw [Zb,hy0]; rfl);have w1:=Iu underlying38 hw0 (i:=1) rfl (d:=y1.1) (by rw [Zb,hy1]; rfl);have w2:=Iu underlying38 hw0 (i:=2) rfl (d:=y2.1) (by rw [Zb,hy2]; rfl);obtain ⟨u0,lx,e0,hx,_,rx⟩:=FS (sz:=2) (Ok:=RawInt.Ok) (rw_:=Ip) underlying33 (by kernel_rfl) (by decide) (of_decide_eq_true (by kernel_rfl)) (λ_=>rfl) CB g0 w0;obtain ⟨u1,ly,e1,hy,_,ry⟩:=FS (sz:=2) (Ok:=RawInt.Ok) (rw_:=Ip) underlying33 (by kernel_rfl) (by decide) (of_decide_eq_true (by kernel_rfl)) (λ_=>rfl) CB g1 w1;obtain ⟨d,hd,hde⟩:=CB _ _ _ g2 w2;have f0:v0=u0:=(List.cons.inj (show [v0]=[u0] from e0)).1;have f1:v1=u1:=(List.cons.inj (show [v1]=[u1] from e1)).1;have hde2:Els w [v2,v3] (Ip d):=hde;subst f0 f1 f4;obtain ⟨q2,hq2,r2⟩:=hde2.2 0 _ rfl;obtain ⟨q3,hq3,r3⟩:=hde2.2 1 _ rfl;simp at hq2 hq3;subst hq2 hq3;refine ⟨⟨lx,ly,d,id⟩,⟨hx,hy,hd,by simpa [Lit.wf,IntKind.min,IntKind.max,IntKind.signed,IntKind.bits] using hwf⟩,rfl,λj u hu=>?_⟩
  match j,hu with
  | 0,hu=>simp [rwq] at hu; subst hu; exact ⟨_,rfl,rx⟩
  | 1,hu=>simp [rwq] at hu; subst hu; exact ⟨_,rfl,ry⟩
  | 2,hu=>simp [rwq] at hu; subst hu; exact ⟨_,rfl,r2⟩
  | 3,hu=>simp [rwq] at hu; subst hu; exact ⟨_,rfl,r3⟩
  | 4,hu=>simp [rwq] at hu; subst hu; exact ⟨_,rfl,.int _ _⟩
  | j+5,hu=>simp [rwq] at hu
end Orr
namespace Orr
open Go Go.Proofs Tryz Go.ChangeShapes Go.WideShapes Go.ChangeAt Go.RowKit Go.WideElems
variable {H:Type} {enc:TypeId×Value->H} {w:World}
theorem Qg1:∀ fuel cs x,DataW.trod enc prog w 0 (λ_=>true) true fuel 3 cs=some x->(x.1.weights prog 3).all (· <= reachBytes)=true->∃ z:Int,(-9223372036854775808<=z/\z<=9223372036854775807)/\Els w cs [LV.int .i64 z]:=by
 intro fuel cs x h _;obtain ⟨n,rfl,_,hwf⟩:=DataW.trod_int underlying3 h;refine ⟨n,by simpa [Lit.wf,IntKind.min,IntKind.max,IntKind.signed,IntKind.bits] using hwf,rfl,λj u hu=>?_⟩
 match j,hu with
 |
  0,hu =>
  simp at hu; subst hu;exact ⟨_,rfl,.int _ _⟩
 | j+1,hu=>simp at hu
end Orr
namespace Orr
open Go Go.Proofs Tryz Go.ChangeShapes Go.WideShapes Go.ChangeAt Go.RowKit Go.WideElems
set_option maxRecDepth 10000
def NX (t:TypeId) (R:TV->Prop):Prop:=∀ {H:Type} {enc:TypeId×Value->H} {W:World} {base:Nat} {v:Value} {d:DataW H} {p:List MemPlace},Value.okWide prog W .any base t v->DataW.Trod enc prog W 0 (λ_=>true) true t v d p->(d.weights prog t).all (· <= reachBytes)=true->∃ u,R u/\TRep W (λ_=>False) (λ_=>none) v u
section
variable {H:Type} {enc:TypeId×Value->H} {W W':World} {base:Nat}
theorem hQ:∀ {ps:List (TypeId×(TV->Prop))} {args:List Value} {ds:List (DataW H)} {p:List MemPlace},DataW.TrodAll enc prog W 0 (λ_=>true) true (ps.map (·.1)) args ds p ->
 (∀ (j:Nat) t v,(ps.map (·.1))[j]? = some t->args[j]? = some v->Value.okWide prog W .any base t v)->(∀ (j:Nat) t d,(ps.map (·.1))[j]? = some t->ds[j]? = some d->(d.weights prog t).all (· ≤ reachBytes)=true)->(∀ q∈ps,NX q.1 q.2) ->
 ∃ us,F2 (λu (q:TypeId×(TV->Prop))=>q.2 u) us ps/\F2 (TRep W (λ_=>False) (λ_=>none)) args us/\ds.length=ps.length
 |
  [],args,ds,p,h,_,_,_=>by
  obtain ⟨rfl,rfl,rfl⟩:=trodAll_nil h;exact ⟨[],.nil,.nil,rfl⟩
 |
  q::ps,args,ds,p,h,hv,hw,hr=>by
  obtain ⟨v,vs,d,ds',p1,p2,rfl,rfl,rfl,h1,h2⟩:=trodAll_cons h;obtain ⟨u,r1,r2⟩:=hr q (Qx ..) (hv 0 q.1 v rfl rfl) h1 (hw 0 q.1 d rfl rfl);obtain ⟨us,s1,s2,s3⟩:=hQ h2 (λj t v h h'=>hv (j+1) t v (by simpa using h) (by simpa using h')) (λj t d h h'=>hw (j+1) t d (by simpa using h) (by simpa using h')) λq hq=>hr q (Qg _ hq)
  exact ⟨u::us,.cons r1 s1,.cons r2 s2,by simp [s3]⟩
theorem rP {sp':Nat->Bool} (hl:laidOutB prog=true):∀ {ps:List (TypeId×(TV->Prop))} {args:List Value} {ds:List (DataW H)} {p:List MemPlace},DataW.TrodAll enc prog W 0 (λ_=>true) true (ps.map (·.1)) args ds p ->
 (∀ q∈ps,prog.readableRec q.1=true/\q.1<prog.types.size)->(∀ x∈p,W.sameAt W' x)->(∀ x∈p,sp' x.block=true)->DataW.TrodAll enc prog W' 0 sp' true (ps.map (·.1)) args ds p
 |
  [],args,ds,p,h,_,_,_=>by
  obtain ⟨rfl,rfl,rfl⟩:=trodAll_nil h;exact trodAll_mk0
 |
  q::ps,args,ds,p,h,hr,hs,hb=>by
  obtain ⟨v,vs,d,ds',p1,p2,rfl,rfl,rfl,h1,h2⟩:=trodAll_cons h;obtain ⟨r1,r2⟩:=hr q (Qx ..);exact trodAll_cons_mk (Trod_stays hl r1 r2 h1 (λx hx=>hs x (Qq.2 (.inl hx))) λx hx=>hb x (Qq.2 (.inl hx))) (rP hl h2 (λq hq=>hr q (Qg _ hq)) (λx hx=>hs x (Qq.2 (.inr hx))) λx hx=>hb x (Qq.2 (.inr hx)))
end
theorem Qhc {ps:List (TypeId×(TV->Prop))} {f:FuncId} {fn:Func} {s:ChangeSpec} (hp:fn.params=(ps.map (·.1)).toArray) (hr:fn.resultTypes = #[4]) (hv:s.vars=[])
 (hs:∀ (H:Type) (ds:List (DataW H)),ds.length=ps.length->s.fn H ds={ results:=[.lit (.bool true)],args:=ds })
 (hlaid:laidOutB prog=true) (hrec:∀ q∈ps,prog.readableRec q.1=true/\q.1<prog.types.size) (hrd:∀ q∈ps,NX q.1 q.2)
 (law:∀ us:Us,F2 (λu (q:TypeId×(TV->Prop))=>q.2 u) us ps->ER prog f us [.one (.bool true)])
 {H:Type} {enc:TypeId×Value->H} {W:World} {base:Nat} {args:Array Value} {ds gs:List (DataW H)} {Tn:List MemPlace} {fresh handsOn:Bool}
 (hval:∀ (j:Nat) t v,fn.params[j]? = some t->args[j]? = some v->Value.okWide prog W .any base t v)
 (hW:DataW.Whole enc prog fn.params.toList s.vars false W args.toList ds gs Tn)
 (hz:(DataW.weightsEach prog (fn.params.toList++s.plain.varTypes prog) (ds++gs)).all (· <= reachBytes)=true) :
 Calls prog f args W λe W'=>∃ v,e=.returned v/\s.post enc prog fn false fresh handsOn false W args v W':=by
 have hW':=hW;obtain ⟨p,q,hA0,hV,rfl,hfz,hnd⟩:=hW;have hA:DataW.TrodAll enc prog W 0 (λ_=>true) true fn.params.toList args.toList ds p:=hA0;rw [hv] at hV;obtain ⟨rfl,rfl⟩:=trodVars_none hV;have hlt:=hW'.lt;rw [hp] at hA hval hz;have hA:DataW.TrodAll enc prog W 0 (λ_=>true) true (ps.map (·.1)) args.toList ds p:=by simpa using hA
 obtain ⟨us,r1,r2,r3⟩:=hQ (base:=base) hA (λj t v h h'=>hval j t v (by simpa using h) (by simpa using h')) (λj t d h h'=>by
  rw [Jt] at hz ⊢;intro k hk;have hj:j<(ps.map (·.1)).length:=(Qf.1 h).1;have hj2:j<ds.length:=(Qf.1 h').1;exact hz k (DataW.weights_mem_each (j:=j) (by rw [Zm (by simpa using hj)]; simpa using h) (by rw [Zm hj2]; exact h') k hk)) hrd
 have hcall:=(law us r1).2 (fr0 W) (λ_=>none) (λ_=>False) W args.toList (EH W) r2;have ea:args.toList.toArray=args:=by simp
 rw [ea] at hcall;refine hcall.mono λe W' ⟨v,u,Bo,E',M',he,⟨hu,hBo⟩,_,hm,har⟩=>?_
 subst hu;obtain rfl:v=.bool true:=by
  have h:LRep _ _ v (.bool true):=har;cases h;rfl
 refine ⟨_,he,?_⟩;refine ⟨ds,[],_,[],p,[],hW',?_,?_,?_,Qnt hm _,λh=>by cases h⟩
 ·rw [hr,Zw,hs H ds r3];exact trodAll_cons_mk (shut_bool underlying4 true) trodAll_mk0
 ·rw [hp,Zw,hs H ds r3];have hb:∀ x∈p,x.block<W.heap.size:=λx hx=>hlt x (by simp [hx])
  have:=rP (sp':=λb=>decide (b<W.heap.size)) hlaid hA hrec (λx hx=>Qo7 hm (hb x hx)) λx hx=>by simpa using hb x hx
  simpa using this
 ·rw [hv,Zw,hs H ds r3];rfl
abbrev Qrr (u:TV):Prop:=∃ n:Int,(-9223372036854775808<=n/\n<=9223372036854775807)/\u=.oi n
abbrev Qv6 (u:TV):Prop:=∃ zs:List RawPt,(∀ z∈zs,z.Ok)/\u=.one (.row (iW zs))
abbrev Qqc (u:TV):Prop:=∃ zs:Uk,(∀ z∈zs,-9223372036854775808≤z/\z≤9223372036854775807)/\u=.one (.row (idl zs))
theorem qG:NX 3 Qrr:=λ{H enc W base v d p} hv h _=>by
 obtain ⟨n,rfl,rfl,rfl,w1⟩:=open_int underlying3 hv h;exact ⟨_,⟨n,by simpa [Lit.wf,IntKind.min,IntKind.max,IntKind.signed,IntKind.bits] using w1,rfl⟩,show XRep W (λ_=>False) (λ_=>none) (.int .i64 n) (.int .i64 n) from (LRep.int .i64 n).x⟩
theorem qH {α:Type} {rw_:α->Up} {Ok:α->Prop} {t e sz:Nat} (hu:prog.underlying t=some (.slice e)) (hc:prog.cellsOf e=sz) (hsz:0<sz) (hb:1<=prog.bytesOf e) (hw:∀ z,(rw_ z).length=sz)
 (elem:∀ {H:Type} {enc:TypeId×Value->H} {w:World} fuel cs x,DataW.trod enc prog w 0 (λ_=>true) true fuel e cs=some x->(x.1.weights prog e).all (· ≤ reachBytes)=true->∃ z,Ok z/\Els w cs (rw_ z)):NX t λu=>∃ l:List α,(∀ z∈l,Ok z)/\u=.one (.row (l.map rw_)):=λ{H enc W base v d p} hv h hz=>by
 obtain ⟨a,len,cap,rfl⟩:=okWide_slice hu hv;obtain ⟨fu,h⟩:=h;obtain ⟨v,l,e0,hok,_,hrep⟩:=FS hu hc hsz hb hw (λfuel cs x h h'=>elem fuel cs x h h') h hz;have f0:Value.slice a len cap=v:=(List.cons.inj (show [Value.slice a len cap]=[v] from e0)).1;subst f0;exact ⟨_,⟨l,hok,rfl⟩,show XRep W (λ_=>False) (λ_=>none) _ (.row (l.map rw_)) from hrep.x⟩
theorem Qb4:NX 22 Qv6:=qH (sz:=5) (Ok:=RawPt.Ok) (rw_:=rwq) underlying22 (by kernel_rfl) (by decide) (of_decide_eq_true (by kernel_rfl)) (λ_=>rfl) λfuel cs x=>nJ fuel cs x
theorem nP:NX 23 Qqc:=qH (sz:=1) (Ok:=λz:Int=>-9223372036854775808<=z/\z<=9223372036854775807) (rw_:=λz:Int=>[LV.int .i64 z]) underlying23 (by kernel_rfl) (by decide) (of_decide_eq_true (by kernel_rfl)) (λ_=>rfl) λfuel cs x=>Qg1 fuel cs x
end Orr
