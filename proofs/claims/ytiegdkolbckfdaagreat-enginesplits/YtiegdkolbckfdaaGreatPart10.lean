/- MD3 MD4 MD5 MD6 X22 SD2 H4 En2 X20 X21 En3 EnZ En4 EnO EnQ EnP EnR RawO EnA EnE W24 EnU EnV RatZ EnB EnG EnI WS24 ReadN LastN LastR LastS ArgR ArgO -/
import Derived.Test.YtiegdkolbckfdaaGreatPart09
import Derived.Test.YtiegdkolbckfdaaGreatPart00
import Derived.Test.YtiegdkolbckfdaaGreatPart08
import Derived.Test.YtiegdkolbckfdaaGreatPart07
import Derived.Deep.Slices
import Derived.ProofKit
import Derived.OpenShut
import Derived.WideKeyArgs
import Derived.SizedLaws
set_option linter.all false
namespace Orr
open Go Go.Proofs Tryz Orq
set_option maxRecDepth 10000
set_option maxHeartbeats 8000000 in
theorem AS {l:List Pt} {a:Tm} {c:Cr} {r1:Up} (hl:∀ p∈l,Sc p.c) (hn:l.length≤6) (ha:Va a):U5 prog 132 [.one (.ow 0 0),.agg (ta a)] [.blk 193 (Hq c (Uy l) r1)] [.one (.row (U6 (ES l a)))] [.blk 193 (Hq c (Uy l) (brD l a))]:=by
 have hwl:=Oy l;have cw:=sD (l:=l) (iO hl) (by omega);have hgb:=Qgn a;unfold brD ES fJ OP;obtain ⟨sg',hsg⟩:∃ s,s=Fq a:=⟨_,rfl⟩;obtain ⟨W,hW⟩:=nmE (Te l);have hWs:∀ p∈W,Sc p.c:=λp hp=>hl p (Nj (by rw [<-hW]; exact hp))
 have mR:=λ{x y z:Pt} (hx:x∈W) (hy:y∈W) (hz:z∈W)=>cI (t:=a) (hWs x hx) (hWs y hy) (hWs z hz) ha
 have mC:=λ{x y z u:Pt} (hx:x∈W) (hy:y∈W) (hz:z∈W) (hu:u∈W)=>Qlu (t:=a) (hWs x hx) (hWs y hy) (hWs z hz) (hWs u hu) ha
 rw [<-hW] at cw hwl ⊢;rw [<-hsg] at hgb mR mC ⊢;have hW6:W.length<=6:=by omega
 have hTi:=λps=>Qbf hgb ps
 have hcp:(W.map Fa).length=W.length:=by simp
 have hcp2:=Gz W;have hdr:∀ i,(Uy W).drop i=Uy (W.drop i):=λi=>by unfold Uy; rw [List.map_drop]
 have hel:∀ z∈Uy W,z.length=5:=λz hz=>by obtain ⟨p,_,rfl⟩:=Q9.1 hz; rfl
 have s7:∀ x:Ct,∀ y∈[Da x],y.length=7:=λx y hy=>by rw [Qk.1 hy]; rfl
 have s3:∀ x:P3,∀ y∈[trL x],y.length=3:=λx y hy=>by rw [Qk.1 hy]; rfl
 obtain ⟨T,hT⟩:=nmE (Ar (ZF sg' (Rm W)));obtain ⟨G,hG⟩:=nmE (I3 T (VY sg' (Oo W)));have hTI:vR T:=by rw [hT]; exact hTi _
 have hTm:Qkx T:=λk=>(hTI k).1
 have hGB:Qct G:=λk=>by rw [hG]; exact sG _ _ _ k
 rw [<-hT,<-hG];have e0:(U6 (((Lf 0 W).map (PY sg'))))=[]:=rfl;refine Fw func132 rfl ?_;refine Ua [.k cw,.o 6 120 7] rfl ?_;refine Uf (S:=Nat) 4 (λL1 i=>(42,.v (.oi i))::(6,.v (.one (.orow 2 7 none)))::L1) (λi=>[.blk 193 (Hq c (Uy l) r1),.blk 177 (ta a),.row false 120 7 (U6 ((Lf i W).map (PY sg'))),.mpb (Ar (ZF sg' (Lf i W)))]) (λi=>W.length-i) (λi=>i<=W.length) 0 (Qh _) rfl rfl λi hi=>?_
 by_cases hlt:i<W.length
 ·obtain ⟨x,hx⟩:=gxE (l:=W) (i:=i) hlt;have xm:=Qa hx;obtain ⟨V,hV⟩:=nmE (W.drop (i+1));have hVl:V.length=W.length-(i+1):=by rw [hV,Zl]
  have hVm:∀ p∈V,p∈W:=λp hp=>by rw [hV] at hp; exact Q3 hp
  have eV:(Uy W).drop (i+1)=Uy V:=by rw [hdr,<-hV]
  rw [<-DL W x i];refine go tt [.T,.x (Ry hx),.r 49 (eI (b:=((i+1:Nat):Int)) (by omega)),.i (i+1),.r 50 (UY eV)] rfl (by simp only [Uz]; (repeat' apply And.intro) <;> first | omega | exact hel) ?_;have hVr:=Gz V;refine Uf (S:=Nat) 5 (λL1 j=>(52,.v (.oi j))::(6,.v (.one (.orow 2 7 none)))::L1) (λj=>[.blk 193 (Hq c (Uy l) r1),.blk 177 (ta a),.row false 120 7 (U6 ((p3j W x i j).map (PY sg'))),.mpb (Ar (ZF sg' (p3j W x i j))),.blk 40 (Fa x)]) (λj=>V.length-j) (λj=>j<=V.length) 0 (Qh _) rfl rfl λj hj=>?_
  by_cases hltj:j<V.length
  ·obtain ⟨y,hy⟩:=gxE (l:=V) (i:=j) hltj;have ym:=hVm y (Qa hy);have hy':(W.drop (i+1))[j]? = some y:=by rw [<-hV]; exact hy
   obtain ⟨U,hU⟩:=nmE (V.drop (j+1));have hUl:U.length=V.length-(j+1):=by rw [hU,Zl]
   have hUm:∀ p∈U,p∈W:=λp hp=>by rw [hU] at hp; exact hVm p (Q3 hp)
   have hUW:U=(W.drop (i+1)).drop (j+1):=by rw [hU,hV]
   have eU:(Uy W).drop (i+j+2)=Uy U:=by rw [hdr,hU,hV,Yo]; congr 2; omega
   have hUr:=Gz U;rw [<-DO W x y i j];refine go tt [.T,.x (Ry hy),.r 61 (eI (b:=((i+j+2:Nat):Int)) (by omega)),.i (i+j+2),.r 62 (UY eU)] rfl (by simp only [Uz]; (repeat' apply And.intro) <;> first | omega | exact hel) ?_;refine Uf (S:=Nat) 6 (λL1 k=>(64,.v (.oi k))::(6,.v (.one (.orow 2 7 none)))::L1) (λk=>[.blk 193 (Hq c (Uy l) r1),.blk 177 (ta a),.row false 120 7 (U6 ((OO W x y i j k).map (PY sg'))),.mpb (Ar (ZF sg' (OO W x y i j k))),.blk 40 (Fa x),.blk 40 (Fa y)]) (λk=>U.length-k) (λk=>k<=U.length) 0 (Qh _) rfl rfl λk hk=>?_
   by_cases hltk:k<U.length
   ·obtain ⟨z,hz⟩:=gxE (l:=U) (i:=k) hltk;have zm:=hUm z (Qa hz);have hlen:=aH hW6 (k:=k) hx hy';have en:=DI (x:=x) (y:=y) (by rw [<-hUW]; exact hz);have et:=cY sg' (OO W x y i j k) (x,y,z);rw [<-en] at et;refine go tt [.T,.x (Ry hz),.k (mR xm ym zm),.s (sz:=7) (s7 _)] rfl (by simp [Uz,Pa] <;> omega) ?_;exact rd (k+1) (by omega) hltk (by rw [et,en,Yc]; simp [U6]; rfl)
   ·have e:=jI (x:=x) (k:=k) hy' (by rw [<-hUW]; omega);rw [e];refine go tt [.F] rfl (by simp [Uz] <;> omega) ?_;exact rd (j+1) (by omega) hltj rfl
  ·have e:=jA (x:=x) (j:=j) hx (by rw [<-hV]; omega);rw [e];refine go tt [.F] rfl (by simp [Uz] <;> omega) ?_;exact rd (i+1) (by omega) hlt rfl
 rw [iM (show i=W.length by omega),<-hT];have hiW:¬i<W.length:=hlt;clear hlt;obtain ⟨C3,hC3⟩:=nmE ((Rm W).map (PY sg'));have hC3l:C3.length<=20:=by rw [hC3,Q8]; exact (YM hW6).1
 rw [<-hC3];refine Ua [.F] rfl ?_;have eC:U6 C3=U6 (C3++(Eg 0 W).map (HQ sg')):=by rw [show Eg 0 W=[] from rfl,X5,Zw]
 rw [eC];refine Uf (S:=Nat) 5 (λL1 i=>(97,.v (.oi i))::(6,.v (.one (.orow 2 7 none)))::L1) (λi=>[.blk 193 (Hq c (Uy l) r1),.blk 177 (ta a),.row false 120 7 (U6 (C3++(Eg i W).map (HQ sg'))),.mpb T,.mpb (I3 T (VY sg' (Eg i W)))]) (λi=>W.length-i) (λi=>i<=W.length) 0 (Qh _) rfl rfl λi hi=>?_
 by_cases hlt:i<W.length
 ·obtain ⟨x,hx⟩:=gxE (l:=W) (i:=i) hlt;have xm:=Qa hx;obtain ⟨V,hV⟩:=nmE (W.drop (i+1));have hVl:V.length=W.length-(i+1):=by rw [hV,Zl]
  have hVm:∀ p∈V,p∈W:=λp hp=>by rw [hV] at hp; exact Q3 hp
  have eV:(Uy W).drop (i+1)=Uy V:=by rw [hdr,<-hV]
  have hVr:=Gz V;rw [<-Qh1 W x i];refine go tt [.T,.x (Ry hx),.r 104 (eI (b:=((i+1:Nat):Int)) (by omega)),.i (i+1),.r 105 (UY eV)] rfl (by simp only [Uz]; (repeat' apply And.intro) <;> first | omega | exact hel) ?_;refine Uf (S:=Nat) 6 (λL1 j=>(107,.v (.oi j))::(6,.v (.one (.orow 2 7 none)))::L1) (λj=>[.blk 193 (Hq c (Uy l) r1),.blk 177 (ta a),.row false 120 7 (U6 (C3++(p4j W x i j).map (HQ sg'))),.mpb T,.mpb (I3 T (VY sg' (p4j W x i j))),.blk 40 (Fa x)]) (λj=>V.length-j) (λj=>j<=V.length) 0 (Qh _) rfl rfl λj hj=>?_
  by_cases hltj:j<V.length
  ·obtain ⟨y,hy⟩:=gxE (l:=V) (i:=j) hltj;have ym:=hVm y (Qa hy);have hy':(W.drop (i+1))[j]? = some y:=by rw [<-hV]; exact hy
   obtain ⟨U,hU⟩:=nmE (V.drop (j+1));have hUl:U.length=V.length-(j+1):=by rw [hU,Zl]
   have hUm:∀ p∈U,p∈W:=λp hp=>by rw [hU] at hp; exact hVm p (Q3 hp)
   have hUW:U=(W.drop (i+1)).drop (j+1):=by rw [hU,hV]
   have eU:(Uy W).drop (i+j+2)=Uy U:=by rw [hdr,hU,hV,Yo]; congr 2; omega
   have hUr:=Gz U;rw [<-Qh2 W x y i j];refine go tt [.T,.x (Ry hy),.r 116 (eI (b:=((i+j+2:Nat):Int)) (by omega)),.i (i+j+2),.r 117 (UY eU)] rfl (by simp only [Uz]; (repeat' apply And.intro) <;> first | omega | exact hel) ?_;refine Uf (S:=Nat) 7 (λL1 k=>(119,.v (.oi k))::(6,.v (.one (.orow 2 7 none)))::L1) (λk=>[.blk 193 (Hq c (Uy l) r1),.blk 177 (ta a),.row false 120 7 (U6 (C3++(p4k W x y i j k).map (HQ sg'))),.mpb T,.mpb (I3 T (VY sg' (p4k W x y i j k))),.blk 40 (Fa x),.blk 40 (Fa y)]) (λk=>U.length-k) (λk=>k<=U.length) 0 (Qh _) rfl rfl λk hk=>?_
   by_cases hltk:k<U.length
   ·obtain ⟨z,hz⟩:=gxE (l:=U) (i:=k) hltk;have zm:=hUm z (Qa hz);have hz':((W.drop (i+1)).drop (j+1))[k]? = some z:=by rw [<-hUW]; exact hz
    obtain ⟨R,hR⟩:=nmE (U.drop (k+1));have hRl:R.length=U.length-(k+1):=by rw [hR,Zl]
    have hRm:∀ p∈R,p∈W:=λp hp=>by rw [hR] at hp; exact hUm p (Q3 hp)
    have hRW:R=((W.drop (i+1)).drop (j+1)).drop (k+1):=by rw [hR,hUW]
    have eR:(Uy W).drop (i+j+k+3)=Uy R:=by rw [hdr,hRW,Yo,Yo]; congr 2; omega
    have hRr:=Gz R;rw [<-Qh4 W x y z i j k];refine go tt [.T,.x (Ry hz),.r 130 (eI (b:=((i+j+k+3:Nat):Int)) (by omega)),.i (i+j+k+3),.r 131 (UY eR)] rfl (by simp only [Uz]; (repeat' apply And.intro) <;> first | omega | exact hel) ?_;refine Uf (S:=Nat) 8 (λL1 m=>(133,.v (.oi m))::(6,.v (.one (.orow 2 7 none)))::L1) (λm=>[.blk 193 (Hq c (Uy l) r1),.blk 177 (ta a),.row false 120 7 (U6 (C3++(p4m W x y z i j k m).map (HQ sg'))),.mpb T,.mpb (I3 T (VY sg' (p4m W x y z i j k m))),.blk 40 (Fa x),.blk 40 (Fa y),.blk 40 (Fa z)]) (λm=>R.length-m) (λm=>m<=R.length) 0 (Qh _) rfl rfl λm hm=>?_
    by_cases hltm:m<R.length
    ·obtain ⟨u,hu⟩:=gxE (l:=R) (i:=m) hltm;have um:=hRm u (Qa hu);have hlen:=Qof hW6 (m:=m) hx hy' hz';have en:=Qh3 (x:=x) (y:=y) (z:=z) (by rw [<-hRW]; exact hu);have et:=pA sg' T (p4m W x y z i j k m) (x,y,z,u);rw [<-en] at et;have cf:=Qsr (F:=I3 T (VY sg' (p4m W x y z i j k m))) (s:=(ON sg' x y z u).want) (n0:=x.id) (n1:=y.id) (n2:=z.id) (n3:=u.id) hTI (hgb _);refine go tt [.T,.x (Ry hu),.k (mC xm ym zm um),.s (sz:=7) (s7 _),.c [4,3] cf] rfl (by simp [Uz,Pa] <;> omega) ?_;exact rd (m+1) (by omega) hltm (by rw [et,en,Yc,<-Zb]; simp [U6]; rfl)
    ·have e:=Qoe (x:=x) (y:=y) (m:=m) hz' (by rw [<-hRW]; omega);rw [e];refine go tt [.F] rfl (by simp [Uz] <;> omega) ?_;exact rd (k+1) (by omega) hltk rfl
   ·have e:=Qod (x:=x) (k:=k) hy' (by rw [<-hUW]; omega);rw [e];refine go tt [.F] rfl (by simp [Uz] <;> omega) ?_;exact rd (j+1) (by omega) hltj rfl
  ·have e:=Qoc (x:=x) (j:=j) hx (by rw [<-hV]; omega);rw [e];refine go tt [.F] rfl (by simp [Uz] <;> omega) ?_;exact rd (i+1) (by omega) hlt rfl
 rw [Qov (show i=W.length by omega),<-hG];obtain ⟨C4,hC4⟩:=nmE (C3++(Oo W).map (HQ sg'));rw [<-hC4];refine Ua [.F] rfl ?_;refine ozM 0 13 76 3 rfl rfl ?_;have eT:([]:Up)=QE ((Lf 0 W).filter (jQ T G)):=rfl;rw [eT];refine Uf (S:=Nat) 6 (λL1 i=>(174,.v (.oi i))::L1) (λi=>[.blk 193 [.bool true,pl c.now.p,sg c.now.lo.num,mg c.now.lo.num,sg (c.now.lo.den:Int),mg (c.now.lo.den:Int),sg c.now.hi.num,mg c.now.hi.num,sg (c.now.hi.den:Int),mg (c.now.hi.den:Int),.row (Bu c.l),.int .i64 c.ev,.row (Uy l),.orow 5 3 none],.blk 177 (ta a),.row false 120 7 (U6 C4),.mpb T,.mpb G,.row false 76 3 (QE ((Lf i W).filter (jQ T G)))]) (λi=>W.length-i) (λi=>i<=W.length) 0 (Qh _) rfl rfl λi hi=>?_
 by_cases hlt:i<W.length
 ·obtain ⟨x,hx⟩:=gxE (l:=W) (i:=i) hlt;obtain ⟨V,hV⟩:=nmE (W.drop (i+1));have hVl:V.length=W.length-(i+1):=by rw [hV,Zl]
  have eV:(Uy W).drop (i+1)=Uy V:=by rw [hdr,<-hV]
  have hVr:=Gz V;rw [<-DL W x i];refine go tt [.T,.x (Ry hx),.r 181 (eI (b:=((i+1:Nat):Int)) (by omega)),.i (i+1),.r 182 (UY eV)] rfl (by simp only [Uz]; (repeat' apply And.intro) <;> first | omega | exact hel) ?_;refine Uf (S:=Nat) 7 (λL1 j=>(184,.v (.oi j))::L1) (λj=>[.blk 193 [.bool true,pl c.now.p,sg c.now.lo.num,mg c.now.lo.num,sg (c.now.lo.den:Int),mg (c.now.lo.den:Int),sg c.now.hi.num,mg c.now.hi.num,sg (c.now.hi.den:Int),mg (c.now.hi.den:Int),.row (Bu c.l),.int .i64 c.ev,.row (Uy l),.orow 5 3 none],.blk 177 (ta a),.row false 120 7 (U6 C4),.mpb T,.mpb G,.row false 76 3 (QE ((p3j W x i j).filter (jQ T G))),.blk 40 (Fa x)]) (λj=>V.length-j) (λj=>j<=V.length) 0 (Qh _) rfl rfl λj hj=>?_
  by_cases hltj:j<V.length
  ·obtain ⟨y,hy⟩:=gxE (l:=V) (i:=j) hltj;have hy':(W.drop (i+1))[j]? = some y:=by rw [<-hV]; exact hy
   obtain ⟨U,hU⟩:=nmE (V.drop (j+1));have hUl:U.length=V.length-(j+1):=by rw [hU,Zl]
   have hUW:U=(W.drop (i+1)).drop (j+1):=by rw [hU,hV]
   have eU:(Uy W).drop (i+j+2)=Uy U:=by rw [hdr,hU,hV,Yo]; congr 2; omega
   have hUr:=Gz U;rw [<-DO W x y i j];refine go tt [.T,.x (Ry hy),.r 193 (eI (b:=((i+j+2:Nat):Int)) (by omega)),.i (i+j+2),.r 194 (UY eU)] rfl (by simp only [Uz]; (repeat' apply And.intro) <;> first | omega | exact hel) ?_;refine Uf (S:=Nat) 8 (λL1 k=>(196,.v (.oi k))::L1) (λk=>[.blk 193 [.bool true,pl c.now.p,sg c.now.lo.num,mg c.now.lo.num,sg (c.now.lo.den:Int),mg (c.now.lo.den:Int),sg c.now.hi.num,mg c.now.hi.num,sg (c.now.hi.den:Int),mg (c.now.hi.den:Int),.row (Bu c.l),.int .i64 c.ev,.row (Uy l),.orow 5 3 none],.blk 177 (ta a),.row false 120 7 (U6 C4),.mpb T,.mpb G,.row false 76 3 (QE ((OO W x y i j k).filter (jQ T G))),.blk 40 (Fa x),.blk 40 (Fa y)]) (λk=>U.length-k) (λk=>k<=U.length) 0 (Qh _) rfl rfl λk hk=>?_
   by_cases hltk:k<U.length
   ·obtain ⟨z,hz⟩:=gxE (l:=U) (i:=k) hltk;have hlen:=aH hW6 (k:=k) hx hy';have en:=DI (x:=x) (y:=y) (by rw [<-hUW]; exact hz);have hfl:=Yy (jQ T G) (OO W x y i j k);have htl:=rI ((OO W x y i j k).filter (jQ T G));by_cases h1:ZW T [x.id,y.id,z.id]≠0
    ·by_cases h2:NN G [x.id,y.id,z.id]=true
     ·have ef:jQ T G (x,y,z)=false:=by unfold jQ mK; simp [h2]
      have eF:=Qf8 (ps:=OO W x y i j k) ef;rw [<-en] at eF;refine go tt [.T,.x (Ry hz),.g 211 true (decide_eq_true h1),.f (by rw [h2]; rfl)] rfl (by simp only [Uz]; (repeat' apply And.intro) <;> first | exact hTm | exact hGB | omega | (simp only [Q7,X4]; omega)) ?_;exact rd (k+1) (by omega) hltk (by rw [eF]; rfl)
     ·have h2:NN G [x.id,y.id,z.id]=false:=by simpa using h2
      have ef:jQ T G (x,y,z)=true:=by unfold jQ mK; simp [h2,h1]
      have eF:=Qtn (ps:=OO W x y i j k) ef;rw [<-en] at eF;refine go tt [.T,.x (Ry hz),.g 211 true (decide_eq_true h1),.t (by rw [h2]; rfl),.s (sz:=3) (s3 (x,y,z))] rfl (by simp only [Uz]; (repeat' apply And.intro) <;> first | exact hTm | exact hGB | omega | (simp only [Q7,X4]; omega)) ?_;exact rd (k+1) (by omega) hltk (by rw [eF]; simp [QE]; rfl)
    ·have ef:jQ T G (x,y,z)=false:=by unfold jQ mK; simp [h1]
     have eF:=Qf8 (ps:=OO W x y i j k) ef;rw [<-en] at eF;refine go tt [.T,.x (Ry hz),.g 211 false (decide_eq_false h1),.f rfl] rfl (by simp only [Uz]; (repeat' apply And.intro) <;> first | exact hTm | exact hGB | omega | (simp only [Q7,X4]; omega)) ?_;exact rd (k+1) (by omega) hltk (by rw [eF]; rfl)
   ·have e:=jI (x:=x) (k:=k) hy' (by rw [<-hUW]; omega);rw [e];refine go tt [.F] rfl (by simp [Uz] <;> omega) ?_;exact rd (j+1) (by omega) hltj rfl
  ·have e:=jA (x:=x) (j:=j) hx (by rw [<-hV]; omega);rw [e];refine go tt [.F] rfl (by simp [Uz] <;> omega) ?_;exact rd (i+1) (by omega) hlt rfl
 rw [iM (show i=W.length by omega)];rw [hC4,hC3];exact Ue [2,5] [0] [.F] rfl
theorem Qwd {T:Nat} {t:Rat} {Bc:Tm->List Ct} {Br:Tm->Up} {r0:Up} (ht:Qs 1640000 t) (hB:BuildOk Bc)
 (hb:∀ a c r1,Va a->CrOk c->U5 prog 132 [.one (.ow 0 0),.agg (ta a)] [.blk T (Hq c r0 r1)] [.one (.row (U6 (Bc a)))] [.blk T (Hq c r0 (Br a))])
 {K:Nat} {c c':Cr} {r1 r1':Up} {n:Int} (hc:CrOk c) (hev:0<=c.ev/\c.ev+K<=1000000000000000000) (h:Fj c.now t<=0) (hg:KU Bc Br t K c r1 0=some (c',r1',n)) :
 U5 prog 365 [.one (.ow 0 0),.agg (rl t),.one (.ofn 132 [.ow 0 0] [])] [.blk T (Hq c r0 r1)] [.oi n,.oi 0] [.blk T (Hq c' r0 r1')]:=by
 have qt:Qb t:=ht.mono (by decide);have c1:=C6 hc.n.tb qt;refine Fw func365 rfl ?_;refine Ua [.c [0] (O6 hc.n),.k c1,.f (by simpa using h)] rfl ?_;refine Uf (S:=Nat×Cr×Up×Int) 2 (λL1 s=>(8,.v (.oi s.2.2.2))::L1) (λs=>[.blk T (Hq s.2.1 r0 s.2.2.1),.blk 42 (rl t)]) (λs=>s.1) (λs=>CrOk s.2.1/\(0<=s.2.1.ev/\s.2.1.ev+s.1<=1000000000000000000)/\(0<=s.2.2.2/\s.2.2.2+s.1<=1000000000000000000)/\KU Bc Br t s.1 s.2.1 s.2.2.1 s.2.2.2=some (c',r1',n)) (K,c,r1,0) ⟨hc,hev,⟨Int.le_refl 0,by dsimp only; omega⟩,hg⟩ rfl rfl λ⟨k,x,r,m⟩ ⟨j1,j2,j3,j4⟩=>?_
 dsimp only at j1 j2 j3 j4 ⊢;cases k with
 | zero=>cases j4
 |
  succ k =>
  simp only [KU] at j4;obtain ⟨ws,w1,j4⟩:=Qd.1 j4;obtain ⟨o,o1,j4⟩:=Qd.1 j4;have cn:=PP (T:=T) (r0:=r0) (r1:=r) j1 w1 o1;have ca:=VF (U3 t.num) (U3 (t.den:Int)) (Qc ht.1 (by decide)) (Qc ht.2 (by decide)) (by rw [Ss]; exact ht.mono (by decide));rw [Ss] at ca;cases o with
  |
   none =>
   injection j4 with j4; injection j4 with e1 j4; injection j4 with e2 e3;subst e1; subst e2; subst e3;exact Ue [] [0] [.c [0] cn,.g 25 true rfl,.t rfl,.k ca] rfl
  |
   some a =>
   have ha:=DC j1 w1 o1;dsimp only at j4;have cc:=C6 ha.tb qt;by_cases h0:0<Fj a t
   ·rw [if_pos h0] at j4;injection j4 with j4; injection j4 with e1 j4; injection j4 with e2 e3;subst e1; subst e2; subst e3;exact Ue [] [0] [.c [0] cn,.g 25 false rfl,.k cc,.t (by simpa using h0),.k ca] rfl
   ·rw [if_neg h0] at j4;obtain ⟨w2,l1,j4⟩:=Qd.1 j4;have j1':=Ec j1 w1;have cl:=Sw (b:=a) (l:=[]) ha.tb (λt ht=>by cases ht) (by decide) rfl;have cb:=hb a { x with l:=ws } r ha j1';have cy:=WB (T:=T) (r0:=r0) (r1:=Br a) j1' ha (hB.p a ha) (hB.n a ha) l1;have hf:decide (0<Fj a t)=false:=by simpa using h0
    refine Ub [.c [0] cn,.g 25 false rfl,.k cc,.f hf,.k cl,.c [0] cb,.c [0] cy] rfl ?_;exact rd (k,⟨a,w2,x.ev+1⟩,Br a,m+1) (by dsimp only; omega) ⟨lay_ok _ j1' ha (hB.p a ha) (hB.n a ha) l1,by dsimp only; omega,by dsimp only; omega,j4⟩ rfl
theorem Qr5 {t:Rat} {l:List Pt} {K:Nat} {c c':Cr} {r1 r1':Up} {n:Int} (ht:Qs 1640000 t) (hl:∀ p∈l,Sc p.c) (hn:l.length≤6) (hc:CrOk c) (hev:0≤c.ev/\c.ev+K≤1000000000000000000) (h:Fj c.now t≤0) (hg:KU (ES l) (brD l) t K c r1 0=some (c',r1',n)) :
 U5 prog 402 [.one (.ow 0 0),.agg (rl t)] [.blk 193 (Hq c (Uy l) r1)] [.oi n,.oi 0] [.blk 193 (Hq c' (Uy l) r1')]:=by
 have cg:=Qwd (T:=193) (r0:=Uy l) ht (sQ hl hn) (λa c r1 ha _=>AS (c:=c) (r1:=r1) hl hn ha) hc hev h hg;refine Fw func402 rfl ?_;exact Ue [] [0] [.k (Nk (ht.mono (by decide))),.c [0] cg] rfl
theorem sS {c:Cr} {r0:Up} {ts:List P3} (ht:ts.length<=1000):U5 prog 67 [.one (.ow 0 0)] [.blk 193 (Hq c r0 (QE ts))] [.one (.row (QE ts))] [.blk 193 (Hq c r0 (QE ts))]:=by
 have hl:=rI ts;have h3:∀ y∈QE ts,y.length=3:=λy hy=>by obtain ⟨m,_,rfl⟩:=Q9.1 hy; rfl
 refine Fw func67 rfl ?_;exact Ue [1] [0] [.s (sz:=3) h3] rfl (by simp [Uz] <;> omega)

theorem Qdh {c:Cr} {l l':List Pt} {r1:Up} {ws:List Wt} (hc:CrOk c) (hl:∀ p∈l',Sc p.c) (hn:l'.length≤6) (h:P6 c.l c.now (Fp (ES l' c.now))=some ws) :
 U5 prog 406 [.one (.ow 0 0),.agg [pts l'],.oi 0] [.blk 193 (Hq c (Uy l) r1)] [.oi 0] [.blk 193 (Hq ⟨c.now,ws,c.ev⟩ (Uy l') (brD l' c.now))]:=by
 have hB:=sQ hl hn;have cn:=O6 (T:=193) (c:=c) (r0:=Uy l') (r1:=r1) hc.n;have cb:=AS (c:=c) (r1:=r1) hl hn hc.n;have cg:=JD (T:=193) (r0:=Uy l') (r1:=brD l' c.now) hc hc.n (Iu hc.n) (J9 0) (hB.p _ hc.n) (hB.n _ hc.n) h;refine Fw func406 rfl ?_;exact Ue [] [0] [.f rfl,.c [0] cn,.c [0] cb,.c [0] cg] rfl
theorem Qlo {lx ly:Up} {px py:Uj} {x y:LV} {d id:Int} {c:Cr} {l:List Pt} {r1:Up} {ws:List Wt} (hx:IsInts lx px) (hy:IsInts ly py) (hd:Gv x y d) (hk:Cs 4294967294 1073741824 (Crv.mk px py d)) (hll:l.length<=900)
 (he:KA l ⟨Crv.norm (Crv.mk px py d),id⟩=0) (hc:CrOk c) (hl:∀ p∈put l ⟨Crv.norm (Crv.mk px py d),id⟩,Sc p.c) (hn:(put l ⟨Crv.norm (Crv.mk px py d),id⟩).length≤6) (h:P6 c.l c.now (Fp (ES (put l ⟨Crv.norm (Crv.mk px py d),id⟩) c.now))=some ws) :
 U5 prog 404 [.one (.ow 0 0),.agg [.row lx,.row ly,x,y,.int .i64 id]] [.blk 193 (Hq c (Uy l) r1)] [.oi 0] [.blk 193 (Hq ⟨c.now,ws,c.ev⟩ (Uy (put l ⟨Crv.norm (Crv.mk px py d),id⟩)) (brD (put l ⟨Crv.norm (Crv.mk px py d),id⟩) c.now))]:=by
 have cp:=kV (l:=l) (id:=id) hx hy hd hk (by omega);rw [if_pos he,he] at cp;have cw:=Qdh (l:=l) (r1:=r1) hc hl hn h;refine Fw func404 rfl ?_;obtain ⟨b,l',rfl,rfl,_⟩:=hd;exact Ue [] [0] [.k cp,.c [0] cw] rfl
theorem oC {c:Cr} {r0:Up} {r1:Up}:U5 prog 45 [.one (.ow 0 0)] [.blk 193 (Hq c r0 r1)] [.one (.ow 1 0)] [.blk 193 (Hq c r0 r1),.blk 193 (Hq c r0 r1)]:=by
 refine Fw func45 rfl ?_;exact Ue [] [0,1] [] rfl

theorem Qwe {T:Nat} {t:Rat} {Bc:Tm->List Ct} {Br:Tm->Up} {r0:Up} (ht:Qs 1640000 t) (hB:BuildOk Bc)
 (hb:∀ a c r1,Va a->CrOk c->U5 prog 130 [.one (.ow 0 0),.agg (ta a)] [.blk T (Hq c r0 r1)] [.one (.row (U6 (Bc a)))] [.blk T (Hq c r0 (Br a))])
 {K:Nat} {c c':Cr} {r1 r1':Up} {n:Int} (hc:CrOk c) (hev:0<=c.ev/\c.ev+K<=1000000000000000000) (h:Fj c.now t<=0) (hg:KU Bc Br t K c r1 0=some (c',r1',n)) :
 U5 prog 365 [.one (.ow 0 0),.agg (rl t),.one (.ofn 130 [.ow 0 0] [])] [.blk T (Hq c r0 r1)] [.oi n,.oi 0] [.blk T (Hq c' r0 r1')]:=by
 have qt:Qb t:=ht.mono (by decide);have c1:=C6 hc.n.tb qt;refine Fw func365 rfl ?_;refine Ua [.c [0] (O6 hc.n),.k c1,.f (by simpa using h)] rfl ?_;refine Uf (S:=Nat×Cr×Up×Int) 2 (λL1 s=>(8,.v (.oi s.2.2.2))::L1) (λs=>[.blk T (Hq s.2.1 r0 s.2.2.1),.blk 42 (rl t)]) (λs=>s.1) (λs=>CrOk s.2.1/\(0<=s.2.1.ev/\s.2.1.ev+s.1<=1000000000000000000)/\(0<=s.2.2.2/\s.2.2.2+s.1<=1000000000000000000)/\KU Bc Br t s.1 s.2.1 s.2.2.1 s.2.2.2=some (c',r1',n)) (K,c,r1,0) ⟨hc,hev,⟨Int.le_refl 0,by dsimp only; omega⟩,hg⟩ rfl rfl λ⟨k,x,r,m⟩ ⟨j1,j2,j3,j4⟩=>?_
 dsimp only at j1 j2 j3 j4 ⊢;cases k with
 | zero=>cases j4
 |
  succ k =>
  simp only [KU] at j4;obtain ⟨ws,w1,j4⟩:=Qd.1 j4;obtain ⟨o,o1,j4⟩:=Qd.1 j4;have cn:=PP (T:=T) (r0:=r0) (r1:=r) j1 w1 o1;have ca:=VF (U3 t.num) (U3 (t.den:Int)) (Qc ht.1 (by decide)) (Qc ht.2 (by decide)) (by rw [Ss]; exact ht.mono (by decide));rw [Ss] at ca;cases o with
  |
   none =>
   injection j4 with j4; injection j4 with e1 j4; injection j4 with e2 e3;subst e1; subst e2; subst e3;exact Ue [] [0] [.c [0] cn,.g 25 true rfl,.t rfl,.k ca] rfl
  |
   some a =>
   have ha:=DC j1 w1 o1;dsimp only at j4;have cc:=C6 ha.tb qt;by_cases h0:0<Fj a t
   ·rw [if_pos h0] at j4;injection j4 with j4; injection j4 with e1 j4; injection j4 with e2 e3;subst e1; subst e2; subst e3;exact Ue [] [0] [.c [0] cn,.g 25 false rfl,.k cc,.t (by simpa using h0),.k ca] rfl
   ·rw [if_neg h0] at j4;obtain ⟨w2,l1,j4⟩:=Qd.1 j4;have j1':=Ec j1 w1;have cl:=Sw (b:=a) (l:=[]) ha.tb (λt ht=>by cases ht) (by decide) rfl;have cb:=hb a { x with l:=ws } r ha j1';have cy:=WB (T:=T) (r0:=r0) (r1:=Br a) j1' ha (hB.p a ha) (hB.n a ha) l1;have hf:decide (0<Fj a t)=false:=by simpa using h0
    refine Ub [.c [0] cn,.g 25 false rfl,.k cc,.f hf,.k cl,.c [0] cb,.c [0] cy] rfl ?_;exact rd (k,⟨a,w2,x.ev+1⟩,Br a,m+1) (by dsimp only; omega) ⟨lay_ok _ j1' ha (hB.p a ha) (hB.n a ha) l1,by dsimp only; omega,by dsimp only; omega,j4⟩ rfl
def Qv8 (l:List Pt) (a:Tm):Cr:=⟨a,(Fp (TS l a)).map fresh,0⟩
theorem Qr7 {t:Rat} {l:List Pt} {K:Nat} {c c':Cr} {r1 r1':Up} {n:Int} (ht:Qs 1640000 t) (hl:∀ p∈l,Sc p.c) (hn:l.length≤10) (hc:CrOk c) (hev:0≤c.ev/\c.ev+K≤1000000000000000000) (h:Fj c.now t≤0) (hg:KU (TS l) (brH l) t K c r1 0=some (c',r1',n)) :
 U5 prog 392 [.one (.ow 0 0),.agg (rl t)] [.blk 189 (Hq c (Uy l) r1)] [.oi n,.oi 0] [.blk 189 (Hq c' (Uy l) r1')]:=by
 have cg:=Qwe (T:=189) (r0:=Uy l) ht (sZ hl hn) (λa c r1 ha _=>AP (c:=c) (r1:=r1) hl hn ha) hc hev h hg;refine Fw func392 rfl ?_;exact Ue [] [0] [.k (Nk (ht.mono (by decide))),.c [0] cg] rfl
theorem Qr8 {c:Cr} {l s:List Pt} (hs:s.length<=1000000):U5 prog 66 [.one (.ow 0 0)] [.blk 189 (Hq c (Uy l) (Uy s))] [.one (ids (s.map (·.id)))] [.blk 189 (Hq c (Uy l) (Uy s))]:=by
 have hcl:=Gz s;refine Fw func66 rfl ?_;refine Ua [.o 3 3 1] rfl ?_;refine Uf (S:=Nat) 2 (λL1 i=>(11,.v (.oi i))::(3,.v (.one (.orow 1 1 none)))::L1) (λi=>[.blk 189 (Hq c (Uy l) (Uy s)),.row false 3 1 (((s.take i).map (·.id)).map λ(z:Int)=>[LV.int .i64 z])]) (λi=>s.length-i) (λi=>i<=s.length) 0 (Qh _) rfl rfl λi hi=>?_
 by_cases hlt:i<s.length
 ·obtain ⟨p,hp⟩:=gxE (l:=s) (i:=i) hlt;have hg:(((s.take (i+1)).map (·.id)).map λ(z:Int)=>[LV.int .i64 z])=(((s.take i).map (·.id)).map λ(z:Int)=>[LV.int .i64 z])++[[.int .i64 p.id]]:=by
   rw [Zv,hp]; simp
  refine Ub [.t (by simp [hcl]; omega),.x (So hp),.s (sz:=1) (l:=[[.int .i64 p.id]]) (λc hc=>by rw [Qk.1 hc]; rfl)] rfl ?_;exact rd (i+1) (by omega) hlt (by rw [hg]; rfl)
 ·obtain rfl:i=s.length:=by omega
  rw [Q5];exact Ue [1] [0] [.f (by simp [hcl])] rfl
abbrev GF (k:Nat) (np nd:Int) (M:List Pt) (q:Rat) (s t h p d:Cr):Uq:=[.blk 89 (lK k q),tB np nd M,bS s M q,bT t M q,bH h M q,bP p M q,bD d M q]
abbrev Qy2 (k:Nat):Uo:=[.oif 83 (k+2) 0,.oif 84 (k+3) 0,.oif 85 (k+4) 0,.oif 86 (k+5) 0,.oif 87 (k+6) 0]
theorem dV {np nd:Int} {Mt M:List Pt} {q:Rat} {s t h p d:Cr}:U5 prog 56 [.one (.ow 0 0)] [.blk 89 (lK 0 q),tB np nd Mt,bS s M q,bT t M q,bH h M q,bP p M q,bD d M q] [.agg (Qy2 0)] [.blk 89 (lK 0 q),tB np nd Mt,bS s M q,bT t M q,bH h M q,bP p M q,bD d M q]:=by
 refine Fw func56 rfl ?_;exact Ue [] [0,1,2,3,4,5,6] [] rfl
abbrev sel (k i:Nat) (a b:OB):OB:=match Nat.blt k i with
 | true=>b
 | false=>a
theorem Qdo {np nd id:Int} {M M':List Pt} {q:Rat} {s t h p d s' t' h' p' d':Cr} {lx ly l3:Up} {bn:Bool} {e1 e2 e3 e4 e5:Int}
 (ht:U5 prog 92 [.one (.ow 0 0),.agg [.row lx,.row ly,.bool bn,.row l3,.int .i64 id]] [tB np nd M] [.oi 0] [tB np nd M'])
 (h1:U5 prog 362 [.one (.ow 0 0),.agg [.row lx,.row ly,.bool bn,.row l3,.int .i64 id]] [bS s M q] [.oi e1] [bS s' M' q])
 (h2:U5 prog 389 [.one (.ow 0 0),.agg [.row lx,.row ly,.bool bn,.row l3,.int .i64 id]] [bT t M q] [.oi e2] [bT t' M' q])
 (h3:U5 prog 394 [.one (.ow 0 0),.agg [.row lx,.row ly,.bool bn,.row l3,.int .i64 id]] [bH h M q] [.oi e3] [bH h' M' q])
 (h4:U5 prog 399 [.one (.ow 0 0),.agg [.row lx,.row ly,.bool bn,.row l3,.int .i64 id]] [bP p M q] [.oi e4] [bP p' M' q])
 (h5:U5 prog 404 [.one (.ow 0 0),.agg [.row lx,.row ly,.bool bn,.row l3,.int .i64 id]] [bD d M q] [.oi e5] [bD d' M' q]) :
 U5 prog 48 [.one (.ow 0 0),.oi id,.agg [.row lx,.row ly,.bool bn,.row l3]] (GF 0 np nd M q s t h p d) [.oi 0] (GF 0 np nd M' q s' t' h' p' d'):=by
 refine Fw func48 rfl ?_;refine Ua [.c [1] ht,.f rfl,.c Us dV] rfl ?_;refine Uf (S:=Nat) 9 (λL1 i=>(25,.v (.oi i))::L1) (λi=>[.blk 89 (lK 0 q),tB np nd M',sel 0 i (bS s M q) (bS s' M' q),sel 1 i (bT t M q) (bT t' M' q),sel 2 i (bH h M q) (bH h' M' q),sel 3 i (bP p M q) (bP p' M' q),sel 4 i (bD d M q) (bD d' M' q),.blk 38 [.row lx,.row ly,.bool bn,.row l3],.blk 40 [.row lx,.row ly,.bool bn,.row l3,.int .i64 id]]) (λi=>5-i) (λi=>i<=5) 0 (by decide) rfl rfl λi hi=>?_
 rcases (show i=0\/i=1\/i=2\/i=3\/i=4\/i=5 by omega) with rfl | rfl | rfl | rfl | rfl | rfl
 ·exact go tt [.t rfl,.i 0,.c [2] h1] rfl (by simp [Uz]) (rd 1 (by omega) (by omega) rfl)
 ·exact go tt [.t rfl,.i 1,.c [3] h2] rfl (by simp [Uz]) (rd 2 (by omega) (by omega) rfl)
 ·exact go tt [.t rfl,.i 2,.c [4] h3] rfl (by simp [Uz]) (rd 3 (by omega) (by omega) rfl)
 ·exact go tt [.t rfl,.i 3,.c [5] h4] rfl (by simp [Uz]) (rd 4 (by omega) (by omega) rfl)
 ·exact go tt [.t rfl,.i 4,.c [6] h5] rfl (by simp [Uz]) (rd 5 (by omega) (by omega) rfl)
 ·exact Ue [] [0,1,2,3,4,5,6] [.f rfl] rfl
theorem Qaa {np nd id:Int} {M:List Pt} {q:Rat} {s t h p d:Cr} {lx ly l3:Up} {bn:Bool} {e:Int} (he:e≠0)
 (ht:U5 prog 92 [.one (.ow 0 0),.agg [.row lx,.row ly,.bool bn,.row l3,.int .i64 id]] [tB np nd M] [.oi e] [tB np nd M]) :
 U5 prog 48 [.one (.ow 0 0),.oi id,.agg [.row lx,.row ly,.bool bn,.row l3]] (GF 0 np nd M q s t h p d) [.oi e] (GF 0 np nd M q s t h p d):=by
 refine Fw func48 rfl ?_;exact Ue [] [0,1,2,3,4,5,6] [.c [1] ht,.t (by simpa using he)] rfl
theorem oN {np nd:Int} {M:List Pt} {q r:Rat} {s t h p d s' t' h' p' d':Cr} {x0 x1 x2 x3:LV} {a b n1 n2 n3 n4 n5:Int} (ha:Gv x0 x1 a) (hb:Gv x2 x3 b) (sa:Fe a<=4294967295) (sb:Fe b<=4294967295) (hr:Gw a b=r) (hs:Qs 128 r) (hq:Qs 128 q) (hqr:q<=r)
 (h1:U5 prog 358 [.one (.ow 0 0),.agg (rl r)] [bS s M q] [.oi n1,.oi 0] [bS s' M r])
 (h2:U5 prog 387 [.one (.ow 0 0),.agg (rl r)] [bT t M q] [.oi n2,.oi 0] [bT t' M r])
 (h3:U5 prog 392 [.one (.ow 0 0),.agg (rl r)] [bH h M q] [.oi n3,.oi 0] [bH h' M r])
 (h4:U5 prog 397 [.one (.ow 0 0),.agg (rl r)] [bP p M q] [.oi n4,.oi 0] [bP p' M r])
 (h5:U5 prog 402 [.one (.ow 0 0),.agg (rl r)] [bD d M q] [.oi n5,.oi 0] [bD d' M r]) :
 U5 prog 20 [.one (.ow 0 0),.agg [x0,x1,x2,x3]] (GF 0 np nd M q s t h p d) [.oi 0] (GF 0 np nd M r s' t' h' p' d'):=by
 have cm:=BK ha hb sa sb;rw [hr] at cm;obtain ⟨b1,r1,rfl,rfl,_⟩:=ha;obtain ⟨b2,r2,rfl,rfl,_⟩:=hb;have cc:=B5 (a:=r) (b:=q) (hs.mono (by decide)) (hq.mono (by decide));have l1:=RZ.2 hs.1;have l2:(Fy r.den).length<=4:=by simpa using RZ.2 hs.2
 have hc:¬Ha r q<0:=λh=>absurd (Nl.1 h) (Ki.2 hqr)
 refine Fw func20 rfl ?_;refine Ua [.k cm,.f (by simp [lml]; omega),.f (by simp [lml]; omega),.k cc,.f (by simpa using hc),.c Us dV] rfl ?_;refine Uf (S:=Nat) 8 (λL1 i=>(32,.v (.oi i))::L1) (λi=>[.blk 89 (lK 0 q),tB np nd M,sel 0 i (bS s M q) (bS s' M r),sel 1 i (bT t M q) (bT t' M r),sel 2 i (bH h M q) (bH h' M r),sel 3 i (bP p M q) (bP p' M r),sel 4 i (bD d M q) (bD d' M r),.blk 42 (rl r)]) (λi=>5-i) (λi=>i<=5) 0 (by decide) rfl rfl λi hi=>?_
 rcases (show i=0\/i=1\/i=2\/i=3\/i=4\/i=5 by omega) with rfl | rfl | rfl | rfl | rfl | rfl
 ·exact go tt [.t rfl,.i 0,.c [2] h1] rfl (by simp [Uz]) (rd 1 (by omega) (by omega) rfl)
 ·exact go tt [.t rfl,.i 1,.c [3] h2] rfl (by simp [Uz]) (rd 2 (by omega) (by omega) rfl)
 ·exact go tt [.t rfl,.i 2,.c [4] h3] rfl (by simp [Uz]) (rd 3 (by omega) (by omega) rfl)
 ·exact go tt [.t rfl,.i 3,.c [5] h4] rfl (by simp [Uz]) (rd 4 (by omega) (by omega) rfl)
 ·exact go tt [.t rfl,.i 4,.c [6] h5] rfl (by simp [Uz]) (rd 5 (by omega) (by omega) rfl)
 ·exact Ue [] [0,1,2,3,4,5,6] [.f rfl] rfl
theorem zN {np nd:Int} {M:List Pt} {q r:Rat} {s t h p d:Cr} {x0 x1 x2 x3:LV} {a b:Int} (ha:Gv x0 x1 a) (hb:Gv x2 x3 b) (sa:Fe a<=4294967295) (sb:Fe b<=4294967295) (hr:Gw a b=r) (hs:¬Qs 128 r) :
 U5 prog 20 [.one (.ow 0 0),.agg [x0,x1,x2,x3]] (GF 0 np nd M q s t h p d) [.oi 1] (GF 0 np nd M q s t h p d):=by
 have cm:=BK ha hb sa sb;rw [hr] at cm;obtain ⟨b1,r1,rfl,rfl,_⟩:=ha;obtain ⟨b2,r2,rfl,rfl,_⟩:=hb;refine Fw func20 rfl ?_;by_cases h1:Fe r.num<=128
 ·have h2:¬Fe (r.den:Int)<=128:=λh=>hs ⟨h1,h⟩
  have l1:=RZ.2 h1;have l2:=mt RZ.1 h2;exact Ue [] [0,1,2,3,4,5,6] [.k cm,.f (by simp [lml]; omega),.t (by simp [lml] at l2 ⊢; omega)] rfl
 ·have l1:=mt RZ.1 h1;exact Ue [] [0,1,2,3,4,5,6] [.k cm,.t (by simp [lml]; omega),.t rfl] rfl
theorem ED {np nd:Int} {M:List Pt} {q r:Rat} {s t h p d:Cr} {x0 x1 x2 x3:LV} {a b:Int} (ha:Gv x0 x1 a) (hb:Gv x2 x3 b) (sa:Fe a<=4294967295) (sb:Fe b<=4294967295) (hr:Gw a b=r) (hs:Qs 128 r) (hq:Qs 128 q) (hqr:r<q) :
 U5 prog 20 [.one (.ow 0 0),.agg [x0,x1,x2,x3]] (GF 0 np nd M q s t h p d) [.oi 8] (GF 0 np nd M q s t h p d):=by
 have cm:=BK ha hb sa sb;rw [hr] at cm;obtain ⟨b1,r1,rfl,rfl,_⟩:=ha;obtain ⟨b2,r2,rfl,rfl,_⟩:=hb;have cc:=B5 (a:=r) (b:=q) (hs.mono (by decide)) (hq.mono (by decide));have l1:=RZ.2 hs.1;have l2:(Fy r.den).length<=4:=by simpa using RZ.2 hs.2
 have hc:Ha r q<0:=Nl.2 hqr;refine Fw func20 rfl ?_;exact Ue [] [0,1,2,3,4,5,6] [.k cm,.f (by simp [lml]; omega),.f (by simp [lml]; omega),.k cc,.t (by simpa using hc)] rfl
theorem Qdm {c:Cr} {l l':List Pt} {r1:Up} {ws:List Wt} (hc:CrOk c) (hl:∀ p∈l',Sc p.c) (hn:l'.length≤10) (h:P6 c.l c.now (Fp (TS l' c.now))=some ws) :
 U5 prog 396 [.one (.ow 0 0),.agg [pts l'],.oi 0] [.blk 189 (Hq c (Uy l) r1)] [.oi 0] [.blk 189 (Hq ⟨c.now,ws,c.ev⟩ (Uy l') (brH l' c.now))]:=by
 have hB:=sZ hl hn;have cn:=O6 (T:=189) (c:=c) (r0:=Uy l') (r1:=r1) hc.n;have cb:=AP (c:=c) (r1:=r1) hl hn hc.n;have cg:=JD (T:=189) (r0:=Uy l') (r1:=brH l' c.now) hc hc.n (Iu hc.n) (J9 0) (hB.p _ hc.n) (hB.n _ hc.n) h;refine Fw func396 rfl ?_;exact Ue [] [0] [.f rfl,.c [0] cn,.c [0] cb,.c [0] cg] rfl
theorem Qlr {lx ly:Up} {px py:Uj} {x y:LV} {d id:Int} {c:Cr} {l:List Pt} {r1:Up} {ws:List Wt} (hx:IsInts lx px) (hy:IsInts ly py) (hd:Gv x y d) (hk:Cs 4294967294 1073741824 (Crv.mk px py d)) (hll:l.length<=900)
 (he:KA l ⟨Crv.norm (Crv.mk px py d),id⟩=0) (hc:CrOk c) (hl:∀ p∈put l ⟨Crv.norm (Crv.mk px py d),id⟩,Sc p.c) (hn:(put l ⟨Crv.norm (Crv.mk px py d),id⟩).length≤10) (h:P6 c.l c.now (Fp (TS (put l ⟨Crv.norm (Crv.mk px py d),id⟩) c.now))=some ws) :
 U5 prog 394 [.one (.ow 0 0),.agg [.row lx,.row ly,x,y,.int .i64 id]] [.blk 189 (Hq c (Uy l) r1)] [.oi 0] [.blk 189 (Hq ⟨c.now,ws,c.ev⟩ (Uy (put l ⟨Crv.norm (Crv.mk px py d),id⟩)) (brH (put l ⟨Crv.norm (Crv.mk px py d),id⟩) c.now))]:=by
 have cp:=kV (l:=l) (id:=id) hx hy hd hk (by omega);rw [if_pos he,he] at cp;have cw:=Qdm (l:=l) (r1:=r1) hc hl hn h;refine Fw func394 rfl ?_;obtain ⟨b,l',rfl,rfl,_⟩:=hd;exact Ue [] [0] [.k cp,.c [0] cw] rfl
theorem oO {c:Cr} {r0:Up} {r1:Up}:U5 prog 43 [.one (.ow 0 0)] [.blk 189 (Hq c r0 r1)] [.one (.ow 1 0)] [.blk 189 (Hq c r0 r1),.blk 189 (Hq c r0 r1)]:=by
 refine Fw func43 rfl ?_;exact Ue [] [0,1] [] rfl
theorem Qdy {c:Cr} {l l':List Pt} {r1:Up} {ws:List Wt} (hc:CrOk c) (hl:∀ p∈l',Sc p.c) (hn:l'.length≤10) (h:P6 c.l c.now (Fp (zP l' c.now))=some ws) :
 U5 prog 401 [.one (.ow 0 0),.agg [pts l'],.oi 0] [.blk 191 (Hq c (Uy l) r1)] [.oi 0] [.blk 191 (Hq ⟨c.now,ws,c.ev⟩ (Uy l') (brP l' c.now))]:=by
 have hB:=Qc8 hl hn;have cn:=O6 (T:=191) (c:=c) (r0:=Uy l') (r1:=r1) hc.n;have cb:=AM (c:=c) (r1:=r1) hl hn hc.n;have cg:=JD (T:=191) (r0:=Uy l') (r1:=brP l' c.now) hc hc.n (Iu hc.n) (J9 0) (hB.p _ hc.n) (hB.n _ hc.n) h;refine Fw func401 rfl ?_;exact Ue [] [0] [.f rfl,.c [0] cn,.c [0] cb,.c [0] cg] rfl
theorem Qlz {lx ly:Up} {px py:Uj} {x y:LV} {d id:Int} {c:Cr} {l:List Pt} {r1:Up} {ws:List Wt} (hx:IsInts lx px) (hy:IsInts ly py) (hd:Gv x y d) (hk:Cs 4294967294 1073741824 (Crv.mk px py d)) (hll:l.length<=900)
 (he:KA l ⟨Crv.norm (Crv.mk px py d),id⟩=0) (hc:CrOk c) (hl:∀ p∈put l ⟨Crv.norm (Crv.mk px py d),id⟩,Sc p.c) (hn:(put l ⟨Crv.norm (Crv.mk px py d),id⟩).length≤10) (h:P6 c.l c.now (Fp (zP (put l ⟨Crv.norm (Crv.mk px py d),id⟩) c.now))=some ws) :
 U5 prog 399 [.one (.ow 0 0),.agg [.row lx,.row ly,x,y,.int .i64 id]] [.blk 191 (Hq c (Uy l) r1)] [.oi 0] [.blk 191 (Hq ⟨c.now,ws,c.ev⟩ (Uy (put l ⟨Crv.norm (Crv.mk px py d),id⟩)) (brP (put l ⟨Crv.norm (Crv.mk px py d),id⟩) c.now))]:=by
 have cp:=kV (l:=l) (id:=id) hx hy hd hk (by omega);rw [if_pos he,he] at cp;have cw:=Qdy (l:=l) (r1:=r1) hc hl hn h;refine Fw func399 rfl ?_;obtain ⟨b,l',rfl,rfl,_⟩:=hd;exact Ue [] [0] [.k cp,.c [0] cw] rfl
theorem Qac {c:Cr} {r0:Up} {r1:Up}:U5 prog 44 [.one (.ow 0 0)] [.blk 191 (Hq c r0 r1)] [.one (.ow 1 0)] [.blk 191 (Hq c r0 r1),.blk 191 (Hq c r0 r1)]:=by
 refine Fw func44 rfl ?_;exact Ue [] [0,1] [] rfl
theorem Qlm {np nd:Int} {M:List Pt} {q:Rat} {s t h p d:Cr} (hq:Qs 128 q):U5 prog 29 [.one (.ow 0 0)] (GF 0 np nd M q s t h p d) [.agg (rl q)] (GF 0 np nd M q s t h p d):=by
 refine Fw func29 rfl ?_;exact Ue [] [0,1,2,3,4,5,6] [.k (Nk (hq.mono (by decide)))] rfl
abbrev en2 (np nd:Int) (M:List Pt) (q:Rat) (s t h p d:Cr) (np' nd':Int) (M':List Pt) (q':Rat) (s' t' h' p' d':Cr):Uq:=[.blk 89 (lK 0 q),tB np nd M,bS s M q,bT t M q,bH h M q,bP p M q,bD d M q,.blk 89 (lK 7 q'),tB np' nd' M',bS s' M' q',bT t' M' q',bH h' M' q',bP p' M' q',bD d' M' q']
theorem zB {np nd:Int} {M:List Pt} {q:Rat} {s t h p d:Cr} (hq:Qs 128 q):U5 prog 10 [.one (.ow 0 0)] (GF 0 np nd M q s t h p d) [.one (.ow 7 0)] (en2 np nd M q s t h p d np nd M q s t h p d):=by
 refine Fw func10 rfl ?_;exact Ue [] [0,1,2,3,4,5,6,13,7,8,9,10,11,12] [.lo,.c [1,7] Qe4,.lo,.c Us (Qlm hq),.lo,.c [2,8] Qd4,.lo,.c [3,9] Qai,.lo,.c [4,10] oO,.lo,.c [5,11] Qac,.lo,.c [6,12] oC] rfl
abbrev anw (S W H P:List Pt) (T:List P3):Uo:=[ids (S.map (·.id)),ids (W.map (·.id)),ids (H.map (·.id)),ids (P.map (·.id)),.row (QE T)]
theorem Qmd {np nd:Int} {M S W H P:List Pt} {T:List P3} {r2:Up} {q:Rat} {s t h p d:Cr} (hS:S.length<=1000000) (hH:H.length<=1000000) (hT:T.length<=1000) (hW:W=[]\/∃ w,W=[w]) (hP:P=[]\/∃ a b,P=[a,b]) :
 U5 prog 26 [.one (.ow 0 0)] [.blk 89 (lK 0 q),tB np nd M,.blk 184 (Hq s (Uy M) (Uy S)),.blk 187 (Tl t (Uy M) (W.map Fa,r2)),.blk 189 (Hq h (Uy M) (Uy H)),.blk 191 (Hq p (Uy M) (Uy P)),.blk 193 (Hq d (Uy M) (QE T))]
  [.agg (anw S W H P T)] [.blk 89 (lK 0 q),tB np nd M,.blk 184 (Hq s (Uy M) (Uy S)),.blk 187 (Tl t (Uy M) (W.map Fa,r2)),.blk 189 (Hq h (Uy M) (Uy H)),.blk 191 (Hq p (Uy M) (Uy P)),.blk 193 (Hq d (Uy M) (QE T))]:=by
 have c1:=Qsj (c:=s) (l:=M) hS;have c2:=Qr8 (c:=h) (l:=M) hH;have c3:=sS (c:=d) (r0:=Uy M) hT;rcases hW with rfl | ⟨w,rfl⟩
 ·have c4:=Qed (c:=t) (r0:=Uy M) (r2:=r2);rcases hP with rfl | ⟨a,b,rfl⟩
  ·have c5:=kY (c:=p) (r0:=Uy M);refine Fw func26 rfl ?_;exact Ue [] [0,1,2,3,4,5,6] [.c [2] c1,.c [4] c2,.c [6] c3,.c [3] c4,.f rfl,.c [5] c5,.f rfl] rfl
  ·have c5:=dZ (c:=p) (r0:=Uy M) (a:=a) (b:=b);refine Fw func26 rfl ?_;exact Ue [] [0,1,2,3,4,5,6] [.c [2] c1,.c [4] c2,.c [6] c3,.c [3] c4,.f rfl,.c [5] c5,.t rfl] rfl
 ·have c4:=Qmg (c:=t) (r0:=Uy M) (r2:=r2) (w:=w);rcases hP with rfl | ⟨a,b,rfl⟩
  ·have c5:=kY (c:=p) (r0:=Uy M);refine Fw func26 rfl ?_;exact Ue [] [0,1,2,3,4,5,6] [.c [2] c1,.c [4] c2,.c [6] c3,.c [3] c4,.t rfl,.c [5] c5,.f rfl] rfl
  ·have c5:=dZ (c:=p) (r0:=Uy M) (a:=a) (b:=b);refine Fw func26 rfl ?_;exact Ue [] [0,1,2,3,4,5,6] [.c [2] c1,.c [4] c2,.c [6] c3,.c [3] c4,.t rfl,.c [5] c5,.t rfl] rfl
abbrev tD (M:List Pt) (q:Rat):Uo:=anw (Tq (tq q) M) (Nx (Fq (tq q)) M).1 (S7 M (tq q)) (ZJ (Fq (tq q)) M) (OP (Fq (tq q)) M)
theorem oQ (sg:Uj->Int) (M:List Pt):(Nx sg M).1=[]\/∃ w,(Nx sg M).1=[w]:=by
 by_cases h:0<M.length
 ·obtain ⟨a,ha,_⟩:=Nb sg M.length M (Ql _) h;exact .inr ⟨a,ha⟩
 ·obtain rfl:=Qj (by omega:M.length=0);exact .inl rfl
theorem fU (sg:Uj->Int) (M:List Pt):ZJ sg M=[]\/∃ a b,ZJ sg M=[a,b]:=by
 match M with
 | []=>exact .inl rfl
 | [_]=>exact .inl rfl
 | _::_::_=>exact .inr ⟨_,_,rfl⟩
theorem BQ {np nd:Int} {M:List Pt} {q:Rat} {s t h p d:Cr} (hM:M.length<=6):U5 prog 26 [.one (.ow 0 0)] (GF 0 np nd M q s t h p d) [.agg (tD M q)] (GF 0 np nd M q s t h p d) :=
 Qmd (by rw [Ng]; omega) (by have:=JI M (tq q); omega) (by have:=OM (Fq (tq q)) hM; omega) (oQ _ _) (fU _ _)
theorem Qad {np nd:Int} {M:List Pt} {q r:Rat} {s t h p d s' t' h' p' d':Cr} {b1 b2:Bool} {r1 r2:Up} (hq:Qs 128 q) (hM:M.length<=6)
 (ha:U5 prog 20 [.one (.ow 0 0),.agg [.bool b1,.row r1,.bool b2,.row r2]] (GF 0 np nd M q s t h p d) [.oi 0] (GF 0 np nd M r s' t' h' p' d')) :
 U5 prog 23 [.one (.ow 0 0),.agg [.bool b1,.row r1,.bool b2,.row r2]] (GF 0 np nd M q s t h p d) [.agg (tD M r),.oi 0] (GF 0 np nd M q s t h p d):=by
 refine Fw func23 rfl ?_;exact Ue [] [0,1,2,3,4,5,6] [.c Uv (zB hq),.c Uu ha,.f rfl,.c Uu (BQ hM)] rfl
abbrev Qrr:Uo:=[.row [],.row [],.row [],.row [],.row []]
theorem Qd1 {np nd:Int} {M:List Pt} {q:Rat} {s t h p d:Cr} {b1 b2:Bool} {r1 r2:Up} {e:Int} (he:e≠0) (hq:Qs 128 q)
 (ha:U5 prog 20 [.one (.ow 0 0),.agg [.bool b1,.row r1,.bool b2,.row r2]] (GF 0 np nd M q s t h p d) [.oi e] (GF 0 np nd M q s t h p d)) :
 U5 prog 23 [.one (.ow 0 0),.agg [.bool b1,.row r1,.bool b2,.row r2]] (GF 0 np nd M q s t h p d) [.agg Qrr,.oi e] (GF 0 np nd M q s t h p d):=by
 refine Fw func23 rfl ?_;exact Ue [] [0,1,2,3,4,5,6] [.c Uv (zB hq),.c Uu ha,.t (by simpa using he)] rfl
abbrev Qja (k i:Nat) (e:Int):LV:=match Nat.blt k i with
 | true=>.int .i64 e
 | false=>.int .i64 0
theorem vO {np nd:Int} {M:List Pt} {q:Rat} {s t h p d:Cr}:U5 prog 13 [.one (.ow 0 0)] (GF 0 np nd M q s t h p d) [.agg [.int .i64 s.ev,.int .i64 t.ev,.int .i64 h.ev,.int .i64 p.ev,.int .i64 d.ev]] (GF 0 np nd M q s t h p d):=by
 refine Fw func13 rfl ?_;refine Ua [.c Us dV] rfl ?_;refine Uf (S:=Nat) 9 (λL1 i=>(8,.v (.oi i))::L1) (λi=>[.blk 89 (lK 0 q),tB np nd M,bS s M q,bT t M q,bH h M q,bP p M q,bD d M q,.blk 46 [.int .i64 0,.int .i64 0,.int .i64 0,.int .i64 0,.int .i64 0],.blk 46 [Qja 0 i s.ev,Qja 1 i t.ev,Qja 2 i h.ev,Qja 3 i p.ev,Qja 4 i d.ev]]) (λi=>5-i) (λi=>i<=5) 0 (by decide) rfl rfl λi hi=>?_
 rcases (show i=0\/i=1\/i=2\/i=3\/i=4\/i=5 by omega) with rfl | rfl | rfl | rfl | rfl | rfl
 ·exact go tt [.t rfl,.i 0,.c [2] JL,.i 0] rfl (by simp [Uz]) (rd 1 (by omega) (by omega) rfl)
 ·exact go tt [.t rfl,.i 1,.c [3] Qah,.i 1] rfl (by simp [Uz]) (rd 2 (by omega) (by omega) rfl)
 ·exact go tt [.t rfl,.i 2,.c [4] JL,.i 2] rfl (by simp [Uz]) (rd 3 (by omega) (by omega) rfl)
 ·exact go tt [.t rfl,.i 3,.c [5] JL,.i 3] rfl (by simp [Uz]) (rd 4 (by omega) (by omega) rfl)
 ·exact go tt [.t rfl,.i 4,.c [6] JL,.i 4] rfl (by simp [Uz]) (rd 5 (by omega) (by omega) rfl)
 ·exact Ue [] [0,1,2,3,4,5,6] [.f rfl] rfl
abbrev Ih (l:List Wt):List Ct:=Fp (l.map (·.c))
def TN (s t h p d:Cr):Nat->Up
 | 0=>[]
 | 1=>[]++U6 (Ih s.l)
 | 2=>[]++U6 (Ih s.l)++U6 (Ih t.l)
 | 3=>[]++U6 (Ih s.l)++U6 (Ih t.l)++U6 (Ih h.l)
 | 4=>[]++U6 (Ih s.l)++U6 (Ih t.l)++U6 (Ih h.l)++U6 (Ih p.l)
 | _=>[]++U6 (Ih s.l)++U6 (Ih t.l)++U6 (Ih h.l)++U6 (Ih p.l)++U6 (Ih d.l)
theorem Qll {np nd:Int} {M:List Pt} {q:Rat} {s t h p d:Cr} (hs:CrOk s) (ht:CrOk t) (hh:CrOk h) (hp:CrOk p) (hd:CrOk d):U5 prog 15 [.one (.ow 0 0)] (GF 0 np nd M q s t h p d) [.one (.row (U6 (Ih s.l++Ih t.l++Ih h.l++Ih p.l++Ih d.l)))] (GF 0 np nd M q s t h p d):=by
 have e:U6 (Ih s.l++Ih t.l++Ih h.l++Ih p.l++Ih d.l)=TN s t h p d 5:=by simp [U6,TN]
 rw [e];have ln:∀ {c:Cr},CrOk c->(U6 (Ih c.l)).length<=1000:=λ{c} hc=>by rw [Pa,Mn,Q8]; exact hc.k
 have l1:=ln hs;have l2:=ln ht;have l3:=ln hh;have l4:=ln hp;have l5:=ln hd;have k1:(U6 (Fp (s.l.map (·.c)))).length<=1000:=ln hs;have k2:(U6 (Fp (t.l.map (·.c)))).length<=1000:=ln ht;have k3:(U6 (Fp (h.l.map (·.c)))).length<=1000:=ln hh;have k4:(U6 (Fp (p.l.map (·.c)))).length<=1000:=ln hp;have k5:(U6 (Fp (d.l.map (·.c)))).length<=1000:=ln hd;have m1:(TN s t h p d 1).length<=1000:=by show ([]++U6 (Ih s.l)).length<=_; simp only [Qy,X4]; omega
 have m2:(TN s t h p d 2).length<=2000:=by show ([]++U6 (Ih s.l)++U6 (Ih t.l)).length<=_; simp only [Qy,X4]; omega
 have m3:(TN s t h p d 3).length<=3000:=by show ([]++U6 (Ih s.l)++U6 (Ih t.l)++U6 (Ih h.l)).length<=_; simp only [Qy,X4]; omega
 have m4:(TN s t h p d 4).length<=4000:=by show ([]++U6 (Ih s.l)++U6 (Ih t.l)++U6 (Ih h.l)++U6 (Ih p.l)).length<=_; simp only [Qy,X4]; omega
 have m0:(TN s t h p d 0).length=0:=rfl;refine Fw func15 rfl ?_;refine Ua [.o 3 120 7,.c Us dV] rfl ?_;refine Uf (S:=Nat) 8 (λL1 i=>(8,.v (.oi i))::(3,.v (.one (.orow 7 7 none)))::L1) (λi=>[.blk 89 (lK 0 q),tB np nd M,bS s M q,bT t M q,bH h M q,bP p M q,bD d M q,.row false 120 7 (TN s t h p d i)]) (λi=>5-i) (λi=>i<=5) 0 (by decide) rfl rfl λi hi=>?_
 rcases (show i=0\/i=1\/i=2\/i=3\/i=4\/i=5 by omega) with rfl | rfl | rfl | rfl | rfl | rfl
 ·exact go tt [.t rfl,.i 0,.c [2] (WN hs),.s (Ix _)] rfl (by simp only [Uz]; omega) (rd 1 (by omega) (by omega) rfl)
 ·exact go tt [.t rfl,.i 1,.c [3] (Qea ht),.s (Ix _)] rfl (by simp only [Uz]; omega) (rd 2 (by omega) (by omega) rfl)
 ·exact go tt [.t rfl,.i 2,.c [4] (WN hh),.s (Ix _)] rfl (by simp only [Uz]; omega) (rd 3 (by omega) (by omega) rfl)
 ·exact go tt [.t rfl,.i 3,.c [5] (WN hp),.s (Ix _)] rfl (by simp only [Uz]; omega) (rd 4 (by omega) (by omega) rfl)
 ·exact go tt [.t rfl,.i 4,.c [6] (WN hd),.s (Ix _)] rfl (by simp only [Uz]; omega) (rd 5 (by omega) (by omega) rfl)
 ·exact Ue [7] [0,1,2,3,4,5,6] [.f rfl] rfl
theorem Qp8:∀ p∈([]:List Pt),Sc p.c:=λ_ h=>by cases h
theorem Qkm:∀ x∈([]:List Ct),Cp x.p:=λ_ h=>by cases h
theorem tU:Ug 125 [.one (.row [])] [.agg [.row []],.oi 0]:=by
 refine Fw func125 rfl ?_;refine Ua [.f rfl] rfl ?_;refine nlb 1 rfl rfl rfl ?_;refine Uf (S:=Unit) 2 (λL1 _=>(14,.v (.oi 0))::L1) (λ_=>[.blk 182 [.nils],.blk 182 [.row []]]) (λ_=>0) (λ_=>True) () trivial rfl rfl λ_ _=>?_
 exact Uc [.f rfl] rfl
abbrev zT (r0 r1 r2:LV):OB:=.blk 187 [.bool false,.nils,.bool false,.nils,.bool false,.nils,.bool false,.nils,.bool false,.nils,.nils,.int .i64 0,r0,r1,r2]
theorem Qp6 {a:Tm}:U5 prog 162 [.one (.ow 0 0),.agg (ta a),.one (.row [])] [zT (.row []) .nils (.orow 1 10 none),.row false 256 10 []] [.one (.row [])] [zT (.row []) .nils (.orow 1 10 none),.row false 256 10 []]:=by
 refine Fw func162 rfl ?_;exact Ue [] [0,1] [.t rfl] rfl
theorem Qkk {a:Tm}:U5 prog 129 [.one (.ow 0 0),.agg (ta a)] [zT (.row []) .nils .nils] [.one (.row [])] [zT (.row []) (.row []) (.row [])]:=by
 refine Fw func129 rfl ?_;refine Ua [] rfl ?_;refine oz 0 14 256 10 rfl rfl ?_;refine Ua [.k (If (l:=[])),.c [0,2] (Qp6 (a:=a)),.o 5 120 7] rfl ?_;refine Uf (S:=Unit) 4 (λL1 _=>(29,.v (.oi 0))::(5,.v (.one (.orow 3 7 none)))::L1) (λ_=>[zT (.row []) (.row []) (.orow 2 10 none),.blk 177 (ta a),.row false 256 10 [],.row false 120 7 []]) (λ_=>0) (λ_=>True) () trivial rfl rfl λ_ _=>?_
 exact Ue [2,3] [0] [.f rfl] rfl
theorem Qkl:Ug 165 [.agg [.row []]] [.one (.row [])]:=sD (l:=[]) (λ_ h=>by cases h) (by decide)
theorem Qrn {a:Tm} (ha:Va a):Ug 159 [.agg (ta a),.one (.row [])] [.one (.row [])]:=kK (l:=[]) Qp8 (by decide) ha
theorem Qki {a:Tm} (ha:Va a):U5 prog 130 [.one (.ow 0 0),.agg (ta a)] [.blk 189 (pV (.row []) .nils)] [.one (.row [])] [.blk 189 (pV (.row []) (.row []))]:=by
 have cn:Ug 164 [.agg (ta a),.one (.row [])] [.one (.row [])]:=dR (R:=[]) Qp8 (by decide) ha;have cc:U5 prog 161 [.agg (ta a),.one (.row [])] [] [.one (.orow 0 7 none)] [.row false 120 7 []]:=TP (l:=[]) Qp8 (by decide) ha;refine Fw func130 rfl ?_;exact Ue [2] [0] [.k Qkl,.k (Qrn ha),.k cn,.k (If (l:=[])),.k (Qrn ha),.c [2] cc,.t rfl] rfl
theorem Qkj {a:Tm}:U5 prog 131 [.one (.ow 0 0),.agg (ta a)] [.blk 191 (pV (.row []) .nils)] [.one (.row [])] [.blk 191 (pV (.row []) (.row []))]:=by
 refine Fw func131 rfl ?_;refine Ua [.k (If (l:=[]))] rfl ?_;refine nlc 0 13 rfl rfl rfl ?_;exact Ue [] [0] [.t rfl] rfl
theorem Qkh {a:Tm}:U5 prog 132 [.one (.ow 0 0),.agg (ta a)] [.blk 193 (pV (.row []) .nils)] [.one (.row [])] [.blk 193 (pV (.row []) (.row []))]:=by
 refine Fw func132 rfl ?_;refine Ua [.k Qkl,.o 6 120 7] rfl ?_;refine Uf (S:=Unit) 4 (λL1 _=>(42,.v (.oi 0))::(6,.v (.one (.orow 2 7 none)))::L1) (λ_=>[.blk 193 (pV (.row []) .nils),.blk 177 (ta a),.row false 120 7 [],.mpb (Ar (ZF (Fq a) []))]) (λ_=>0) (λ_=>True) () trivial rfl rfl λ_ _=>?_
 refine Ua [.f rfl] rfl ?_;refine Uf (S:=Unit) 5 (λL1 _=>(97,.v (.oi 0))::(6,.v (.one (.orow 2 7 none)))::L1) (λ_=>[.blk 193 (pV (.row []) .nils),.blk 177 (ta a),.row false 120 7 [],.mpb (Ar (ZF (Fq a) [])),.mpb (I3 (Ar (ZF (Fq a) [])) (VY (Fq a) []))]) (λ_=>0) (λ_=>True) () trivial rfl rfl λ_ _=>?_
 refine Ua [.f rfl] rfl ?_;refine ozM 0 13 76 3 rfl rfl ?_;refine Uf (S:=Unit) 6 (λL1 _=>(174,.v (.oi 0))::L1) (λ_=>[.blk 193 [.bool false,.nils,.bool false,.nils,.bool false,.nils,.bool false,.nils,.bool false,.nils,.nils,.int .i64 0,.row [],.orow 5 3 none],.blk 177 (ta a),.row false 120 7 [],.mpb (Ar (ZF (Fq a) [])),.mpb (I3 (Ar (ZF (Fq a) [])) (VY (Fq a) [])),.row false 76 3 []]) (λ_=>0) (λ_=>True) () trivial rfl rfl λ_ _=>?_
 exact Ue [2,5] [0] [.f rfl] rfl
section
variable {x y x' y':LV} {n d:Int} (h1:Gv x y n) (h2:Gv x' y' d) (bn:Fe n<=4294967295) (bd:Fe d<=4294967295) (ht:Qs 1640000 (Gw n d))
include h1 h2 bn bd ht
theorem Qp5:U5 prog 83 [.agg [x,y,x',y'],.one (.row [])] [] [.one (.ow 0 0),.oi 0] [.blk 184 (Hq ⟨tq (Gw n d),[],0⟩ [] [])]:=by
 have co:=VF h1 h2 bn bd (ht.mono (by decide));have cb:U5 prog 128 [.one (.ow 0 0),.agg (ta (tq (Gw n d)))] [.blk 184 (pV (.row []) .nils)] [.one (.row [])] [.blk 184 (pV (.row []) (.row []))]:=Qae (l:=[]) Qp8 (by decide) (GZ ht);have cg:=JC (T:=184) (r0:=[]) (r1:=[]) (GZ ht) Qkm (by decide);obtain ⟨b,l1,rfl,rfl,_⟩:=h1;obtain ⟨b',l2,rfl,rfl,_⟩:=h2;refine Fw func83 rfl ?_;exact Ue [] [2] [.k tU,.f rfl,.k co,.c [2] cb,.c [2] cg] rfl
theorem Qp7:U5 prog 84 [.agg [x,y,x',y'],.one (.row [])] [] [.one (.ow 0 0),.oi 0] [.blk 187 (Tl ⟨tq (Gw n d),[],0⟩ [] ([],[]))]:=by
 have co:=VF h1 h2 bn bd (ht.mono (by decide));have cg:=Qaf (T:=187) (r0:=[]) (r1:=([],[])) (GZ ht) Qkm (by decide);obtain ⟨b,l1,rfl,rfl,_⟩:=h1;obtain ⟨b',l2,rfl,rfl,_⟩:=h2;refine Fw func84 rfl ?_;exact Ue [] [2] [.k tU,.f rfl,.k co,.c [2] (Qkk (a:=tq (Gw n d))),.c [2] cg] rfl
theorem Qp3:U5 prog 85 [.agg [x,y,x',y'],.one (.row [])] [] [.one (.ow 0 0),.oi 0] [.blk 189 (Hq ⟨tq (Gw n d),[],0⟩ [] [])]:=by
 have co:=VF h1 h2 bn bd (ht.mono (by decide));have cg:=JC (T:=189) (r0:=[]) (r1:=[]) (GZ ht) Qkm (by decide);obtain ⟨b,l1,rfl,rfl,_⟩:=h1;obtain ⟨b',l2,rfl,rfl,_⟩:=h2;refine Fw func85 rfl ?_;exact Ue [] [2] [.k tU,.f rfl,.k co,.c [2] (Qki (GZ ht)),.c [2] cg] rfl
theorem Qp4:U5 prog 86 [.agg [x,y,x',y'],.one (.row [])] [] [.one (.ow 0 0),.oi 0] [.blk 191 (Hq ⟨tq (Gw n d),[],0⟩ [] [])]:=by
 have co:=VF h1 h2 bn bd (ht.mono (by decide));have cg:=JC (T:=191) (r0:=[]) (r1:=[]) (GZ ht) Qkm (by decide);obtain ⟨b,l1,rfl,rfl,_⟩:=h1;obtain ⟨b',l2,rfl,rfl,_⟩:=h2;refine Fw func86 rfl ?_;exact Ue [] [2] [.k tU,.f rfl,.k co,.c [2] (Qkj (a:=tq (Gw n d))),.c [2] cg] rfl
theorem Qp2:U5 prog 87 [.agg [x,y,x',y'],.one (.row [])] [] [.one (.ow 0 0),.oi 0] [.blk 193 (Hq ⟨tq (Gw n d),[],0⟩ [] [])]:=by
 have co:=VF h1 h2 bn bd (ht.mono (by decide));have cg:=JC (T:=193) (r0:=[]) (r1:=[]) (GZ ht) Qkm (by decide);obtain ⟨b,l1,rfl,rfl,_⟩:=h1;obtain ⟨b',l2,rfl,rfl,_⟩:=h2;refine Fw func87 rfl ?_;exact Ue [] [2] [.k tU,.f rfl,.k co,.c [2] (Qkh (a:=tq (Gw n d))),.c [2] cg] rfl
end
end Orr
namespace Orr
open Go Go.Proofs Tryz Orq
set_option maxRecDepth 10000
theorem Qs0 {np nd:Int} (h1:1<=np/\np<=6) (h2:0<=nd/\nd<=2):U5 prog 81 [.oi np,.oi nd] [] [.one (.ow 0 0),.oi 0] [.blk 140 [.int .i64 np,.int .i64 nd,.nils]]:=by
 refine Fw func81 rfl ?_;exact Ue [] [0] [.F,.f (by simp; omega),.f (by simp; omega),.f (by simp; omega)] rfl
theorem Qr6 {np nd:Int} (h1:1<=np/\np<=6) (h2:0<=nd/\nd<=2):U5 prog 38 [.oi np,.oi nd] [] [.one (.ow 0 0),.oi 0] (GF 0 np nd [] 0 (Qle [] (tq 0)) (Qwa [] (tq 0)) (Qv8 [] (tq 0)) (Qv9 [] (tq 0)) (Qv7 [] (tq 0))):=by
 have ez:Gw (0:Rat).num ((0:Rat).den:Int)=0:=by decide
 have hq:Qs 1640000 (Gw (0:Rat).num ((0:Rat).den:Int)):=by rw [ez]; exact ⟨by decide,by decide⟩
 have i1:=U3 (0:Rat).num;have i2:=U3 ((0:Rat).den:Int);have c1:=Qp5 i1 i2 (by decide) (by decide) hq;have c2:=Qp7 i1 i2 (by decide) (by decide) hq;have c3:=Qp3 i1 i2 (by decide) (by decide) hq;have c4:=Qp4 i1 i2 (by decide) (by decide) hq;have c5:=Qp2 i1 i2 (by decide) (by decide) hq;rw [ez] at c1 c2 c3 c4 c5;have ci:=Qsy (n:=0) (by decide);rw [show ((0:Int):Rat)=0 from rfl,D6] at ci;refine Fw func38 rfl ?_;refine Ua [.c [0] (Qs0 h1 h2),.f rfl] rfl ?_;refine nlc 0 2 rfl rfl rfl ?_;exact Ue [] [1,0,2,3,4,5,6] [.k ci,.c [2] c1,.c [3] c2,.c [4] c3,.c [5] c4,.c [6] c5] rfl
theorem WE {l:Uj} (hl:l.length<=1000000):Ug 54 [.one (ids l),.one (ids l)] [.one (.bool true)]:=by
 have hll:(l.map λ(x:Int)=>[LV.int .i64 x]).length=l.length:=by simp
 refine Fw func54 rfl ?_;refine Ua [.f (by simp)] rfl ?_;refine Uf (S:=Nat) 0 (λL1 i=>(14,.v (.oi i))::L1) (λ_=>[]) (λi=>l.length-i) (λi=>i<=l.length) 0 (Qh _) rfl rfl λi hi=>?_
 by_cases h:i<l.length
 ·have hx:=Gt (f:=λ(x:Int)=>[LV.int .i64 x]) (Qe h);refine Ub [.t (by simp; omega),.x hx,.x hx,.f (by simp)] rfl ?_;exact rd (i+1) (by omega) h rfl
 ·exact Uc [.f (by simp; omega)] rfl
theorem Qej {l:List P3} (hl:l.length<=1000000):Ug 55 [.one (.row (QE l)),.one (.row (QE l))] [.one (.bool true)]:=by
 have hll:(QE l).length=l.length:=by simp [QE]
 refine Fw func55 rfl ?_;refine Ua [.f (by simp)] rfl ?_;refine Uf (S:=Nat) 0 (λL1 i=>(14,.v (.oi i))::L1) (λ_=>[]) (λi=>l.length-i) (λi=>i<=l.length) 0 (Qh _) rfl rfl λi hi=>?_
 by_cases h:i<l.length
 ·have hx:=Gt (f:=trL) (Qe h);refine Ub [.t (by simp; omega),.x hx,.x hx,.f (by simp)] rfl ?_;exact rd (i+1) (by omega) h rfl
 ·exact Uc [.f (by simp; omega)] rfl
theorem Qlp {np nd np' nd':Int} {M:List Pt} {q:Rat} {s t h p d s' t' h' p' d':Cr} (hM:M.length≤6) (hok:∀ x∈M,oY 4294967294 1073741824 x) (hq:Qs 128 q):U5 prog 12 [.one (.ow 0 0),.one (.ow 7 0)] (en2 np nd M q s t h p d np' nd' M q s' t' h' p' d') [.one (.bool true)] (en2 np nd M q s t h p d np' nd' M q s' t' h' p' d'):=by
 have ca:=Qe3 (np:=np) (nd:=nd) hok (by omega);have ca':=Qe3 (np:=np') (nd:=nd') hok (by omega);have cc:=B5 (a:=q) (b:=q) (hq.mono (by decide)) (hq.mono (by decide));have e0:Ha q q=0:=by rcases Tw q q with ⟨e,h⟩ | ⟨e,h⟩ | ⟨e,h⟩ <;> grind
 rw [e0] at cc;have hll:(M.map Fa).length=M.length:=by simp
 have l1:(Tq (tq q) M).length<=6:=by rw [Ng]; exact hM
 have l3:=JI M (tq q);have l5:=OM (Fq (tq q)) hM;have s1:=WE (l:=(Tq (tq q) M).map (·.id)) (by rw [Q8]; omega);have s2:=WE (l:=(Nx (Fq (tq q)) M).1.map (·.id)) (by rw [Q8]; rcases oQ (Fq (tq q)) M with e | ⟨w,e⟩ <;> rw [e] <;> simp);have s3:=WE (l:=(S7 M (tq q)).map (·.id)) (by rw [Q8]; omega);have s4:=WE (l:=(ZJ (Fq (tq q)) M).map (·.id)) (by rw [Q8]; rcases fU (Fq (tq q)) M with e | ⟨a,b,e⟩ <;> rw [e] <;> simp);have s5:=Qej (l:=OP (Fq (tq q)) M) (by omega);refine Fw func12 rfl ?_;refine Ua [.lo,.c [1] ca,.lo,.c [8] ca',.k cc,.g 31 false rfl,.f (by simp)] rfl ?_;refine Uf (S:=Nat) 14 (λL1 i=>(40,.v (.oi i))::L1) (λ_=>en2 np nd M q s t h p d np' nd' M q s' t' h' p' d') (λi=>M.length-i) (λi=>i<=M.length) 0 (Qh _) rfl rfl λi hi=>?_
 by_cases h:i<M.length
 ·obtain ⟨x,hx⟩:=gxE (l:=M) (i:=i) h;have hxo:=hok x (Qa hx);have cs:=dK hxo.1 hxo.1 hxo.2 hxo.2;rw [show Lt x.c x.c=true by simp [Lt]] at cs;refine Ub [.t (by simp; omega),.x (Ry hx),.x (Ry hx),.g 53 false (by simp),.x (Ry hx),.k cs,.f rfl] rfl ?_;exact rd (i+1) (by omega) h rfl
 ·exact Ue [] [0,1,2,3,4,5,6,7,8,9,10,11,12,13] [.f (by simp; omega),.c Us (BQ hM),.c [7,8,9,10,11,12,13] (BQ hM),.k s1,.t rfl,.k s2,.t rfl,.k s3,.t rfl,.k s4,.t rfl,.k s5] rfl
def Em.ins (A:Em) (p:Pt):Em×Int:=(if Ni A.np A.nd A.M p=0 then { A with M:=put A.M p } else A,Ni A.np A.nd A.M p)
open Classical in
noncomputable def Em.adv (A:Em) (t:Rat):Em×Int:=if Qs 128 t then (if t<A.q then (A,8) else ({ A with q:=t,s:=A.s+(cnt (O2 A.M) A.q t:Nat),t:=A.t+(cnt (PT A.M) A.q t:Nat),h:=A.h+(cnt (TS A.M) A.q t:Nat),p:=A.p+(cnt (zP A.M) A.q t:Nat),d:=A.d+(cnt (ES A.M) A.q t:Nat) },0)) else (A,1)
theorem Qxr {np nd:Int} {k:Crv} (hn:JP k) (hnd:nd<=2) (h1:QD k=true) (h2:¬nd<wG k):Sc k:=by
 obtain ⟨s1,s2,s3⟩:=EZ.1 h1;unfold wG at h2;exact ⟨hn,s1,s2,s3,by omega,by omega⟩
theorem Qt8 {p:Pt} (h:RY p=true):(0<=p.id/\p.id<=1048576)/\QD p.c=true:=by
 simp only [RY,Zn,decide_eq_true_iff] at h;exact ⟨⟨h.1,h.2.1⟩,h.2.2⟩
abbrev EnD (f:Nat) (args:Ur) (E:Es) (res:Ur) (E':Es):Prop:=U5 prog f args (enB 0 E) res (enB 0 E')
theorem CX {E:Es} {b:Int} (h:EOk b E) {lx ly:Up} {px py:Uj} {x y:LV} {d id:Int} (hx:IsInts lx px) (hy:IsInts ly py) (hd:Gv x y d) (hk:Cs 4294967294 1073741824 (Crv.mk px py d)) :
 ∃ E',EOk b E'/\E'.m=(E.m.ins ⟨Crv.norm (Crv.mk px py d),id⟩).1/\EnD 48 [.one (.ow 0 0),.oi id,.agg [.row lx,.row ly,x,y]] E [.one (.int .i64 (E.m.ins ⟨Crv.norm (Crv.mk px py d),id⟩).2)] E':=by
 have hM:=h.m.m;have hl6:=hM.ln;have ct:=Qs1 (np:=E.np) (nd:=E.nd) (l:=E.M) (id:=id) hx hy hd hk (by omega);obtain ⟨p,hp⟩:=nmE (Pt.mk (Crv.norm (Crv.mk px py d)) id);have hpn:JP p.c:=by rw [hp]; exact Crv.nml _
 by_cases e:Ni E.np E.nd E.M p=0
 ·have e0:RY p=true/\has E.M p.id=false/\¬E.nd<wG p.c/\¬E.np<=(E.M.length:Int):=by
   unfold Ni at e;by_cases a1:RY p=false
   ·rw [if_pos a1] at e; cases e
   rw [if_neg a1] at e;by_cases a2:has E.M p.id=true
   ·rw [if_pos a2] at e; cases e
   rw [if_neg a2] at e;by_cases a3:E.nd<wG p.c
   ·rw [if_pos a3] at e; cases e
   rw [if_neg a3] at e;by_cases a4:E.np<=(E.M.length:Int)
   ·rw [if_pos a4] at e; cases e
   exact ⟨by simpa using a1,by simpa using a2,a3,a4⟩
  obtain ⟨f1,f2,f3,f4⟩:=e0;obtain ⟨g1,g2⟩:=Qt8 f1;have hsc:=Qxr (np:=E.np) hpn h.nd.2 g2 f3;have hpl:(put E.M p).length<=6:=by rw [iQ]; have:=h.np.2; omega
  have hM':MOk (put E.M p):=⟨λz hz=>by rcases MP hz with rfl | hz; exact hsc; exact hM.sc z hz,hpl,LC hM.so f2⟩;have hME:MEn E.np E.nd (put E.M p):=⟨hM',by rw [iQ]; have:=h.np.2; omega,λz hz=>by rcases MP hz with rfl | hz; omega; exact h.m.deg z hz,λz hz=>by rcases MP hz with rfl | hz; exact g1; exact h.m.id z hz⟩;have hpe:KA E.M p=0:=by unfold KA; rw [if_neg (by rw [f2]; decide),if_neg (by have:=h.np.2; omega)]
  rw [hp] at e hpe hM' hME hpl;rw [e,if_pos rfl] at ct;obtain ⟨w1,l1,a1⟩:=h.s.again okS hM';obtain ⟨w2,l2,a2⟩:=h.t.again okT hM';obtain ⟨w3,l3,a3⟩:=h.h.again okH hM';obtain ⟨w4,l4,a4⟩:=h.p.again okP hM';obtain ⟨w5,l5,a5⟩:=h.d.again okD hM';have c1:=Qsk (c:=E.s) (l:=E.M) (r1:=tH E.M (tq E.q)) hx hy hd hk (by omega) hpe h.s.st.inv.ok hM'.sc (by omega) l1;have c2:=Qmf (c:=E.t) (l:=E.M) (r1:=brT E.M (tq E.q)) hx hy hd hk (by omega) hpe h.t.st.inv.ok hM'.sc (by omega) l2;have c3:=Qlr (c:=E.h) (l:=E.M) (r1:=brH E.M (tq E.q)) hx hy hd hk (by omega) hpe h.h.st.inv.ok hM'.sc (by omega) l3;have c4:=Qlz (c:=E.p) (l:=E.M) (r1:=brP E.M (tq E.q)) hx hy hd hk (by omega) hpe h.p.st.inv.ok hM'.sc (by omega) l4;have c5:=Qlo (c:=E.d) (l:=E.M) (r1:=brD E.M (tq E.q)) hx hy hd hk (by omega) hpe h.d.st.inv.ok hM'.sc (by omega) l5;rw [h.s.now] at c1;rw [h.t.now] at c2;rw [h.h.now] at c3;rw [h.p.now] at c4;rw [h.d.now] at c5;obtain ⟨b1,r,rfl,rfl,_⟩:=hd;refine ⟨⟨E.np,E.nd,put E.M ⟨Crv.norm (Crv.mk px py d),id⟩,E.q,⟨tq E.q,w1,E.s.ev⟩,⟨tq E.q,w2,E.t.ev⟩,⟨tq E.q,w3,E.h.ev⟩,⟨tq E.q,w4,E.p.ev⟩,⟨tq E.q,w5,E.d.ev⟩⟩,⟨h.np,h.nd,hME,h.q,a1,a2,a3,a4,a5,h.es,h.et,h.eh,h.ep,h.ed⟩,?_,?_⟩
  ·unfold Em.ins;show _=if Ni E.np E.nd E.M _=0 then _ else _
   rw [if_pos e]; rfl
  ·have e2:(E.m.ins ⟨Crv.norm (Crv.mk px py d),id⟩).2=0:=e;rw [e2];exact Qdo ct c1 c2 c3 c4 c5
 ·rw [hp] at e;rw [if_neg e] at ct;obtain ⟨b1,r,rfl,rfl,_⟩:=hd;refine ⟨E,h,?_,Qaa e ct⟩;unfold Em.ins;show _=if Ni E.np E.nd E.M _=0 then _ else _
  rw [if_neg e]
theorem HW {E:Es} {b:Int} (h:EOk b E) (hb:b<=900000000000000000) {x0 x1 x2 x3:LV} {n m:Int} {t:Rat} (ha:Gv x0 x1 n) (hc:Gv x2 x3 m) (sa:Fe n<=4294967295) (sb:Fe m<=4294967295) (ht:Gw n m=t) :
 ∃ E',EOk (b+67000000) E'/\E'.m=(E.m.adv t).1/\((E.m.adv t).2≠0->E'=E)/\EnD 20 [.one (.ow 0 0),.agg [x0,x1,x2,x3]] E [.one (.int .i64 (E.m.adv t).2)] E':=by
 have hM:=h.m.m;have hl6:=hM.ln;by_cases hs:Qs 128 t
 ·by_cases hp:t<E.q
  ·have e2:E.m.adv t=(E.m,8):=by unfold Em.adv; rw [if_pos hs]; exact if_pos hp
   rw [e2];exact ⟨E,h.mono (by omega),rfl,λ_=>rfl,ED ha hc sa sb ht hs h.q hp⟩
  ·have hqt:E.q<=t:=Ki.1 hp;have e2:E.m.adv t=(({ E.m with q:=t,s:=E.s.ev+(cnt (O2 E.M) E.q t:Nat),t:=E.t.ev+(cnt (PT E.M) E.q t:Nat),h:=E.h.ev+(cnt (TS E.M) E.q t:Nat),p:=E.p.ev+(cnt (zP E.M) E.q t:Nat),d:=E.d.ev+(cnt (ES E.M) E.q t:Nat) }:Em),0):=by unfold Em.adv; rw [if_pos hs]; exact if_neg hp
   rw [e2];have hq:Qs 1640000 t:=hs.mono (by decide);obtain ⟨K1,d1,k1,g1,a1,v1,u1,_⟩:=h.s.adv okS hM hq hqt;obtain ⟨K2,d2,k2,g2,a2,v2,u2,_⟩:=h.t.adv okT hM hq hqt;obtain ⟨K3,d3,k3,g3,a3,v3,u3,_⟩:=h.h.adv okH hM hq hqt;obtain ⟨K4,d4,k4,g4,a4,v4,u4,_⟩:=h.p.adv okP hM hq hqt;obtain ⟨K5,d5,k5,g5,a5,v5,u5,_⟩:=h.d.adv okD hM hq hqt;have hcm:∀ {c:Cr},c.now=tq E.q->Fj c.now t<=0:=λ{c} hn=>by
    rw [hn,SL]; exact MQ.2 hqt
   have c1:=Qsi hq hM.sc (by omega) h.s.st.inv.ok (by have:=h.es; omega) (hcm h.s.now) g1;have c2:=Qme hq hM.sc (by omega) h.t.st.inv.ok (by have:=h.et; omega) (hcm h.t.now) g2;have c3:=Qr7 hq hM.sc (by omega) h.h.st.inv.ok (by have:=h.eh; omega) (hcm h.h.now) g3;have c4:=Qly hq hM.sc (by omega) h.p.st.inv.ok (by have:=h.ep; omega) (hcm h.p.now) g4;have c5:=Qr5 hq hM.sc (by omega) h.d.st.inv.ok (by have:=h.ed; omega) (hcm h.d.now) g5;refine ⟨⟨E.np,E.nd,E.M,t,d1,d2,d3,d4,d5⟩,⟨h.np,h.nd,h.m,hs,a1,a2,a3,a4,a5,?_,?_,?_,?_,?_⟩,?_,λh=>absurd rfl h,oN ha hc sa sb ht hs h.q hqt c1 c2 c3 c4 c5⟩
   ·have:=h.es; show 0<=d1.ev/\d1.ev<=_; omega
   ·have:=h.et; show 0<=d2.ev/\d2.ev<=_; omega
   ·have:=h.eh; show 0<=d3.ev/\d3.ev<=_; omega
   ·have:=h.ep; show 0<=d4.ev/\d4.ev<=_; omega
   ·have:=h.ed; show 0<=d5.ev/\d5.ev<=_; omega
   ·unfold Es.m;simp only [v1,v2,v3,v4,v5]
 ·have e2:E.m.adv t=(E.m,1):=by unfold Em.adv; exact if_neg hs
  rw [e2];exact ⟨E,h.mono (by omega),rfl,λ_=>rfl,zN ha hc sa sb ht hs⟩
noncomputable def Em.ans (A:Em) (t:Rat):Uo:=if (A.adv t).2=0 then tD A.M t else Qrr
theorem Qna {E:Es} {b:Int} (h:EOk b E) (hb:b<=900000000000000000) {x0 x1 x2 x3:LV} {n m:Int} {t:Rat} (ha:Gv x0 x1 n) (hc:Gv x2 x3 m) (sa:Fe n<=4294967295) (sb:Fe m<=4294967295) (ht:Gw n m=t) :
 EnD 23 [.one (.ow 0 0),.agg [x0,x1,x2,x3]] E [.agg (E.m.ans t),.one (.int .i64 (E.m.adv t).2)] E:=by
 obtain ⟨E',h1,h2,h3,h4⟩:=HW h hb ha hc sa sb ht;obtain ⟨b1,r1,rfl,rfl,_⟩:=ha;obtain ⟨b2,r2,rfl,rfl,_⟩:=hc;unfold Em.ans;by_cases e:(E.m.adv t).2=0
 ·rw [if_pos e];rw [e] at h4 ⊢;have hs:Qs 128 t/\¬t<E.q:=by
   unfold Em.adv at e;by_cases a:Qs 128 t
   ·rw [if_pos a] at e;by_cases a':t<E.m.q
    ·rw [if_pos a'] at e; cases e
    ·exact ⟨a,a'⟩
   ·rw [if_neg a] at e; cases e
  have e2:E.m.adv t=(({ E.m with q:=t,s:=E.s.ev+(cnt (O2 E.M) E.q t:Nat),t:=E.t.ev+(cnt (PT E.M) E.q t:Nat),h:=E.h.ev+(cnt (TS E.M) E.q t:Nat),p:=E.p.ev+(cnt (zP E.M) E.q t:Nat),d:=E.d.ev+(cnt (ES E.M) E.q t:Nat) }:Em),0):=by unfold Em.adv; rw [if_pos hs.1]; exact if_neg hs.2
  rw [e2] at h2;obtain ⟨np,nd,M,q,s,u,v,p,d⟩:=E';unfold Es.m at h2;injection h2 with i1 i2 i3 i4;dsimp only at i1 i2 i3 i4;subst i1 i2 i3 i4;exact Qad h.q h.m.m.ln h4
 ·rw [if_neg e];rw [h3 e] at h4;exact Qd1 e h.q h4
end Orr
namespace Orr
open Go Go.Proofs Tryz Orq
set_option maxRecDepth 10000
theorem vB {β:Type} {k:Knd β} {M:List Pt} {q:Rat} {c:Cr} (h:At k M q c):Ih c.l=Fp (Fp (k.bc M (tq q))):=by
 unfold Ih; rw [h.st.cs,h.now]
def AE (M:List Pt) (q:Rat):List Ct:=Fp (Fp (O2 M (tq q)))++Fp (Fp (PT M (tq q)))++Fp (Fp (TS M (tq q)))++Fp (Fp (zP M (tq q)))++Fp (Fp (ES M (tq q)))
theorem wN {E:Es} {b:Int} (h:EOk b E):EnD 15 [.one (.ow 0 0)] E [.one (.row (U6 (AE E.M E.q)))] E:=by
 have hc:=Qll (np:=E.np) (nd:=E.nd) (M:=E.M) (q:=E.q) h.s.st.inv.ok h.t.st.inv.ok h.h.st.inv.ok h.p.st.inv.ok h.d.st.inv.ok;have e:Ih E.s.l++Ih E.t.l++Ih E.h.l++Ih E.p.l++Ih E.d.l=AE E.M E.q:=by
  rw [vB h.s,vB h.t,vB h.h,vB h.p,vB h.d]; rfl
 rw [e] at hc;exact hc
theorem Qe9 {E:Es} {b:Int} (h:EOk b E):(∀ c∈AE E.M E.q,Cp c.p)/\(AE E.M E.q).length≤1000000:=by
 have hv:Va (tq E.q):=GZ (h.q.mono (by decide));have S1:=okS.st _ h.m.m;have S2:=okT.st _ h.m.m;have S3:=okH.st _ h.m.m;have S4:=okP.st _ h.m.m;have S5:=okD.st _ h.m.m;constructor
 ·intro c hc;unfold AE at hc;simp only [Qq] at hc;rcases hc with (((hc | hc) | hc) | hc) | hc
  ·exact S1.ok.p _ hv c (Rv (Rv hc))
  ·exact S2.ok.p _ hv c (Rv (Rv hc))
  ·exact S3.ok.p _ hv c (Rv (Rv hc))
  ·exact S4.ok.p _ hv c (Rv (Rv hc))
  ·exact S5.ok.p _ hv c (Rv (Rv hc))
 ·unfold AE;simp only [Qy,Mn];have:=S1.ok.n _ hv; have:=S2.ok.n _ hv; have:=S3.ok.n _ hv; have:=S4.ok.n _ hv; have:=S5.ok.n _ hv;have e1:(kS.bc E.M (tq E.q)).length=(O2 E.M (tq E.q)).length:=rfl;have e2:(kT.bc E.M (tq E.q)).length=(PT E.M (tq E.q)).length:=rfl;have e3:(kH.bc E.M (tq E.q)).length=(TS E.M (tq E.q)).length:=rfl;have e4:(kP.bc E.M (tq E.q)).length=(zP E.M (tq E.q)).length:=rfl;have e5:(kD.bc E.M (tq E.q)).length=(ES E.M (tq E.q)).length:=rfl;omega
abbrev Qti (E F:Es):Uq:=en2 E.np E.nd E.M E.q E.s E.t E.h E.p E.d F.np F.nd F.M F.q F.s F.t F.h F.p F.d
theorem Qun {E:Es} {b:Int} (h:EOk b E):∀ x∈E.M,oY 4294967294 1073741824 x:=λx hx=>by
 have:=h.m.m.sc x hx;exact ⟨this.n,this.c.mono (by decide) (by decide)⟩
theorem Qtg {E F:Es} {b:Int} (h:EOk b E) (hM:F.M=E.M) (hq:F.q=E.q):U5 prog 12 [.one (.ow 0 0),.one (.ow 7 0)] (Qti E F) [.one (.bool true)] (Qti E F):=by
 obtain ⟨np,nd,M,q,s,t,v,p,d⟩:=F;dsimp only at hM hq;subst hM hq;exact Qlp h.m.m.ln (Qun h) h.q
theorem Qm9 {E:Es} {b:Int} (h:EOk b E):U5 prog 10 [.one (.ow 0 0)] (enB 0 E) [.one (.ow 7 0)] (Qti E E):=zB h.q
abbrev Qy7 (A:Em):Uo:=[.int .i64 A.s,.int .i64 A.t,.int .i64 A.h,.int .i64 A.p,.int .i64 A.d]
theorem wB {E:Es}:EnD 13 [.one (.ow 0 0)] E [.agg (Qy7 E.m)] E:=vO
def vI (z:RawInt):Int:=Fb z.b (val z.l)
def RawInt.cutN (z:RawInt) (n:Nat):RawInt:=⟨z.b,z.l.take n⟩
theorem RawInt.Ok.cutN_ok {z:RawInt} (h:z.Ok) (n:Nat):(z.cutN n).Ok:=⟨λu hu=>h.u u (Qo hu)⟩
theorem OF {z:RawInt} (h:z.Ok):Gv (.bool z.b) (.row (lm z.l)) (vI z):=⟨z.b,z.l,rfl,rfl,h.u,rfl⟩
theorem eQ {z:RawInt} (h:z.Ok) {n:Nat} (hl:z.l.length<=n):Fe (vI z)<=32*n:=by
 have h1:=Cq z.l h.u;have e:(vI z).natAbs=val z.l:=by unfold vI Fb; split <;> simp
 refine Si.2 ?_;rw [e,Wm];exact Z6 h1 (Zr (by decide) hl)
theorem wY (z:RawInt) (n:Nat):(z.cutN n).l.length<=n:=by show (z.l.take n).length<=n; rw [Qt]; omega
theorem PC {z:RawInt} {n:Nat} (hn:n<=1000):Ug 137 [.agg (Ao z),.oi n] [.agg (Ao (z.cutN n))] :=
 Ud func137 rfl [.k (Qss (l:=z.l) hn)] rfl
theorem Qml {t u:RawInt}:Ug 91 [.agg (Ao t++Ao u),.oi 6] [.agg (Ao (t.cutN 6)++Ao (u.cutN 6))] :=
 Ud func91 rfl [.k (PC (z:=t) (n:=6) (by decide)),.k (PC (z:=u) (n:=6) (by decide))] rfl
theorem kU {l:List RawInt}:Ug 136 [.one (.row (Ic l)),.oi 4,.oi 1] [.one (.row (Ic ((l.take 4).map (·.cutN 1))))]:=by
 have hll:=Oq l;refine Fw func136 rfl (ln 0 rfl rfl λhzl=>?_);rw [hll] at hzl;refine Ua [.o 7 36 2] rfl ?_;refine Uf (S:=Nat) 1 (λL1 i=>(8,.v (.oi i))::(7,.v (.one (.orow 0 2 none)))::L1) (λi=>[.row false 36 2 (Ic ((l.take i).map (·.cutN 1)))]) (λi=>4-i) (λi=>i<=4/\i<=l.length) 0 ⟨by decide,Qh _⟩ rfl rfl λi ⟨hi,hi2⟩=>?_
 have hil:(Ic ((l.take i).map (·.cutN 1))).length=i:=by rw [Oq,Q8,Qt]; omega
 by_cases h1:i<l.length
 ·by_cases h2:i<4
  ·obtain ⟨z,hz⟩:=gxE (l:=l) (i:=i) h1;have hm:∀ y∈[Ao (z.cutN 1)],y.length=2:=λy hy=>by rw [Qk.1 hy]; rfl
   refine go tt [.g 13 true Ui,.T,.x (Gt (f:=Ao) hz),.k (PC (n:=1) (by decide)),.s (sz:=2) hm] rfl (by simp [Uz,hil,-List.map_take]; omega) ?_;exact rd (i+1) (by omega) ⟨h2,h1⟩ (by rw [Zv,hz]; simp [Ic]; rfl)
  ·have e:i=4:=by omega
   have e2:l.take 4=l.take i:=by rw [e]
   rw [e2];exact Uc [.g 13 true Ui,.F] rfl
 ·have e:l.take i=l.take 4:=by rw [Qn (by omega),Qn (by omega)]
  rw [e];exact Uc [.g 13 false Uh,.f rfl] rfl
theorem Qr4 {z:RawPt}:Ug 89 [.agg (rcw z),.oi 4,.oi 1] [.agg [.row (Ic ((z.x.take 4).map (·.cutN 1))),.row (Ic ((z.y.take 4).map (·.cutN 1))),.bool z.d.b,.row (lm (z.d.l.take 1))]] :=
 Ud func89 rfl [.k (kU (l:=z.x)),.k (kU (l:=z.y)),.k (PC (z:=z.d) (n:=1) (by decide))] rfl
theorem KG:∀ {l:List RawInt},(∀ z∈l,z.Ok)->IsInts (Ic l) (l.map vI)
 | [],_=>trivial
 | z::l,h=>⟨⟨_,_,rfl,OF (h z (Qx ..))⟩,KG λy hy=>h y (Qg _ hy)⟩
end Orr
namespace Orr
open Go
structure RawOp where
 k:Int
 n:Int
 d:Int
 p:RawPt
 t:RawInt
 u:RawInt
structure RawOp.Ok (o:RawOp):Prop where
 k:-9223372036854775808<=o.k/\o.k<=9223372036854775807
 n:-9223372036854775808<=o.n/\o.n<=9223372036854775807
 d:-9223372036854775808<=o.d/\o.d<=9223372036854775807
 p:o.p.Ok
 t:o.t.Ok
 u:o.u.Ok
abbrev rwo (o:RawOp):Uo:=[.int .i64 o.k,.int .i64 o.n,.int .i64 o.d]++rwq o.p++Ao o.t++Ao o.u
def OA (l:List RawOp):Up:=l.map rwo
theorem Qbu (l:List RawOp):(OA l).length=l.length:=by simp [OA]
theorem Qbt {l:List RawOp} {i:Nat} {o:RawOp} (h:l[i]? = some o):(OA l)[i]? = some (rwo o):=by rw [OA,Q6,h]; rfl
end Orr
namespace Orr
open Go Go.Proofs Tryz Orq
set_option maxRecDepth 10000
def I7 (N:Int):Int:=if N=2 then 999 else if N=3 then 99 else 20
theorem fV (N:Int):0<=I7 N/\I7 N<=999:=by unfold I7; split; decide; split; decide; decide
def HJ (N:Int) (z:RawPt):Crv:=if 1<N then ⟨Gi (I7 N) z.x++(if 3<z.x.length then [1] else []),Gi (I7 N) z.y,Hx 3 z.d⟩ else ⟨((z.x.take 4).map (·.cutN 1)).map vI,((z.y.take 4).map (·.cutN 1)).map vI,vI (z.d.cutN 1)⟩
theorem Qit {l:List RawInt} (h:∀ a∈l,a.Ok):∀ z∈(l.take 4).map (·.cutN 1),z.Ok:=λz hz=>by
 obtain ⟨y,hy,rfl⟩:=Q9.1 hz;exact (h y (Qo hy)).cutN_ok 1
theorem Qis {l:List RawInt} (h:∀ a∈l,a.Ok):Bd 40 (((l.take 4).map (·.cutN 1)).map vI):=λz hz=>by
 obtain ⟨y,hy,rfl⟩:=Q9.1 hz;obtain ⟨x,hx,rfl⟩:=Q9.1 hy;exact Qc (eQ ((h x (Qo hx)).cutN_ok 1) (wY x 1)) (by decide)
theorem Qmy {N:Int} {z:RawPt} (hz:z.Ok):Cs 40 4 (HJ N z):=by
 unfold HJ
 split
 ·have h:=Qav (fV N) z.x z.y z.d;refine ⟨λy hy=>?_,U0 h.y (by decide),Qc h.d (by decide),?_,Qc h.ly (by decide)⟩
  ·rcases Qq.1 hy with hy | hy
   ·exact Qc (h.x y hy) (by decide)
   ·split at hy
    ·rw [Qk.1 hy]; decide
    ·cases hy
  ·have:=h.lx;have h2:(Gi (I7 N) z.x).length<=3:=this;show (_++_:Uj).length<=4;rw [Qy]
   split <;> simp <;> omega
 ·exact ⟨Qis hz.x,Qis hz.y,Qc (eQ (hz.d.cutN_ok 1) (wY z.d 1)) (by decide),by show (List.map _ _).length<=4; rw [Q8,Q8,Qt]; omega,by show (List.map _ _).length<=4; rw [Q8,Q8,Qt]; omega⟩
def idO (o:RawOp):Int:=if Pm o.k 12<10 then Pm o.p.id 6 else o.p.id
abbrev Qwv (o:RawOp) (lx ly:Up) (bb:Bool) (l3:Up):Uo:=[.int .i64 o.k,.int .i64 o.n,.int .i64 o.d,.row lx,.row ly,.bool bb,.row l3,.int .i64 (idO o)]++Ao (o.t.cutN 6)++Ao (o.u.cutN 6)
abbrev Qh5 (ms:Uo) (N:Int):Uo:=[.ow 0 0,.sh ms,.int .i64 N]
theorem jW {most:Int} {l:List RawInt} (h:3<l.length):(Gi most l).length=3:=by unfold Gi; rw [List.length_map,List.length_take]; omega
abbrev Qq9:Uo:=[.bool false,.row [[.int .u32 1]]]
theorem mY {p:Uj}:IsInts (p.map Hh++[Qq9]) (p++[1]):=(Gs p).append ⟨⟨_,_,rfl,false,[1],rfl,rfl,(λx hx=>by rw [Qk.1 hx]; decide),rfl⟩,trivial⟩
theorem Qab {z:RawPt} (hz:z.Ok) {most:Int} (hm:0<=most/\most<=999):U5 prog 90 [.agg (rcw z),.oi most] [] [.agg [.orow 0 2 none,.row (Af (Gi most z.y)),sg (Hx 3 z.d),mg (Hx 3 z.d)]] [.row false 36 2 (Af (Gi most z.x))]:=by
 have hxl:=Oq z.x;have hyl:=Oq z.y;obtain ⟨D,hD⟩:=nmE (Hx 3 z.d);have cd:=WA hz.d (most:=3) (by decide);have hx0:∀ {i:Nat},z.x.length<=i\/3<=i->Gi most (z.x.take i)=Gi most z.x:=SX most;have hy0:∀ {i:Nat},z.y.length<=i\/3<=i->Gi most (z.y.take i)=Gi most z.y:=SX most;rw [<-hD] at cd ⊢;refine Fw func90 rfl ?_;refine Ua [.k cd] rfl ?_;refine oz2 5 0 36 2 rfl rfl ?_;refine Uf (S:=Nat) 4 (λL1 i=>(6,.v (.oi i))::L1) (λi=>[.blk 38 (rcw z),.blk 38 [.nils,.nils,.bool false,.nils],.blk 38 [.orow 3 2 none,.nils,sg D,mg D],.row false 36 2 (Af (Gi most (z.x.take i)))]) (λi=>3-i) (λi=>i<=3/\i<=z.x.length) 0 ⟨by decide,Qh _⟩ rfl rfl λi ⟨hi,hi2⟩=>?_
 have hll:=jK (most:=most) hi hi2;by_cases hr:i<z.x.length/\i<3
 ·obtain ⟨a,ha⟩:=gxE (l:=z.x) (i:=i) hr.1;have hs:∀ y∈[Hh (Hx most a)],y.length=2:=λy hy=>by rw [Qk.1 hy]; rfl
  refine go tt [.g 17 true Ui,.T,.x (Gt (f:=Ao) ha),.k (WA (hz.x a (Qa ha)) hm),.s (sz:=2) hs] rfl (by simp [Uz,hll]; omega) ?_;exact rd (i+1) (by omega) ⟨hr.2,hr.1⟩ (by rw [RJ hr.2 ha]; rfl)
 have hg1:decide ((i:Int)<((Ic z.x).length:Int))=true->i<z.x.length:=λh=>by have:=of_decide_eq_true h; omega
 rw [hx0 (by omega)];clear hll;have hfin:∀ {j:Nat},j<=3/\j<=z.y.length->¬(j<z.y.length/\j<3)->Af (Gi most (z.y.take j))=Af (Gi most z.y):=λh1 h2=>by rw [hy0 (by omega)]
 by_cases hxx:i<z.x.length
 ·refine Ua [.g 17 true Ui,.F] rfl ?_;refine oz2 5 1 36 2 rfl rfl ?_;refine Uf (S:=Nat) 5 (λL1 j=>(7,.v (.oi j))::L1) (λj=>[.blk 38 (rcw z),.blk 38 [.nils,.nils,.bool false,.nils],.blk 38 [.orow 3 2 none,.orow 4 2 none,sg D,mg D],.row false 36 2 (Af (Gi most z.x)),.row false 36 2 (Af (Gi most (z.y.take j)))]) (λj=>3-j) (λj=>j<=3/\j<=z.y.length) 0 ⟨by decide,Qh _⟩ rfl rfl λj ⟨hj,hj2⟩=>?_
  have hll:=jK (most:=most) hj hj2;by_cases hr:j<z.y.length/\j<3
  ·obtain ⟨a,ha⟩:=gxE (l:=z.y) (i:=j) hr.1;have hs:∀ y∈[Hh (Hx most a)],y.length=2:=λy hy=>by rw [Qk.1 hy]; rfl
   refine go tt [.g 40 true Ui,.T,.x (Gt (f:=Ao) ha),.k (WA (hz.y a (Qa ha)) hm),.s (sz:=2) hs] rfl (by simp [Uz,hll]; omega) ?_;exact rd (j+1) (by omega) ⟨hr.2,hr.1⟩ (by rw [RJ hr.2 ha]; rfl)
  rw [hfin ⟨hj,hj2⟩ hr];by_cases hyy:j<z.y.length
  ·exact Ue [4] [3] [.g 40 true Ui,.F] rfl
  ·exact Ue [4] [3] [.g 40 false Uh,.f rfl] rfl
 ·refine Ua [.g 17 false Uh,.f rfl] rfl ?_;refine oz2 5 1 36 2 rfl rfl ?_;refine Uf (S:=Nat) 5 (λL1 j=>(7,.v (.oi j))::L1) (λj=>[.blk 38 (rcw z),.blk 38 [.nils,.nils,.bool false,.nils],.blk 38 [.orow 3 2 none,.orow 4 2 none,sg D,mg D],.row false 36 2 (Af (Gi most z.x)),.row false 36 2 (Af (Gi most (z.y.take j)))]) (λj=>3-j) (λj=>j<=3/\j<=z.y.length) 0 ⟨by decide,Qh _⟩ rfl rfl λj ⟨hj,hj2⟩=>?_
  have hll:=jK (most:=most) hj hj2;by_cases hr:j<z.y.length/\j<3
  ·obtain ⟨a,ha⟩:=gxE (l:=z.y) (i:=j) hr.1;have hs:∀ y∈[Hh (Hx most a)],y.length=2:=λy hy=>by rw [Qk.1 hy]; rfl
   refine go tt [.g 40 true Ui,.T,.x (Gt (f:=Ao) ha),.k (WA (hz.y a (Qa ha)) hm),.s (sz:=2) hs] rfl (by simp [Uz,hll]; omega) ?_;exact rd (j+1) (by omega) ⟨hr.2,hr.1⟩ (by rw [RJ hr.2 ha]; rfl)
  rw [hfin ⟨hj,hj2⟩ hr];by_cases hyy:j<z.y.length
  ·exact Ue [4] [3] [.g 40 true Ui,.F] rfl
  ·exact Ue [4] [3] [.g 40 false Uh,.f rfl] rfl
set_option maxHeartbeats 4000000 in
theorem Qsh {E:Es} {N:Int} {o:RawOp} {ms:Uo} (hN:1<=N/\N<=4) (ho:o.Ok):∃ lx ly bb l3,IsInts lx (HJ N o.p).x/\IsInts ly (HJ N o.p).y/\Gv (.bool bb) (.row l3) (HJ N o.p).d /\
 U5 prog 46 [.agg (Qh5 ms N),.agg (rwo o)] (enB 0 E) [.agg (Qwv o lx ly bb l3)] (enB 0 E):=by
 have c4:=Qr4 (z:=o.p);have wk:=Du (v:=o.k) (n:=12) ho.k (by decide);have wi:=Du (v:=o.p.id) (n:=6) ho.p.id (by decide);have cr:=Qml (t:=o.t) (u:=o.u);have cl:=Qab ho.p (most:=I7 N) (fV N);obtain ⟨i,hi⟩:=nmE (idO o);have hln:(Ic o.p.x).length=o.p.x.length:=Oq _;unfold Qwv;rw [<-hi];by_cases h1:1<N
 ·have e1:HJ N o.p=⟨Gi (I7 N) o.p.x++(if 3<o.p.x.length then [1] else []),Gi (I7 N) o.p.y,Hx 3 o.p.d⟩:=if_pos h1;rw [e1];dsimp only;obtain ⟨X,hX⟩:=nmE (Gi (I7 N) o.p.x);obtain ⟨Y,hY⟩:=nmE (Gi (I7 N) o.p.y);obtain ⟨D,hD⟩:=nmE (Hx 3 o.p.d);have hX3:=jW (most:=I7 N) (l:=o.p.x);rw [<-hX] at hX3;rw [<-hX,<-hY,<-hD] at cl ⊢;have e3:∃ k:Nat,(k:Int)=min N 4/\[[LV.int .i64 0],[.int .i64 0],[.int .i64 999],[.int .i64 99],[.int .i64 20]][k]? = some [.int .i64 (I7 N)]:=by
   rcases (show N=2\/N=3\/N=4 by omega) with rfl | rfl | rfl
   ·exact ⟨2,rfl,rfl⟩
   ·exact ⟨3,rfl,rfl⟩
   ·exact ⟨4,rfl,rfl⟩
  obtain ⟨k,k1,k2⟩:=e3;by_cases h3:3<o.p.x.length
  ·rw [if_pos h3];have hX3:=hX3 h3;have hml:(X.map Hh).length=3:=by rw [Q8]; exact hX3
   refine ⟨_,_,_,_,mY,Gs Y,U3 D,?_⟩;refine Fw func46 rfl ?_;refine go tt [.k c4,.t (by simpa using h1),.r 19 (eI k1.symm),.x k2,.c [11] cl,.t (by simp; omega)] rfl (by simp only [Uz,OS]; omega) ?_;refine Uf (S:=Unit) 12 (λL1 _=>L1) (λ_=>enB 0 E++[.blk 26 (Qh5 ms N),.blk 44 (rwo o),.blk 44 [.int .i64 0,.int .i64 0,.int .i64 0,.nils,.nils,.bool false,.nils,.int .i64 0,.bool false,.nils,.bool false,.nils],.blk 38 [.orow 11 2 none,pl Y,sg D,mg D],.row false 36 2 (X.map Hh++[Qq9])]) (λ_=>0) (λ_=>True) () trivial rfl rfl λ_ _=>?_
   by_cases hk:Pm o.k 12<10
   ·rw [hi,show idO o=Pm o.p.id 6 from if_pos hk];exact Ue [11] [0,1,2,3,4,5,6] [.f (by simp; omega),.k wk,.t (by simpa using hk),.k wi,.k cr] rfl
   ·rw [hi,show idO o=o.p.id from if_neg hk];exact Ue [11] [0,1,2,3,4,5,6] [.f (by simp; omega),.k wk,.f (by simpa using hk),.k cr] rfl
  ·rw [if_neg h3,Zw];refine ⟨_,_,_,_,Gs X,Gs Y,U3 D,?_⟩;refine Fw func46 rfl ?_;by_cases hk:Pm o.k 12<10
   ·rw [hi,show idO o=Pm o.p.id 6 from if_pos hk];exact Ue [11] [0,1,2,3,4,5,6] [.k c4,.t (by simpa using h1),.r 19 (eI k1.symm),.x k2,.c [11] cl,.f (by simp; omega),.k wk,.t (by simpa using hk),.k wi,.k cr] rfl
   ·rw [hi,show idO o=o.p.id from if_neg hk];exact Ue [11] [0,1,2,3,4,5,6] [.k c4,.t (by simpa using h1),.r 19 (eI k1.symm),.x k2,.c [11] cl,.f (by simp; omega),.k wk,.f (by simpa using hk),.k cr] rfl
 ·have e1:HJ N o.p=⟨((o.p.x.take 4).map (·.cutN 1)).map vI,((o.p.y.take 4).map (·.cutN 1)).map vI,vI (o.p.d.cutN 1)⟩:=if_neg h1;rw [e1];refine ⟨_,_,_,_,KG (Qit ho.p.x),KG (Qit ho.p.y),OF (ho.p.d.cutN_ok 1),?_⟩;refine Fw func46 rfl ?_;by_cases hk:Pm o.k 12<10
  ·rw [hi,show idO o=Pm o.p.id 6 from if_pos hk];exact Ue [] [0,1,2,3,4,5,6] [.k c4,.f (by simpa using h1),.k wk,.t (by simpa using hk),.k wi,.k cr] rfl
  ·rw [hi,show idO o=o.p.id from if_neg hk];exact Ue [] [0,1,2,3,4,5,6] [.k c4,.f (by simpa using h1),.k wk,.f (by simpa using hk),.k cr] rfl
theorem GV {v n:Int} (h:0<n):0<=Pm v n/\Pm v n<n:=by
 unfold Pm;rw [if_neg (by omega)];exact ⟨Vh _ (by omega),Yu _ h⟩
end Orr
namespace Orr
open Go Go.Proofs Tryz Orq
set_option maxRecDepth 10000
theorem vC {b:Int} (h:0<=b):0<=(0:Int)/\(0:Int)<=b:=⟨J9 _,h⟩
def AQ (np nd:Int):Es:=⟨np,nd,[],0,Qle [] (tq 0),Qwa [] (tq 0),Qv8 [] (tq 0),Qv9 [] (tq 0),Qv7 [] (tq 0)⟩
theorem YG:MOk []:=⟨λp h=>(by cases h),by decide,List.Pairwise.nil⟩
theorem Qhr {np nd:Int} (h1:1<=np/\np<=6) (h2:0<=nd/\nd<=2):EOk 0 (AQ np nd):=by
 have hq:Qs 1640000 (0:Rat):=⟨by decide,by decide⟩;exact ⟨h1,h2,⟨YG,by show ((0:Nat):Int)<=np; omega,λp h=>(by cases h),λp h=>(by cases h)⟩,(show Qs 128 (0:Rat) from ⟨by decide,by decide⟩),At.begin okS YG hq,At.begin okT YG hq,At.begin okH YG hq,At.begin okP YG hq,At.begin okD YG hq,vC (J9 _),vC (J9 _),vC (J9 _),vC (J9 _),vC (J9 _)⟩
theorem Qdu {np nd:Int} (h1:1<=np/\np<=6) (h2:0<=nd/\nd<=2):U5 prog 38 [.oi np,.oi nd] [] [.one (.ow 0 0),.oi 0] (enB 0 (AQ np nd)):=Qr6 h1 h2
theorem Qvm:(KU (O2 SE) (tH SE) 3 600 (Qle SE (tq 0)) (tH SE (tq 0)) 0).map (λx=>x.2.2)=some 1:=by decide +kernel
theorem Qpw:(Tq (tq 3) SE).map (·.id)=[2,1]:=by decide +kernel
theorem Qhl:MOk SE:=⟨Qx7,by decide,by unfold WH SE; decide⟩
theorem Qvl:cnt (O2 SE) 0 3=1:=by
 have hq:Qs 1640000 (0:Rat):=⟨by decide,by decide⟩;have ht:Qs 1640000 (3:Rat):=⟨by decide,by decide⟩;have S:=okS.st SE Qhl;have hv:=GZ hq;have hP:=okS.cp SE Qhl;have hm:=NX hP;have hmu:=Qhn ((kS.al SE).flatMap NQ) (tq 0);have hl:(Lz SE).length=8:=by rw [vN]; rfl
 have hc:¬P0 (tq 3) (tq 0):=λh'=>by
  have:=(QY hv.cut).2 h';rw [SL] at this;exact absurd this (by decide +kernel)
 have hl2:(kS.al SE).length=8:=hl;obtain ⟨c',r',E,g1,g2,g3,g4,g5,g6⟩:=lM S ht hP (λa _=>okS.al SE a) 599 ⟨tq 0,(Fp (O2 SE (tq 0))).map fresh,0⟩ (tH SE (tq 0)) 0 (Qc hmu (by omega)) (sK S hv) hc;have h1:=Qvm;have g1:KU (O2 SE) (tH SE) 3 600 (Qle SE (tq 0)) (tH SE (tq 0)) 0=some (c',r',0+((E.length:Nat):Int)):=g1;rw [g1] at h1;have h1:some (0+((E.length:Nat):Int))=some 1:=h1;injection h1 with h1;rw [pY S hv g6];omega
theorem Qht:Crv.norm (Crv.mk [0,1] [] 0)=run1:=by
 have e:Crv.norm (Crv.mk [0,1] [] 1)=Crv.norm (Crv.mk [0,1] [] 0):=by simp only [Crv.norm,Crv.g,Crv.d']; rfl
 rw [<-e]; exact Crv.norm_of DN
theorem Qws:Ug 59 [.one (.row [[.bool false,.row []],[.bool false,.row [[.int .u32 1]]]]),.one (.row [])] [.agg (cl run1)]:=by
 have i01:IsInts [[.bool false,.row []],[.bool false,.row [[.int .u32 1]]]] [0,1]:=by
  refine ⟨⟨_,_,rfl,false,[],rfl,rfl,(λx hx=>by cases hx),rfl⟩,⟨_,_,rfl,false,[1],rfl,rfl,(λx hx=>by rw [Qk.1 hx]; decide),rfl⟩,trivial⟩
 have h:=Qql (lx:=[[.bool false,.row []],[.bool false,.row [[.int .u32 1]]]]) (ly:=[]) (px:=[0,1]) (py:=[]) i01 trivial ⟨U0 cs_run1.x (by decide),VL,by show Fe 0<=_; decide,by show 2<=1073741824; decide,by show 0<=1073741824; decide⟩;rw [Qht] at h; exact h
theorem Qoo:Ni 2 1 [] ⟨run1,1⟩=0:=by decide +kernel
theorem Qop:Ni 2 1 [⟨run1,1⟩] ⟨Ou 1 0,2⟩=0:=by decide +kernel
theorem Qvo:∃ E1 E2:Es,EOk 0 E2/\E2.m=⟨2,1,SE,0,0,0,0,0,0⟩/\EnD 48 [.one (.ow 0 0),.oi 1,.agg (cl run1)] (AQ 2 1) [.oi 0] E1/\EnD 48 [.one (.ow 0 0),.oi 2,.agg (cl (Ou 1 0))] E1 [.oi 0] E2:=by
 have h0:=Qhr (np:=2) (nd:=1) (by decide) (by decide);have hst:=rG (x:=1) (y:=0) (by decide) (by decide);have e1:Crv.norm (Crv.mk run1.x run1.y run1.d)=run1:=Crv.norm_of DN;have e2:Crv.norm (Crv.mk (Ou 1 0).x (Ou 1 0).y (Ou 1 0).d)=Ou 1 0:=Crv.norm_of hst.n;obtain ⟨E1,a1,a2,a3⟩:=CX h0 (id:=1) (Gs run1.x) (Gs run1.y) (U3 run1.d) (cs_run1.up (by decide) (by decide));rw [e1] at a2 a3;have i1:(AQ 2 1).m.ins ⟨run1,1⟩=((⟨2,1,[⟨run1,1⟩],0,0,0,0,0,0⟩:Em),0):=by
  unfold Em.ins;rw [show Ni (AQ 2 1).m.np (AQ 2 1).m.nd (AQ 2 1).m.M ⟨run1,1⟩=0 from Qoo,if_pos rfl]; rfl
 rw [i1] at a2 a3;obtain ⟨E2,b1,b2,b3⟩:=CX a1 (id:=2) (Gs (Ou 1 0).x) (Gs (Ou 1 0).y) (U3 (Ou 1 0).d) (hst.c.mono (by decide) (by decide));rw [e2,a2] at b2 b3;have i2:((⟨2,1,[⟨run1,1⟩],0,0,0,0,0,0⟩:Em),(0:Int)).1.ins ⟨Ou 1 0,2⟩=((⟨2,1,SE,0,0,0,0,0,0⟩:Em),0):=by
  unfold Em.ins;dsimp only;rw [Qop,if_pos rfl]; rfl
 rw [i2] at b2 b3;exact ⟨E1,E2,b1,b2,a3,b3⟩
theorem Qhe {E:Es} {A:Em} (h:E.m=A):E.np=A.np/\E.nd=A.nd/\E.M=A.M/\E.q=A.q/\E.s.ev=A.s/\E.t.ev=A.t/\E.h.ev=A.h/\E.p.ev=A.p/\E.d.ev=A.d:=by subst h; exact ⟨rfl,rfl,rfl,rfl,rfl,rfl,rfl,rfl,rfl⟩
theorem NK {A:Em} {t:Rat} (h1:Qs 128 t) (h2:¬t<A.q):A.adv t=(({ A with q:=t,s:=A.s+(cnt (O2 A.M) A.q t:Nat),t:=A.t+(cnt (PT A.M) A.q t:Nat),h:=A.h+(cnt (TS A.M) A.q t:Nat),p:=A.p+(cnt (zP A.M) A.q t:Nat),d:=A.d+(cnt (ES A.M) A.q t:Nat) }:Em),0):=by
 unfold Em.adv; rw [if_pos h1]; exact if_neg h2
theorem IZ:Ug 25 [] [.one (.bool true)]:=by
 obtain ⟨E1,E2,h2,m2,i1,i2⟩:=Qvo;have ht:Qs 128 (3:Rat):=⟨by decide,by decide⟩;obtain ⟨E3,h3,m3,_,a3⟩:=HW h2 (by decide) (U3 (3:Rat).num) (U3 ((3:Rat).den:Int)) (by decide) (by decide) (Ss 3);rw [m2,NK ht (by show ¬(3:Rat)<0; decide)] at m3 a3;obtain ⟨_,_,e1,e2,e3,_⟩:=Qhe m2;obtain ⟨_,_,f1,f2,f3,_⟩:=Qhe m3;dsimp only at e1 e2 e3 f1 f2 f3;rw [Qvl] at f3;have t2:=BQ (np:=E2.np) (nd:=E2.nd) (M:=E2.M) (q:=E2.q) (s:=E2.s) (t:=E2.t) (h:=E2.h) (p:=E2.p) (d:=E2.d) h2.m.m.ln;have t3:=BQ (np:=E3.np) (nd:=E3.nd) (M:=E3.M) (q:=E3.q) (s:=E3.s) (t:=E3.t) (h:=E3.h) (p:=E3.p) (d:=E3.d) h3.m.m.ln;obtain ⟨A2,hA2⟩:=nmE (tD E2.M E2.q);obtain ⟨A3,hA3⟩:=nmE (tD E3.M E3.q);rw [<-hA2] at t2;rw [<-hA3] at t3;have g2:∃ a b c d,A2=[ids [1,2],.row a,.row b,.row c,.row d]:=by
  rw [hA2,e1,e2];show ∃ a b c d,[ids ((Tq (tq 0) SE).map (·.id)),_,_,_,_]=_;rw [Qvn];exact ⟨_,_,_,_,rfl⟩
 have g3:∃ a b c d,A3=[ids [2,1],.row a,.row b,.row c,.row d]:=by
  rw [hA3,f1,f2];show ∃ a b c d,[ids ((Tq (tq 3) SE).map (·.id)),_,_,_,_]=_;rw [Qpw];exact ⟨_,_,_,_,rfl⟩
 obtain ⟨a,b,c,d,rfl⟩:=g2;obtain ⟨a',b',c',d',rfl⟩:=g3;have cs:=Qd6 (a:=[1,2]) (b:=[1,2]) (by decide) (by decide);have cs2:=Qd6 (a:=[2,1]) (b:=[2,1]) (by decide) (by decide);have co:=ZT (n:=3) (by decide);have ct:=Qec (q:=3) ⟨by decide,by decide⟩;have cst:=Ql8 (x:=1) (y:=0) (by decide) (by decide);have ce:=vO (np:=E3.np) (nd:=E3.nd) (M:=E3.M) (q:=E3.q) (s:=E3.s) (t:=E3.t) (h:=E3.h) (p:=E3.p) (d:=E3.d);rw [f3] at ce;refine Fw func25 rfl ?_;exact Uc [.c Us (Qdu (by decide) (by decide)),.f rfl,.f rfl,.z 16,.k Qws,.c Us i1,.f rfl,.k cst,.c Us i2,.f rfl,.c Us t2,.k co,.k ct,.c Us a3,.t rfl,.k cs,.t rfl,.c Us t3,.k cs2,.t rfl,.c Us ce,.i 0] rfl rfl (by simp [Uz])
theorem Qip {a b:Int} {s:Nat} (ha:Fe a<=s) (hb:Fe b<=s) (h1:1<=s):Qs s (Gw a b):=by
 unfold Gw
 split
 ·exact ⟨Ac ha,Ab (Qc (show Fe 1<=1 by decide) h1) h1⟩
 ·exact ⟨Ac ha,Ab hb h1⟩
theorem OG {z:Int} (h:-127<=z/\z<=127):Fe z<=7:=by
 have:(2:Nat)^7=128:=by decide
 exact Si.2 (by omega)
theorem Qk5 {A:Em} {t:Rat} (h:(A.adv t).2≠0):(A.adv t).1=A/\A.ans t=Qrr:=by
 refine ⟨?_,if_neg h⟩;unfold Em.adv at h ⊢;by_cases a:Qs 128 t
 ·rw [if_pos a] at h ⊢;by_cases b:t<A.q
  ·rw [if_pos b]
  ·rw [if_neg b] at h; exact absurd rfl h
 ·rw [if_neg a]
theorem Qc0 {A:Em} {t:Rat} (h:(A.adv t).2=0):(A.adv t).1.M=A.M/\(A.adv t).1.q=t/\A.ans t=tD A.M t:=by
 have e:A.ans t=tD A.M t:=if_pos h;unfold Em.adv at h ⊢;by_cases a:Qs 128 t
 ·rw [if_pos a] at h ⊢;by_cases b:t<A.q
  ·rw [if_pos b] at h; cases h
  ·rw [if_neg b]; exact ⟨rfl,rfl,e⟩
 ·rw [if_neg a] at h; cases h
theorem Qc2 {E:Es} {b:Int} (h:EOk b E):E.m.adv E.q=(E.m,0):=by
 rw [NK (A:=E.m) h.q (by show ¬E.q<E.q; exact Rat.lt_irrefl)];have hq:Qs 1640000 E.q:=h.q.mono (by decide);have e1:cnt (O2 E.m.M) E.m.q E.q=0:=ZP okS h.m.m hq;have e2:cnt (PT E.m.M) E.m.q E.q=0:=ZP okT h.m.m hq;have e3:cnt (TS E.m.M) E.m.q E.q=0:=ZP okH h.m.m hq;have e4:cnt (zP E.m.M) E.m.q E.q=0:=ZP okP h.m.m hq;have e5:cnt (ES E.m.M) E.m.q E.q=0:=ZP okD h.m.m hq;rw [e1,e2,e3,e4,e5];simp [Es.m]
theorem Qs.n32 {s:Nat} {t:Rat} (h:Qs s t) (hs:s<=4294967295):Fe t.num<=4294967295/\Fe (t.den:Int)<=4294967295:=⟨Qc h.1 hs,Qc h.2 hs⟩
theorem pR {E:Es} {b:Int} {s:Nat} (h:EOk b E) (hb:b<=900000000000000000) {t:Rat} (ht:Qs s t) (hs:s<=4294967295):∃ E',EOk (b+67000000) E'/\E'.m=(E.m.adv t).1/\((E.m.adv t).2≠0->E'=E)/\EnD 20 [.one (.ow 0 0),.agg (rl t)] E [.one (.int .i64 (E.m.adv t).2)] E' :=
 HW h hb (U3 t.num) (U3 (t.den:Int)) (ht.n32 hs).1 (ht.n32 hs).2 (Ss t)
theorem Qtf {E:Es} {b:Int} {s:Nat} (h:EOk b E) (hb:b<=900000000000000000) {t:Rat} (ht:Qs s t) (hs:s<=4294967295):EnD 23 [.one (.ow 0 0),.agg (rl t)] E [.agg (E.m.ans t),.one (.int .i64 (E.m.adv t).2)] E :=
 Qna h hb (U3 t.num) (U3 (t.den:Int)) (ht.n32 hs).1 (ht.n32 hs).2 (Ss t)
noncomputable def advE (A:Em) (t:Rat):Em:={ A with q:=t,s:=A.s+(cnt (O2 A.M) A.q t:Nat),t:=A.t+(cnt (PT A.M) A.q t:Nat),h:=A.h+(cnt (TS A.M) A.q t:Nat),p:=A.p+(cnt (zP A.M) A.q t:Nat),d:=A.d+(cnt (ES A.M) A.q t:Nat) }
theorem Qcz {A:Em} {t:Rat} (h1:Qs 128 t) (h2:¬t<A.q):A.adv t=(advE A t,0):=NK h1 h2
theorem oK {E:Es} {b:Int} (h:EOk b E):advE E.m E.q=E.m:=by
 have:=Qc2 h;rw [Qcz h.q (by show ¬E.q<E.q; exact Rat.lt_irrefl)] at this;exact congrArg Prod.fst this
theorem Qcy {A:Em} {t u:Rat} (hM:MOk A.M) (h0:Qs 128 A.q) (ht:Qs 128 t) (hu:Qs 128 u) (h1:A.q<=t) (h2:t<=u):advE (advE A t) u=advE A u:=by
 have h0:=h0.mono (show 128<=1640000 by decide);have ht:=ht.mono (show 128<=1640000 by decide);have hu:=hu.mono (show 128<=1640000 by decide);have e1:cnt (O2 A.M) A.q u=cnt (O2 A.M) A.q t+cnt (O2 A.M) t u:=JA okS hM h0 ht hu h1 h2;have e2:cnt (PT A.M) A.q u=cnt (PT A.M) A.q t+cnt (PT A.M) t u:=JA okT hM h0 ht hu h1 h2;have e3:cnt (TS A.M) A.q u=cnt (TS A.M) A.q t+cnt (TS A.M) t u:=JA okH hM h0 ht hu h1 h2;have e4:cnt (zP A.M) A.q u=cnt (zP A.M) A.q t+cnt (zP A.M) t u:=JA okP hM h0 ht hu h1 h2;have e5:cnt (ES A.M) A.q u=cnt (ES A.M) A.q t+cnt (ES A.M) t u:=JA okD hM h0 ht hu h1 h2;unfold advE;dsimp only;rw [e1,e2,e3,e4,e5];simp only [Int.natCast_add,Int.add_assoc]
theorem Qc1 {A B:Em} {t u:Rat} (hM:MOk A.M) (h0:Qs 128 A.q) (ht:Qs 128 t) (h1:A.q<=t) (hB:B=advE A t) (hu:Qs 128 u):((B.adv u).1=B/\u<t)\/((B.adv u)=(advE A u,0)/\t<=u):=by
 have hq:B.q=t:=by rw [hB]; rfl
 by_cases h:u<B.q
 ·left;rw [hq] at h;refine ⟨?_,h⟩;unfold Em.adv;rw [if_pos hu,if_pos (by rw [hq]; exact h)]
 ·right;have h2:t<=u:=by rw [hq] at h; exact Ki.1 h
  refine ⟨?_,h2⟩;rw [Qcz hu h,hB,Qcy hM h0 ht hu h1 h2]
theorem Qir {a b c:Int} (hb:0<b) (h:a<=c*b):Gw a b<=(c:Rat):=by
 rw [RN hb,<-pG];have h2:(0:Rat)<(b:Rat):=by exact_mod_cast hb
 have h3:(a:Rat)<=(c:Rat)*(b:Rat):=by exact_mod_cast h
 have h4:(a:Rat) / (b:Rat)*(b:Rat)=a:=Zf (by grind);apply Ki.1;intro h5;have:=Yx h5 h2;grind
end Orr
namespace Orr
theorem bz1:Bd 9000000 [1]:=λz hz=>by obtain rfl:=Qk.1 hz; decide
theorem bz2:Bd 9000000 [0,1]:=λz hz=>by
 simp only [Qm,Ji,or_false] at hz;rcases hz with rfl | rfl <;> decide
theorem Qy6:∀ z∈([0,1]:Uj),Fe z≤1:=by
 intro z hz;simp only [Qm,Ji,or_false] at hz;rcases hz with rfl | rfl <;> decide
theorem rz:RRun [1] 1 [0,1] []:=by
 refine .step (by decide) (by decide) bz2 bz1 ?_;rw [show rU [0,1] [1]=[] by decide];exact .stop (by decide)
theorem dz2:DOk [0,1] [1] [0,1]:=by
 refine ⟨by decide,by decide,by decide,bz1,[0,1],[],1,bz2,by decide,?_,by decide⟩;refine .step (by decide) (by decide) bz2 (by decide) (by decide) (by decide) ?_;exact .stop (by decide)
theorem dz1:DOk [1] [1] [1]:=by
 refine ⟨by decide,by decide,by decide,bz1,[1],[],1,bz1,by decide,?_,by decide⟩;refine .step (by decide) (by decide) bz1 (by decide) (by decide) (by decide) ?_;exact .stop (by decide)
theorem Qur:Qcv 0 [[-(0:Rat).num,((0:Rat).den:Int)],[1]]:=by
 show Qcv 0 [[0,1],[1]];refine ⟨[0,1],?_⟩;show ChRun [0,1] [0,1] [[0,1],[1]];have e1:Td [0,1]=[0,1]:=by decide
 have e2:Gu [0,1]=[1]:=by decide
 have e3:Td [1]=[1]:=by decide
 have e4:Ny [1]=[1]:=by decide
 refine ⟨⟨1,λ_=>[0,1],⟨⟨1,[[0,1],[1]],?_,rfl,λk hk=>?_⟩,by decide⟩,λi hi=>?_,by decide⟩,⟨1,?_⟩,λz hz=>Qc (Qy6 z hz) (by decide),by decide,by decide⟩
 ·rw [e1];refine .step (by decide) (by decide) (by show trim _=_; decide) bz2 (by show Bd _ (Gu [0,1]); rw [e2]; exact bz1) (m:=1) (g:=[1]) ?_ (by decide) (.stop (by decide));show GRun 1 (Td [0,1]) (Td (Gu [0,1])) [1];rw [e1,e2,e3];refine .step (by decide) (by decide) bz1 rz (by decide) (λz hz=>by cases hz) rfl ?_;rw [show Td []=[] by decide];exact .stop _
 ·obtain rfl:k=0:=by omega
  exact ⟨[0,1],[1],[0,1],dz2,dz1,by rw [e1,e3]; exact dz2,e1.symm⟩
 ·obtain rfl:i=0:=by omega
  exact ⟨bz1,by decide,bz2,by decide⟩
 ·rw [e2,e4];refine .step (by decide) (by decide) bz1 (m:=1) (r:=[]) rz rfl (λz hz=>by cases hz) (by decide) (by decide) (by decide) ?_;exact .stop (by decide)
end Orr
namespace Orr
open Go Go.Proofs Tryz Orq
set_option maxRecDepth 10000
theorem Qfz {q:Rat} {c:Uk}:Ug 255 [.one (.row []),.agg (aq q c)] [.one (.row [])]:=by
 refine Fw func255 rfl ?_;refine Ua [.z 5] rfl ?_;refine Uf (S:=Unit) 1 (λL1 _=>(10,.v (.oi 0))::(5,.v (.one (.row [])))::L1) (λ_=>[.blk 168 (aq q c)]) (λ_=>0) (λ_=>True) () trivial rfl rfl λ_ _=>?_
 exact Uc [.f rfl] rfl
theorem pT:Ug 257 [.one (.row [])] [.one (.row [])]:=by
 refine Fw func257 rfl ?_;refine Ua [.z 3] rfl ?_;refine Uf (S:=Unit) 0 (λL1 _=>(8,.v (.oi 0))::(3,.v (.one (.row [])))::L1) (λ_=>[]) (λ_=>0) (λ_=>True) () trivial rfl rfl λ_ _=>?_
 exact Uc [.f rfl] rfl
theorem Qfx:Ug 259 [.one (.row [])] [.one (.row [])]:=by
 refine Fw func259 rfl ?_;refine Ua [.z 3] rfl ?_;refine Uf (S:=Unit) 0 (λL1 _=>(8,.v (.oi 0))::(3,.v (.one (.row [])))::L1) (λ_=>[]) (λ_=>0) (λ_=>True) () trivial rfl rfl λ_ _=>?_
 exact Uc [.f rfl] rfl
theorem Qf0:Ug 262 [.one (.row [])] [.one (.row [])]:=by
 refine Fw func262 rfl ?_;refine Ua [.z 3,.k Qfx] rfl ?_;refine Uf (S:=Unit) 0 (λL1 _=>(11,.v (.oi 0))::(3,.v (.one (.row [])))::L1) (λ_=>[]) (λ_=>0) (λ_=>True) () trivial rfl rfl λ_ _=>?_
 exact Uc [.f rfl] rfl
section
variable {q:Rat} {c:Uk}
theorem Qfy:Ug 213 [.one (.row []),.agg (aq q c)] [.one (.row [])]:=by
 refine Fw func213 rfl ?_;refine Ua [.k Qfz,.z 6] rfl ?_;refine Uf (S:=Unit) 1 (λL1 _=>(7,.v (.oi 0))::(6,.v (.one (.row [])))::L1) (λ_=>[.blk 168 (aq q c)]) (λ_=>0) (λ_=>True) () trivial rfl rfl λ_ _=>?_
 exact Uc [.f rfl,.k pT] rfl rfl (by simp [Uz])
theorem Qth:Ug 214 [.one (.row []),.agg (aq q c)] [.one (.row [])]:=Ud func214 rfl [.t rfl,.z 4] rfl
theorem Qa4:Ug 260 [.one (.row []),.agg (aq q c)] [.one (.row [])]:=Ud func260 rfl [.k Qf0,.t rfl] rfl
theorem Qtc:Ug 215 [.one (.row []),.agg (aq q c)] [.one (.row [])]:=by
 refine Fw func215 rfl ?_;refine Ua [.k Qfy,.k Qa4] rfl ?_;refine Uf (S:=Unit) 1 (λL1 _=>(7,.v (.oi 0))::(5,.v (.one (.row [])))::L1) (λ_=>[.blk 168 (aq q c)]) (λ_=>0) (λ_=>True) () trivial rfl rfl λ_ _=>?_
 exact Uc [.f rfl,.f rfl,.k pT] rfl
abbrev zPq:Uo:=[.row [],.row [],.row [],.row [],.bool false,.row [],.int .i64 0]
theorem Qa3:Ug 261 [.one (.row []),.agg (aq q c)] [.agg zPq,.agg zPq,.one (.bool false)]:=Ud func261 rfl [.k Qfx,.t rfl] rfl
theorem Qte:Ug 216 [.one (.row []),.agg (aq q c)] [.one (.row [])]:=Ud func216 rfl [.k Qa3,.t rfl,.z 4] rfl
theorem Qtd:Ug 217 [.one (.row []),.agg (aq q c)] [.one (.row [])]:=by
 refine Fw func217 rfl ?_;refine Ua [.k Qf0,.z 6] rfl ?_;refine Uf (S:=Unit) 1 (λL1 _=>(15,.v (.oi 0))::(6,.v (.one (.row [])))::L1) (λ_=>[.blk 168 (aq q c)]) (λ_=>0) (λ_=>True) () trivial rfl rfl λ_ _=>?_
 exact Uc [.f rfl,.k pT] rfl
theorem UV (k:Nat) (hk:k<5):Ug 135 [.oi k,.one (.row []),.agg (aq q c)] [.one (.row [])]:=by
 refine (?_:Ug 174 [.oi k,.one (.row []),.agg (aq q c)] [.one (.row [])]->_) ?_
 ·intro h;exact Ud func135 rfl [.k h] rfl
 ·rcases (show k=0\/k=1\/k=2\/k=3\/k=4 by omega) with rfl | rfl | rfl | rfl | rfl
  ·exact Ud func174 rfl [.t rfl,.k Qfy] rfl
  ·exact Ud func174 rfl [.f rfl,.t rfl,.k Qth] rfl
  ·exact Ud func174 rfl [.f rfl,.f rfl,.t rfl,.k Qtc] rfl
  ·exact Ud func174 rfl [.f rfl,.f rfl,.f rfl,.t rfl,.k Qte] rfl
  ·exact Ud func174 rfl [.f rfl,.f rfl,.f rfl,.f rfl,.k Qtd] rfl
end
theorem CJ:Ug 134 [.one (.row []),.one (.row [])] [.one (.row [])]:=by
 refine Fw func134 rfl ?_;refine Ua [] rfl ?_;refine Uf (S:=Unit) 0 (λL1 _=>(9,.v (.oi 0))::L1) (λ_=>[]) (λ_=>0) (λ_=>True) () trivial rfl rfl λ_ _=>?_
 exact Uc [.f rfl] rfl
end Orr
namespace Orr
open Go Go.Proofs Tryz Orq
set_option maxRecDepth 10000
abbrev cC:Uk:=[[-(0:Rat).num,((0:Rat).den:Int)],[1]]
abbrev Qww:Uo:=[.nils,.nils,.nils,.bool false,.nils,.bool false,.nils,.bool false,.nils,.bool false,.nils,.int .i64 0,.nils]
abbrev Qwx:Uo:=aq 0 cC++[.row [],.int .i64 0,.nils]
abbrev Qi9 (k i:Nat):Uo:=match Nat.blt k i with
 | true=>Qwx
 | false=>Qww
abbrev mdl (np nd:Int) (i:Nat):Uo:=[.int .i64 np,.int .i64 nd,.nils]++fr 0++Qi9 0 i++Qi9 1 i++Qi9 2 i++Qi9 3 i++Qi9 4 i
set_option maxHeartbeats 4000000 in
theorem Qdq {np nd:Int}:U5 prog 88 [.one (.ow 0 0)] [.blk 175 (mdl np nd 0)] [] [.blk 175 (mdl np nd 5)]:=by
 have hq:Qs 2000000 (0:Rat):=⟨by decide,by decide⟩;have cr:=kM hq Qur;refine Fw func88 rfl ?_;refine Ua [.k cr] rfl ?_;refine Uf (S:=Nat) 2 (λL1 i=>(9,.v (.oi i))::L1) (λi=>[.blk 175 (mdl np nd i),.blk 168 (aq 0 cC)]) (λi=>5-i) (λi=>i<=5) 0 (by decide) rfl rfl λi hi=>?_
 rcases (show i=0\/i=1\/i=2\/i=3\/i=4\/i=5 by omega) with rfl | rfl | rfl | rfl | rfl | rfl
 ·exact go tt [.t rfl,.i 0,.i 0,.i 0,.k (UV 0 (by decide)),.k CJ,.i 0] rfl (by simp [Uz]) (rd 1 (by omega) (by omega) rfl)
 ·exact go tt [.t rfl,.i 1,.i 1,.i 1,.k (UV 1 (by decide)),.k CJ,.i 1] rfl (by simp [Uz]) (rd 2 (by omega) (by omega) rfl)
 ·exact go tt [.t rfl,.i 2,.i 2,.i 2,.k (UV 2 (by decide)),.k CJ,.i 2] rfl (by simp [Uz]) (rd 3 (by omega) (by omega) rfl)
 ·exact go tt [.t rfl,.i 3,.i 3,.i 3,.k (UV 3 (by decide)),.k CJ,.i 3] rfl (by simp [Uz]) (rd 4 (by omega) (by omega) rfl)
 ·exact go tt [.t rfl,.i 4,.i 4,.i 4,.k (UV 4 (by decide)),.k CJ,.i 4] rfl (by simp [Uz]) (rd 5 (by omega) (by omega) rfl)
 ·exact Ue [] [0] [.f rfl] rfl
theorem Qsc {np nd:Int} (h1:1<=np/\np<=6) (h2:0<=nd/\nd<=2):U5 prog 39 [.oi np,.oi nd] [] [.one (.ow 0 0),.oi 0] [.blk 175 (mdl np nd 5)]:=by
 have co:=ZT (n:=0) (by decide);rw [show ((0:Int):Rat)=0 from rfl] at co;refine Fw func39 rfl ?_;exact Ue [] [0] [.F,.f (by simp; omega),.f (by simp; omega),.f (by simp; omega),.k co,.c [0] Qdq] rfl
theorem Qlj {a b:Int} (ha:-9223372036854775808<=a/\a<=9223372036854775807) (hb:-9223372036854775808<=b/\b<=9223372036854775807):∃ (N nd:Int) (ms:Uo),(1<=N/\N<=4)/\(0<=nd/\nd<=2)/\EOk 0 (AQ N nd)/\N=1+Pm a 4/\nd=Pm b 3 /\
 U5 prog 9 [.oi a,.oi b] [] [.agg [.ow 0 0,.sh ms,.int .i64 N],.one (.bool true)] (enB 0 (AQ N nd)):=by
 have w1:=GV (v:=a) (n:=4) (by decide);have w2:=GV (v:=b) (n:=3) (by decide);have c1:=Du (v:=a) (n:=4) ha (by decide);have c2:=Du (v:=b) (n:=3) hb (by decide);obtain ⟨N,hN⟩:=nmE (1+Pm a 4);obtain ⟨nd,hnd⟩:=nmE (Pm b 3);have hN4:1<=N/\N<=4:=by omega
 have hd2:0<=nd/\nd<=2:=by omega
 have cn:=Qdu (np:=N) (nd:=nd) (by omega) hd2;have cm:=Qsc (np:=N) (nd:=nd) (by omega) hd2;refine ⟨N,nd,mdl N nd 5,hN4,hd2,Qhr (by omega) hd2,hN,hnd,?_⟩;refine Fw func9 rfl ?_;exact Ue [8] [1,2,3,4,5,6,7] [.k c1,.r 12 (eI hN.symm),.k c2,.r 14 (eI hnd.symm),.c [1,2,3,4,5,6,7] cn,.c [8] cm,.t rfl,.t rfl] rfl (by simp [Uz]; omega)
theorem Qfw {E:Es} {b N:Int} {o:RawOp} {ms:Uo} (h:EOk b E) (hN:1<=N/\N<=4) (ho:o.Ok) (w0:Pm o.k 12<3) :
 ∃ E' e,EOk (b+67000000) E'/\E'.q=E.q/\EnD 11 [.agg (Qh5 ms N),.agg (rwo o)] E [.oi e] E':=by
 obtain ⟨lx,ly,bb,l3,i1,i2,i3,cp⟩:=Qsh (E:=E) (ms:=ms) hN ho;have wk:=Du (v:=o.k) (n:=12) ho.k (by decide);have hcs:=Qmy (N:=N) ho.p;have hk:Cs 4294967294 1073741824 (Crv.mk (HJ N o.p).x (HJ N o.p).y (HJ N o.p).d):=hcs.mono (by decide) (by decide);obtain ⟨E',g1,g2,g3⟩:=CX h (id:=idO o) i1 i2 i3 hk;have hq:E'.m.q=E.m.q:=by
  rw [g2]; unfold Em.ins; dsimp only; split <;> rfl
 refine ⟨E',(E.m.ins ⟨Crv.norm (Crv.mk (HJ N o.p).x (HJ N o.p).y (HJ N o.p).d),idO o⟩).2,g1.mono (by omega),hq,?_⟩;refine Fw func11 rfl ?_;exact Ue [] [0,1,2,3,4,5,6] [.c Us cp,.k wk,.T,.c Us g3] rfl
abbrev enL (E:Es) (ms:Uo) (N:Int):Uq:=[.blk 89 (lK 0 E.q),tB E.np E.nd E.M,bS E.s E.M E.q,bT E.t E.M E.q,bH E.h E.M E.q,bP E.p E.M E.q,bD E.d E.M E.q,.blk 26 [.ow 0 0,.sh ms,.int .i64 N]]
abbrev enK (E:Es):Uq:=[.blk 89 (lK 8 E.q),tB E.np E.nd E.M,bS E.s E.M E.q,bT E.t E.M E.q,bH E.h E.M E.q,bP E.p E.M E.q,bD E.d E.M E.q]
set_option maxHeartbeats 8000000 in
theorem BN {a:Int} {l:List RawOp} {cu:Uj} (ha:-9223372036854775808≤a/\a≤9223372036854775807) (hl:∀ x∈l,x.Ok) (hc:∀ x∈cu,-9223372036854775808≤x/\x≤9223372036854775807):Ug 7 [.oi a,.one (.row (OA l)),.one (.row (idl cu))] [.one (.bool true)]:=by
 obtain ⟨N,nd,ms,hN,hnd,h0,_,_,cb⟩:=Qlj ha (b:=1) (by decide);have hll:=Qbu l;have hcul:(idl cu).length=cu.length:=by simp [idl]
 refine Fw func7 rfl (ln 1 rfl rfl λhcl=>ln 2 rfl rfl λhcl2=>?_);rw [hll] at hcl;rw [hcul] at hcl2;refine Ua [.c Us cb,.f rfl] rfl ?_;refine Uf (S:=Nat×Es) 8 (λL1 s=>(9,.v (.oi (s.1:Int)))::L1) (λs=>enL s.2 ms N) (λs=>5-s.1) (λs=>s.1<=5/\s.1<=l.length/\EOk (67000000*s.1) s.2/\s.2.q=0) (0,AQ N nd) ⟨by show 0<=5; decide,Qh _,h0.mono (show (0:Int)<=67000000*((0:Nat):Int) by decide),rfl⟩ rfl rfl λ⟨i,E⟩ ⟨hi,hi2,hE,hq⟩=>?_
 dsimp only at hi hi2 hE hq ⊢;by_cases hr:i<l.length/\i<5
 ·obtain ⟨x,hx⟩:=gxE (l:=l) (i:=i) hr.1;have ho:=hl x (Qa hx);have w3:=GV (v:=x.k) (n:=3) (by decide);have cw:=Du (v:=x.k) (n:=3) ho.k (by decide);have e12:Pm (Pm x.k 3) 12<3:=by
   have:Pm (Pm x.k 3) 12=Pm x.k 3 % 12:=rfl;rw [this,Int.emod_eq_of_lt (by omega) (by omega)]; omega
  obtain ⟨E',er,e1,e2,e3⟩:=Qfw (ms:=ms) (o:={ x with k:=Pm x.k 3 }) hE hN { ho with k:=(by show _<=Pm x.k 3/\Pm x.k 3<=_; omega) } e12;refine Ub [.T,.T,.x (Qbt hx),.k cw,.c Us e3] rfl ?_;have e:67000000*(i:Int)+67000000=67000000*((i+1:Nat):Int):=by omega
  rw [e] at e1;have hq':E'.q=0:=e2.trans hq;exact rd (i+1,E') (by dsimp only; omega) ⟨hr.2,hr.1,e1,hq'⟩ rfl
 have h30:Qs 128 (30:Rat):=⟨by decide,by decide⟩;have co:=ZT (n:=30) (by decide);have ct:=Qec (q:=30) ⟨by decide,by decide⟩;have ccl:=Qm9 hE;have hM:MOk E.m.M:=hE.m.m;have hEq:E.m.q=0:=hq;have hq0:Qs 128 E.m.q:=hE.q;obtain ⟨P,p1,p2,_,p3⟩:=pR hE (by omega) h30 (by decide);have n30:¬(30:Rat)<E.m.q:=by rw [hEq]; decide
 rw [Qcz h30 n30] at p2 p3;have p2:P.m=advE E.m 30:=p2;have p3:EnD 20 [.one (.ow 0 0),.agg (rl 30)] E [.oi 0] P:=p3;have hE5:EOk 335000000 E:=hE.mono (by omega);by_cases hj:i<l.length
 all_goals
  first
  | refine Ua [.T,.F,.c Uw ccl,.f rfl,.k co,.k ct,.c Us p3,.f rfl] rfl ?_
  | refine Ua [.F,.f rfl,.c Uw ccl,.f rfl,.k co,.k ct,.c Us p3,.f rfl] rfl ?_
  refine Uf (S:=Nat×Es) 16 (λL1 s=>(13,.v (.oi (s.1:Int)))::L1) (λs=>enL P ms N++enK s.2++[.blk 42 (rl 30)]) (λs=>4-s.1) (λs=>s.1<=4/\s.1<=cu.length/\EOk (335000000+67000000*s.1) s.2/\∃ t,0<=t/\t<=30/\Qs 128 t/\s.2.m=advE E.m t) (0,E) ⟨by show 0<=4; decide,Qh _,hE5.mono (show (335000000:Int)<=335000000+67000000*((0:Nat):Int) by decide),0,Qp,by decide,⟨by decide,by decide⟩,by rw [<-hq,oK hE]⟩ rfl rfl λ⟨j,F⟩ ⟨hj1,hj2,hF,t,t1,t2,t3,t4⟩=>?_
  dsimp only at hj1 hj2 hF t4 ⊢;have hqt:E.m.q<=t:=by rw [hEq]; exact t1
  by_cases hs:j<cu.length/\j<4
  ·obtain ⟨c,hcx⟩:=gxE (l:=cu) (i:=j) hs.1;have hci:=hc c (Qa hcx);have hg:(idl cu)[j]? = some [.int .i64 c]:=Gt hcx;have csm:=Ql7 (n:=c) (d:=(j:Int)) hci (by omega);have b1:=GV (v:=c) (n:=61) (by decide);have b2:=GV (v:=(j:Int)) (n:=6) (by decide);have hT:=Qip (OG (z:=Pm c 61-30) (by omega)) (OG (z:=1+Pm (j:Int) 6) (by omega)) (by decide);have hT30:Gw (Pm c 61-30) (1+Pm (j:Int) 6)<=((30:Int):Rat):=Qir (by omega) (by omega);obtain ⟨T,hTe⟩:=nmE (Gw (Pm c 61-30) (1+Pm (j:Int) 6));rw [<-hTe] at csm hT hT30;have ctt:=Qec (q:=T) (hT.mono (by decide));have e:(335000000:Int)+67000000*(j:Int)+67000000=335000000+67000000*((j+1:Nat):Int):=by omega
   by_cases hev:Int.tmod c 2=0
   ·have gq:=Qtf hF (by omega) hT (by decide);by_cases hz:(F.m.adv T).2=0
    ·rw [(Qc0 hz).2.2] at gq;refine Ub [.T,.T,.x hg,.k csm,.k ctt,.x hg,.t (decide_eq_true hev),.c Ut gq] rfl ?_;exact rd (j+1,F) (by dsimp only; omega) ⟨hs.2,hs.1,hF.mono (by omega),t,t1,t2,t3,t4⟩ rfl
    ·rw [(Qk5 hz).2] at gq;refine Ub [.T,.T,.x hg,.k csm,.k ctt,.x hg,.t (decide_eq_true hev),.c Ut gq] rfl ?_;exact rd (j+1,F) (by dsimp only; omega) ⟨hs.2,hs.1,hF.mono (by omega),t,t1,t2,t3,t4⟩ rfl
   ·obtain ⟨G,g1,g2,_,g4⟩:=pR hF (by omega) hT (by decide);refine Ub [.T,.T,.x hg,.k csm,.k ctt,.x hg,.f (decide_eq_false hev),.c Ut g4] rfl ?_;rw [e] at g1;refine rd (j+1,G) (by dsimp only; omega) ⟨hs.2,hs.1,g1,?_⟩ rfl;show ∃ t,0<=t/\t<=30/\Qs 128 t/\G.m=advE E.m t;rcases Qc1 hM hq0 t3 hqt t4 (hT.mono (by decide)) with ⟨h1,h2⟩ | ⟨h1,h2⟩
    ·exact ⟨t,t1,t2,t3,by rw [g2,h1,t4]⟩
    ·exact ⟨T,Zh t1 h2,hT30,hT.mono (by decide),by rw [g2,h1]⟩
  obtain ⟨H,x1,x2,_,x4⟩:=pR hF (by omega) h30 (by decide);have hon:F.m.adv 30=(advE E.m 30,0):=by
   rcases Qc1 hM hq0 t3 hqt t4 h30 with ⟨_,h2⟩ | ⟨h1,_⟩
   ·exact absurd h2 (Ki.2 t2)
   ·exact h1
  rw [hon] at x2 x4;have x4:EnD 20 [.one (.ow 0 0),.agg (rl 30)] F [.oi 0] H:=x4;have hHP:H.m=P.m:=by rw [x2,p2]
  obtain ⟨_,_,q1,q2,_⟩:=Qhe hHP;have q1:H.M=P.M:=q1;have q2:H.q=P.q:=q2;have csa:=Qtg (E:=H) (F:=P) x1 q1.symm q2.symm;have cE1:=wB (E:=H);have cE2:=wB (E:=P);rw [hHP] at cE1;have cC1:=wN x1;have cC2:=wN p1;rw [q1,q2] at cC1;obtain ⟨hcp,hcn⟩:=Qe9 p1;have csc:=Qd7 hcp hcn;by_cases hk:j<cu.length
  ·exact Uc [.T,.F,.c Ut x4,.g 88 true rfl,.lo,.c Ux csa,.g 94 true rfl,.lo,.c Ut cE1,.lo,.c Us cE2,.g 102 true (by simp),.lo,.c Ut cC1,.lo,.c Us cC2,.k csc,.g 110 true (by simp),.k IZ] rfl
  ·exact Uc [.F,.f rfl,.c Ut x4,.g 88 true rfl,.lo,.c Ux csa,.g 94 true rfl,.lo,.c Ut cE1,.lo,.c Us cE2,.g 102 true (by simp),.lo,.c Ut cC1,.lo,.c Us cC2,.k csc,.g 110 true (by simp),.k IZ] rfl
end Orr
namespace Orr
open Go Go.Proofs Tryz
variable {H:Type} {enc:TypeId×Value->H} {w:World} {base:Nat} {spare:Nat->Bool} {held:Bool}
theorem Tz {α:Type} {l:List α} {n i:Nat} (h:l.length=n) (hi:i<n):∃ x,l[i]? = some x:=⟨l[i]'(by omega),Qe (by omega)⟩
end Orr
namespace Orr
open Go Go.Proofs Tryz Go.ChangeShapes Go.WideShapes Go.ChangeAt Go.RowKit Go.WideElems
theorem Qmu {w:World} {a:Addr} {v:Value} (h:w.cell? a=some v):a.spot=none/\a.block<w.heap.size:=by
 simp only [World.cell?] at h
 split at h
 ·rename_i c t fr hc
  split at h
  ·cases h
  ·rename_i hs;refine ⟨by cases e:a.spot with | none=>rfl | some _=>simp [e] at hs,?_⟩;exact (Array.getElem?_eq_some_iff.1 hc).1
 ·cases h
theorem Qk4 {a:Addr} (h:a.spot=none) (n m:Nat):(a.add n).add m=⟨a.block,a.off+n+m,none⟩:=by
 obtain ⟨b,o,s⟩:=a;simp only at h;subst h;simp only [Addr.add]
 split
 ·rename_i h; subst h
  split
  ·rename_i h; subst h; simp
  ·simp
 ·split
  ·rename_i h; subst h; simp
  ·simp
def fr0 (w:World):Fr:=⟨λb=>b<w.heap.size,λ_=>False,w,λ_=>False,λ_=>none⟩
theorem EM (w:World):HS (fr0 w) (ob []) (nw []) (λ_=>none) (λ_=>False) w where
 size:=Ql _
 kept:=λb hb=>⟨hb,rfl,Iff.rfl⟩
 ids:=λi h=>h.elim
 nj:=λi h=>by rw [jC] at h; cases h
 io:=⟨rfl,rfl⟩
 blk:=λi=>by rw [jC]; trivial
 nk:=λi g c m h _=>by rw [jC] at h; cases h
 inj:=λi j g c m c' m' h _ _ _=>by rw [jC] at h; cases h
 mlt:=λb h=>h.elim
 m0:=λb _ h=>h.elim
 un:=λi _=>⟨rfl,rfl⟩
 uj:=λi _ h=>h.elim
theorem Qo8 {w w':World} {bl:Nat->OB} {U:Nat->Prop} {E:Bs} {M:Nat->Prop} (h:HS (fr0 w) bl U E M w') {p:MemPlace} (hp:p.block<w.heap.size):w.sameAt w' p:=by
 cases p with
 | cell b off=>simp only [World.sameAt,World.cell?]; rw [(h.kept b hp).2.1]; rfl
 | map b=>exact (h.kept b hp).2.1
theorem Qnp {w w':World} {bl:Nat->OB} {U:Nat->Prop} {E:Bs} {M:Nat->Prop} (h:HS (fr0 w) bl U E M w') (may:MemPlace->Prop):w.keptBut w' may:=by
 refine ⟨h.io.1,h.io.2,λi hi=>?_⟩;have e:w'.heap[i]? = w.heap[i]? := (h.kept i hi).2.1;rw [e];cases w.heap[i]? with
 | none=>rfl
 | some o=>cases o <;> simp
theorem JS {H:Type} {P:Program} {e:TypeId}:∀ {l:List (DataW H)} {i:Nat} {d:DataW H},l[i]? = some d->∀ n∈d.weights P e,n∈DataW.weightsAll P e l
 | [],i,d,h,_,_=>by simp at h
 |
  x::l,0,d,h,n,hn=>by
  simp at h; subst h;simp only [DataW.weightsAll,Qq]; exact .inl hn
 |
  x::l,i+1,d,h,n,hn=>by
  simp only [DataW.weightsAll,Qq];exact .inr (JS (i:=i) (by simpa using h) n hn)
theorem Me {H:Type} {P:Program} {t:TypeId} {fs:Array Field} {parts:List (DataW H)} (hu:P.underlying t=some (.struct fs)) (hz:((DataW.agg parts).weights P t).all (· <= reachBytes)=true) {i:Nat} {f:Field} {d:DataW H} (hf:fs[i]? = some f) (hd:parts[i]? = some d) :
 (d.weights P f.type).all (· <= reachBytes)=true:=by
 rw [Jq] at hz ⊢;intro n hn;refine hz n ?_;simp only [DataW.weights,hu];exact DataW.weights_mem_each (j:=i) (by rw [Q6]; simp [hf]) hd n hn
variable {H:Type} {enc:TypeId×Value->H} {w:World}
abbrev O0:Nat->Prop:=λ_=>False
def zK (w:World) (cs:List Value) (ls:Uo):Prop:=cs.length=ls.length/\∀ (j:Nat) (u:LV),ls[j]? = some u->∃ v,cs[j]? = some v/\LRep w O0 v u
theorem FT {α:Type} {rw_:α->Uo} {Ok:α->Prop} {t e sz:Nat} (hu:prog.underlying t=some (.slice e)) (hc:prog.cellsOf e=sz) (hsz:0<sz) (hb:1<=prog.bytesOf e) (hw:∀ z,(rw_ z).length=sz)
 (elem:∀ fuel cs x,DataW.trod enc prog w 0 (λ_=>true) true fuel e cs=some x->(x.1.weights prog e).all (· <= reachBytes)=true->∃ z,Ok z/\zK w cs (rw_ z))
 {fuel:Nat} {cs:List Value} {x:DataW H×List MemPlace} (h:DataW.trod enc prog w 0 (λ_=>true) true fuel t cs=some x) (hz:(x.1.weights prog t).all (· <= reachBytes)=true) :
 ∃ (v:Value) (l:List α),cs=[v]/\(∀ z∈l,Ok z)/\l.length<2^47/\LRep w O0 v (.row (l.map rw_)):=by
 rcases Go.Deep.open_slice hu h with ⟨rfl,_⟩ | ⟨a',len,cap,m,n,D,Pl,rfl,_,hlc,hcap,hm,rfl,hr⟩
 ·refine ⟨_,[],rfl,by simp,Nat.two_pow_pos 47,?_⟩;exact LRep.row none 0 0 0 0 [] (λ_ _=>.bool true) (Ql _) (by decide) (by simp) (by simp) (by simp) (by simp)
 ·simp only [if_true] at hm;subst hm;rw [Jq] at hz;have hlen:len<2^47:=by
   have h0:=hz ((len+(m-len))*prog.bytesOf e) (by simp [DataW.weights,hu]);have h1:len<=(len+(m-len))*prog.bytesOf e:=by
    have:=Zi (Kv len (m-len)) hb;omega
   have h2:(len+(m-len))*prog.bytesOf e<=reachBytes:=by simpa using h0
   exact Z3 (Qc h1 h2) reachBytes_lt
  have hel:∀ i,i<len->((D i).weights prog e).all (· <= reachBytes)=true:=λi hi=>by
   rw [Jq];intro k hk;refine hz k ?_;simp only [DataW.weights,hu];refine Qg _ (Qq.2 (.inl (JS (i:=i) ?_ k hk)));rw [Q6,Xx hi]; rfl
  have hone:∀ i,i<len->∃ z cs',Ok z/\zK w cs' (rw_ z)/\∀ j,j<sz->w.cell? ((a'.add (i*sz)).add j)=cs'[j]? := λi hi=>by
   obtain ⟨cs',hcs,htr⟩:=hr i (by omega);rw [hc] at hcs;obtain ⟨_,hl,hcell⟩:=World.cells?_some hcs;obtain ⟨z,hz1,hz2⟩:=elem _ _ _ htr (hel i hi);refine ⟨z,cs',hz1,hz2,λj hj=>?_⟩;rw [hcell j (by omega)]
  have hspot:0<len->a'.spot=none/\a'.block<w.heap.size:=λh0=>by
   obtain ⟨z,cs',_,⟨hl,_⟩,h3⟩:=hone 0 h0;have h4:=h3 0 hsz;have:(a'.add (0*sz)).add 0=a':=by simp [Addr.add]
   rw [this,Qe (by rw [hl,hw]; exact hsz)] at h4;exact Qmu h4
  obtain ⟨l,hll,hl⟩:∃ l:List α,l.length=len/\∀ i z,l[i]? = some z->Ok z/\∃ cs',zK w cs' (rw_ z)/\∀ j,j<sz->w.cell? ((a'.add (i*sz)).add j)=cs'[j]? := by
   have:∀ k,k<=len->∃ l:List α,l.length=k/\∀ i z,l[i]? = some z->Ok z/\∃ cs',zK w cs' (rw_ z)/\∀ j,j<sz->w.cell? ((a'.add (i*sz)).add j)=cs'[j]? := by
    intro k
    induction k with
    | zero=>intro _; exact ⟨[],rfl,λi z h=>by simp at h⟩
    |
     succ k ih =>
     intro hk;obtain ⟨l,h1,h2⟩:=ih (by omega);obtain ⟨z,cs',h3,h4,h5⟩:=hone k (by omega);refine ⟨l++[z],by simp [h1],λi y hy=>?_⟩;rcases Za i l.length with hi | hi
     ·rw [Zg hi] at hy; exact h2 i y hy
     ·rw [Z8 hi] at hy;have:i-l.length=0:=by
       rcases Q0 (i-l.length) with h | h
       ·exact h
       ·rw [Qw (by rw [Vr]; exact h)] at hy; cases hy
      rw [this] at hy;simp at hy;subst hy;have:i=k:=by omega
      subst this;exact ⟨h3,cs',h4,h5⟩
   exact this len (Ql _)
  refine ⟨_,l,rfl,λz hz=>?_,by rw [hll]; exact hlen,?_⟩
  ·obtain ⟨i,hi⟩:=Zj.1 hz;exact (hl i z hi).1
  ·have key:LRep w O0 (.slice (some a') (l.map rw_).length m) (.row (l.map rw_)):=by
    have hgl:∀ i c,(l.map rw_)[i]? = some c->∃ z,l[i]? = some z/\c=rw_ z/\i<len:=λi c h=>by
     rw [Q6] at h;cases e:l[i]? with
     | none=>rw [e] at h; cases h
     | some z=>rw [e] at h; simp at h; exact ⟨z,rfl,h.symm,by have:=(Qf.1 e).1; omega⟩
    have hcl:∀ i c,(l.map rw_)[i]? = some c->∃ cs':List Value,zK w cs' c/\∀ j,j<sz->w.cell? ⟨a'.block,a'.off+i*sz+j,none⟩=cs'[j]? := λi c h=>by
     obtain ⟨z,hz,rfl,hi⟩:=hgl i c h;obtain ⟨_,cs',h1,h2⟩:=hl i z hz;refine ⟨cs',h1,λj hj=>?_⟩;rw [<-h2 j hj,Qk4 (hspot (by omega)).1]
    refine LRep.row (some a') m sz a'.block a'.off (l.map rw_) (λi j=>(w.cell? ⟨a'.block,a'.off+i*sz+j,none⟩).getD (.bool true)) (by rw [Q8]; omega) ?_ ?_ ?_ ?_ ?_
    ·have:maxLen=2^63-1:=by rfl
     omega
    ·intro c hc2;obtain ⟨z,_,rfl⟩:=Q9.1 hc2;exact hw z
    ·intro h0;rw [Q8,hll] at h0;obtain ⟨hs,hb⟩:=hspot h0;refine ⟨?_,hb,by simp [O0]⟩;obtain ⟨b,o,s⟩:=a';simp only at hs;rw [hs]
    ·intro i c hi j hj;obtain ⟨z,_,rfl,_⟩:=hgl i c hi;obtain ⟨cs',⟨h1,_⟩,h2⟩:=hcl i _ hi;have hjs:j<sz:=by rw [<-hw z]; exact hj
     rw [h2 j hjs,Qe (by rw [h1]; exact hj)]; rfl
    ·intro i c hi j u hu2;obtain ⟨z,_,rfl,_⟩:=hgl i c hi;obtain ⟨cs',⟨h1,h3⟩,h2⟩:=hcl i _ hi;obtain ⟨v,hv,hr2⟩:=h3 j u hu2;have hjs:j<sz:=by rw [<-hw z]; exact (Qf.1 hu2).1
     show LRep w O0 ((w.cell? ⟨a'.block,a'.off+i*sz+j,none⟩).getD (.bool true)) u;rw [h2 j hjs,hv]; exact hr2
   rw [Q8,hll] at key;exact key
abbrev Qx5 (x:Nat):Uo:=[.int .u32 (x:Int)]
theorem Qj5:∀ fuel cs x,DataW.trod enc prog w 0 (λ_=>true) true fuel 124 cs=some x->(x.1.weights prog 124).all (· <= reachBytes)=true->∃ z:Nat,z<4294967296/\zK w cs (Qx5 z):=by
 intro fuel cs x h _;obtain ⟨n,rfl,_,hwf⟩:=DataW.trod_int underlying124 h;have hn:0<=n/\n<4294967296:=by
  have:0<=n/\n<=4294967295:=by simpa [Lit.wf,IntKind.min,IntKind.max,IntKind.signed,IntKind.bits] using hwf
  omega
 refine ⟨n.toNat,by omega,rfl,λj u hu=>?_⟩
 match j,hu with
 |
  0,hu =>
  simp at hu; subst hu;refine ⟨_,rfl,?_⟩;rw [show max n 0=n by omega];exact .int _ _
 | j+1,hu=>simp at hu
set_option maxRecDepth 20000 in
theorem XY:∀ fuel cs x,DataW.trod enc prog w 0 (λ_=>true) true fuel 36 cs=some x->(x.1.weights prog 36).all (· <= reachBytes)=true->∃ z:RawInt,z.Ok/\zK w cs (Ao z):=by
 intro fuel cs x h hz;obtain ⟨xs,n,_,rfl,hl,hxs,hf⟩:=DataW.trod_struct underlying36 h;have hl:cs.length=2:=hl
 match cs,hl with
 |
  [v0,v1],_ =>
  obtain ⟨z0,hz0⟩:=Tz (i:=0) hxs (by decide);obtain ⟨z1,hz1⟩:=Tz (i:=1) hxs (by decide);have h0:=hf 0 _ rfl;have h1:=hf 1 _ rfl;rw [hz0] at h0; rw [hz1] at h1;obtain ⟨b,e0,_⟩:=DataW.trod_bool underlying4 h0;have f0:v0=.bool b:=(List.cons.inj (show [v0]=[Value.bool b] from e0)).1;have hw1:=Me underlying36 hz (i:=1) rfl (d:=z1.1) (by rw [Q6,hz1]; rfl);obtain ⟨v,l,e1,hlo,_,hrep⟩:=FT (sz:=1) (Ok:=λu:Nat=>u<4294967296) (rw_:=Qx5) underlying34 (by kernel_rfl) (by decide) (of_decide_eq_true (by kernel_rfl)) (λ_=>rfl) Qj5 h1 hw1;have f1:v1=v:=(List.cons.inj (show [v1]=[v] from e1)).1;subst f0 f1;refine ⟨⟨b,l⟩,⟨hlo⟩,rfl,λj u hu=>?_⟩
  match j,hu with
  | 0,hu=>simp at hu; subst hu; exact ⟨_,rfl,.bool _⟩
  | 1,hu=>simp at hu; subst hu; exact ⟨_,rfl,hrep⟩
  | j+2,hu=>simp at hu
set_option maxRecDepth 20000 in
theorem nK:∀ fuel cs x,DataW.trod enc prog w 0 (λ_=>true) true fuel 40 cs=some x->(x.1.weights prog 40).all (· <= reachBytes)=true->∃ z:RawPt,z.Ok/\zK w cs (rwq z):=by
 intro fuel cs x h hz;obtain ⟨xs,n,_,rfl,hl,hxs,hf⟩:=DataW.trod_struct underlying40 h;have hl:cs.length=5:=hl
 match cs,hl with
 |
  [v0,v1,v2,v3,v4],_ =>
  obtain ⟨z0,hz0⟩:=Tz (i:=0) hxs (by decide);obtain ⟨z1,hz1⟩:=Tz (i:=1) hxs (by decide);have h0:=hf 0 _ rfl;have h1:=hf 1 _ rfl;rw [hz0] at h0; rw [hz1] at h1;obtain ⟨id,e4,_,hwf⟩:=DataW.trod_int underlying3 h1;have f4:v4=.int .i64 id:=(List.cons.inj (show [v4]=[Value.int .i64 id] from e4)).1;have hw0:=Me underlying40 hz (i:=0) rfl (d:=z0.1) (by rw [Q6,hz0]; rfl);obtain ⟨ys,n2,_,e5,_,hys,hg⟩:=DataW.trod_struct underlying38 h0;rw [e5] at hw0;obtain ⟨y0,hy0⟩:=Tz (i:=0) hys (by decide);obtain ⟨y1,hy1⟩:=Tz (i:=1) hys (by decide);obtain ⟨y2,hy2⟩:=Tz (i:=2) hys (by decide);have g0:=hg 0 _ rfl;have g1:=hg 1 _ rfl;have g2:=hg 2 _ rfl;rw [hy0] at g0; rw [hy1] at g1; rw [hy2] at g2;have w0:=Me underlying38 hw0 (i:=0) rfl (d:=y0.1) (by rw [Q6,hy0]; rfl);have w1:=Me underlying38 hw0 (i:=1) rfl (d:=y1.1) (by rw [Q6,hy1]; rfl);have w2:=Me underlying38 hw0 (i:=2) rfl (d:=y2.1) (by rw [Q6,hy2]; rfl);obtain ⟨u0,lx,e0,hx,_,rx⟩:=FT (sz:=2) (Ok:=RawInt.Ok) (rw_:=Ao) underlying33 (by kernel_rfl) (by decide) (of_decide_eq_true (by kernel_rfl)) (λ_=>rfl) XY g0 w0;obtain ⟨u1,ly,e1,hy,_,ry⟩:=FT (sz:=2) (Ok:=RawInt.Ok) (rw_:=Ao) underlying33 (by kernel_rfl) (by decide) (of_decide_eq_true (by kernel_rfl)) (λ_=>rfl) XY g1 w1;obtain ⟨d,hd,hde⟩:=XY _ _ _ g2 w2;have f0:v0=u0:=(List.cons.inj (show [v0]=[u0] from e0)).1;have f1:v1=u1:=(List.cons.inj (show [v1]=[u1] from e1)).1;have hde2:zK w [v2,v3] (Ao d):=hde;subst f0 f1 f4;obtain ⟨q2,hq2,r2⟩:=hde2.2 0 _ rfl;obtain ⟨q3,hq3,r3⟩:=hde2.2 1 _ rfl;simp at hq2 hq3;subst hq2 hq3;refine ⟨⟨lx,ly,d,id⟩,⟨hx,hy,hd,by simpa [Lit.wf,IntKind.min,IntKind.max,IntKind.signed,IntKind.bits] using hwf⟩,rfl,λj u hu=>?_⟩
  match j,hu with
  | 0,hu=>simp [rwq] at hu; subst hu; exact ⟨_,rfl,rx⟩
  | 1,hu=>simp [rwq] at hu; subst hu; exact ⟨_,rfl,ry⟩
  | 2,hu=>simp [rwq] at hu; subst hu; exact ⟨_,rfl,r2⟩
  | 3,hu=>simp [rwq] at hu; subst hu; exact ⟨_,rfl,r3⟩
  | 4,hu=>simp [rwq] at hu; subst hu; exact ⟨_,rfl,.int _ _⟩
  | j+5,hu=>simp [rwq] at hu
end Orr
namespace Orr
open Go Go.Proofs Tryz Go.ChangeShapes Go.WideShapes Go.ChangeAt Go.RowKit Go.WideElems
variable {H:Type} {enc:TypeId×Value->H} {w:World}
theorem Qgu:∀ fuel cs x,DataW.trod enc prog w 0 (λ_=>true) true fuel 3 cs=some x->(x.1.weights prog 3).all (· <= reachBytes)=true->∃ z:Int,(-9223372036854775808<=z/\z<=9223372036854775807)/\zK w cs [LV.int .i64 z]:=by
 intro fuel cs x h _;obtain ⟨n,rfl,_,hwf⟩:=DataW.trod_int underlying3 h;refine ⟨n,by simpa [Lit.wf,IntKind.min,IntKind.max,IntKind.signed,IntKind.bits] using hwf,rfl,λj u hu=>?_⟩
 match j,hu with
 |
  0,hu =>
  simp at hu; subst hu;exact ⟨_,rfl,.int _ _⟩
 | j+1,hu=>simp at hu
end Orr
namespace Orr
open Go Go.Proofs Tryz Go.ChangeShapes Go.WideShapes Go.ChangeAt Go.RowKit Go.WideElems
set_option maxRecDepth 10000
def NV (t:TypeId) (R:TV->Prop):Prop:=∀ {H:Type} {enc:TypeId×Value->H} {W:World} {base:Nat} {v:Value} {d:DataW H} {p:List MemPlace},Value.okWide prog W .any base t v->DataW.Trod enc prog W 0 (λ_=>true) true t v d p->(d.weights prog t).all (· <= reachBytes)=true->∃ u,R u/\TRep W (λ_=>False) (λ_=>none) v u
section
variable {H:Type} {enc:TypeId×Value->H} {W W':World} {base:Nat}
theorem rZ:∀ {ps:List (TypeId×(TV->Prop))} {args:List Value} {ds:List (DataW H)} {p:List MemPlace},DataW.TrodAll enc prog W 0 (λ_=>true) true (ps.map (·.1)) args ds p ->
 (∀ (j:Nat) t v,(ps.map (·.1))[j]? = some t->args[j]? = some v->Value.okWide prog W .any base t v)->(∀ (j:Nat) t d,(ps.map (·.1))[j]? = some t->ds[j]? = some d->(d.weights prog t).all (· ≤ reachBytes)=true)->(∀ q∈ps,NV q.1 q.2) ->
 ∃ us,F2 (λu (q:TypeId×(TV->Prop))=>q.2 u) us ps/\F2 (TRep W (λ_=>False) (λ_=>none)) args us/\ds.length=ps.length
 |
  [],args,ds,p,h,_,_,_=>by
  obtain ⟨rfl,rfl,rfl⟩:=trodAll_nil h;exact ⟨[],.nil,.nil,rfl⟩
 |
  q::ps,args,ds,p,h,hv,hw,hr=>by
  obtain ⟨v,vs,d,ds',p1,p2,rfl,rfl,rfl,h1,h2⟩:=trodAll_cons h;obtain ⟨u,r1,r2⟩:=hr q (Qx ..) (hv 0 q.1 v rfl rfl) h1 (hw 0 q.1 d rfl rfl);obtain ⟨us,s1,s2,s3⟩:=rZ h2 (λj t v h h'=>hv (j+1) t v (by simpa using h) (by simpa using h')) (λj t d h h'=>hw (j+1) t d (by simpa using h) (by simpa using h')) λq hq=>hr q (Qg _ hq)
  exact ⟨u::us,.cons r1 s1,.cons r2 s2,by simp [s3]⟩
theorem rN {sp':Nat->Bool} (hl:laidOutB prog=true):∀ {ps:List (TypeId×(TV->Prop))} {args:List Value} {ds:List (DataW H)} {p:List MemPlace},DataW.TrodAll enc prog W 0 (λ_=>true) true (ps.map (·.1)) args ds p ->
 (∀ q∈ps,prog.readableRec q.1=true/\q.1<prog.types.size)->(∀ x∈p,W.sameAt W' x)->(∀ x∈p,sp' x.block=true)->DataW.TrodAll enc prog W' 0 sp' true (ps.map (·.1)) args ds p
 |
  [],args,ds,p,h,_,_,_=>by
  obtain ⟨rfl,rfl,rfl⟩:=trodAll_nil h;exact trodAll_mk0
 |
  q::ps,args,ds,p,h,hr,hs,hb=>by
  obtain ⟨v,vs,d,ds',p1,p2,rfl,rfl,rfl,h1,h2⟩:=trodAll_cons h;obtain ⟨r1,r2⟩:=hr q (Qx ..);exact trodAll_cons_mk (Trod_stays hl r1 r2 h1 (λx hx=>hs x (Qq.2 (.inl hx))) λx hx=>hb x (Qq.2 (.inl hx))) (rN hl h2 (λq hq=>hr q (Qg _ hq)) (λx hx=>hs x (Qq.2 (.inr hx))) λx hx=>hb x (Qq.2 (.inr hx)))
end
theorem Qg6 {ps:List (TypeId×(TV->Prop))} {f:FuncId} {fn:Func} {s:ChangeSpec} (hp:fn.params=(ps.map (·.1)).toArray) (hr:fn.resultTypes = #[4]) (hv:s.vars=[])
 (hs:∀ (H:Type) (ds:List (DataW H)),ds.length=ps.length->s.fn H ds={ results:=[.lit (.bool true)],args:=ds })
 (hlaid:laidOutB prog=true) (hrec:∀ q∈ps,prog.readableRec q.1=true/\q.1<prog.types.size) (hrd:∀ q∈ps,NV q.1 q.2)
 (law:∀ us:Ur,F2 (λu (q:TypeId×(TV->Prop))=>q.2 u) us ps->EN prog f us [.one (.bool true)])
 {H:Type} {enc:TypeId×Value->H} {W:World} {base:Nat} {args:Array Value} {ds gs:List (DataW H)} {Tk:List MemPlace} {fresh handsOn:Bool}
 (hval:∀ (j:Nat) t v,fn.params[j]? = some t->args[j]? = some v->Value.okWide prog W .any base t v)
 (hW:DataW.Whole enc prog fn.params.toList s.vars false W args.toList ds gs Tk)
 (hz:(DataW.weightsEach prog (fn.params.toList++s.plain.varTypes prog) (ds++gs)).all (· <= reachBytes)=true) :
 Calls prog f args W λe W'=>∃ v,e=.returned v/\s.post enc prog fn false fresh handsOn false W args v W':=by
 have hW':=hW;obtain ⟨p,q,hA0,hV,rfl,hfz,hnd⟩:=hW;have hA:DataW.TrodAll enc prog W 0 (λ_=>true) true fn.params.toList args.toList ds p:=hA0;rw [hv] at hV;obtain ⟨rfl,rfl⟩:=trodVars_none hV;have hlt:=hW'.lt;rw [hp] at hA hval hz;have hA:DataW.TrodAll enc prog W 0 (λ_=>true) true (ps.map (·.1)) args.toList ds p:=by simpa using hA
 obtain ⟨us,r1,r2,r3⟩:=rZ (base:=base) hA (λj t v h h'=>hval j t v (by simpa using h) (by simpa using h')) (λj t d h h'=>by
  rw [Jq] at hz ⊢;intro k hk;have hj:j<(ps.map (·.1)).length:=(Qf.1 h).1;have hj2:j<ds.length:=(Qf.1 h').1;exact hz k (DataW.weights_mem_each (j:=j) (by rw [Zg (by simpa using hj)]; simpa using h) (by rw [Zg hj2]; exact h') k hk)) hrd
 have hcall:=(law us r1).2 (fr0 W) (λ_=>none) (λ_=>False) W args.toList (EM W) r2;have ea:args.toList.toArray=args:=by simp
 rw [ea] at hcall;refine hcall.mono λe W' ⟨v,u,Bo,E',M',he,⟨hu,hBo⟩,_,hm,har⟩=>?_
 subst hu;obtain rfl:v=.bool true:=by
  have h:LRep _ _ v (.bool true):=har;cases h;rfl
 refine ⟨_,he,?_⟩;refine ⟨ds,[],_,[],p,[],hW',?_,?_,?_,Qnp hm _,λh=>by cases h⟩
 ·rw [hr,Zw,hs H ds r3];exact trodAll_cons_mk (shut_bool underlying4 true) trodAll_mk0
 ·rw [hp,Zw,hs H ds r3];have hb:∀ x∈p,x.block<W.heap.size:=λx hx=>hlt x (by simp [hx])
  have:=rN (sp':=λb=>decide (b<W.heap.size)) hlaid hA hrec (λx hx=>Qo8 hm (hb x hx)) λx hx=>by simpa using hb x hx
  simpa using this
 ·rw [hv,Zw,hs H ds r3];rfl
abbrev Qvz (u:TV):Prop:=∃ n:Int,(-9223372036854775808<=n/\n<=9223372036854775807)/\u=.oi n
abbrev Qqc (u:TV):Prop:=∃ zs:Uj,(∀ z∈zs,-9223372036854775808≤z/\z≤9223372036854775807)/\u=.one (.row (idl zs))
theorem Qb3:NV 3 Qvz:=λ{H enc W base v d p} hv h _=>by
 obtain ⟨n,rfl,rfl,rfl,w1⟩:=open_int underlying3 hv h;exact ⟨_,⟨n,by simpa [Lit.wf,IntKind.min,IntKind.max,IntKind.signed,IntKind.bits] using w1,rfl⟩,show XRep W (λ_=>False) (λ_=>none) (.int .i64 n) (.int .i64 n) from (LRep.int .i64 n).x⟩
theorem qS {α:Type} {rw_:α->Uo} {Ok:α->Prop} {t e sz:Nat} (hu:prog.underlying t=some (.slice e)) (hc:prog.cellsOf e=sz) (hsz:0<sz) (hb:1<=prog.bytesOf e) (hw:∀ z,(rw_ z).length=sz)
 (elem:∀ {H:Type} {enc:TypeId×Value->H} {w:World} fuel cs x,DataW.trod enc prog w 0 (λ_=>true) true fuel e cs=some x->(x.1.weights prog e).all (· ≤ reachBytes)=true->∃ z,Ok z/\zK w cs (rw_ z)):NV t λu=>∃ l:List α,(∀ z∈l,Ok z)/\u=.one (.row (l.map rw_)):=λ{H enc W base v d p} hv h hz=>by
 obtain ⟨a,len,cap,rfl⟩:=okWide_slice hu hv;obtain ⟨fu,h⟩:=h;obtain ⟨v,l,e0,hok,_,hrep⟩:=FT hu hc hsz hb hw (λfuel cs x h h'=>elem fuel cs x h h') h hz;have f0:Value.slice a len cap=v:=(List.cons.inj (show [Value.slice a len cap]=[v] from e0)).1;subst f0;exact ⟨_,⟨l,hok,rfl⟩,show XRep W (λ_=>False) (λ_=>none) _ (.row (l.map rw_)) from hrep.x⟩
theorem nN:NV 54 Qqc:=qS (sz:=1) (Ok:=λz:Int=>-9223372036854775808<=z/\z<=9223372036854775807) (rw_:=λz:Int=>[LV.int .i64 z]) underlying54 (by kernel_rfl) (by decide) (of_decide_eq_true (by kernel_rfl)) (λ_=>rfl) λfuel cs x=>Qgu fuel cs x
end Orr
namespace Orr
open Go Go.Proofs Tryz Go.ChangeShapes Go.WideShapes Go.ChangeAt Go.RowKit Go.WideElems
set_option maxRecDepth 10000
theorem UK {w:World} {cs cs':List Value} {ls ls':Uo} (h:zK w cs ls) (h':zK w cs' ls'):zK w (cs++cs') (ls++ls'):=by
 refine ⟨by simp [h.1,h'.1],λj u hu=>?_⟩;by_cases hj:j<ls.length
 ·rw [Zg hj] at hu;obtain ⟨v,hv,hr⟩:=h.2 j u hu;exact ⟨v,by rw [Zg (by rw [h.1]; exact hj)]; exact hv,hr⟩
 ·rw [Z8 (by omega)] at hu;obtain ⟨v,hv,hr⟩:=h'.2 _ u hu;exact ⟨v,by rw [Z8 (by rw [h.1]; omega),h.1]; exact hv,hr⟩
theorem xT {w:World} {n:Int}:zK w [.int .i64 n] [.int .i64 n]:=⟨rfl,λj u hu=>by
 match j,hu with
 | 0,hu=>simp at hu; subst hu; exact ⟨_,rfl,.int _ _⟩
 | j+1,hu=>simp at hu⟩
section
variable {H:Type} {enc:TypeId×Value->H} {w:World}
set_option maxRecDepth 20000 in
theorem Qoa:∀ fuel cs x,DataW.trod enc prog w 0 (λ_=>true) true fuel 44 cs=some x->(x.1.weights prog 44).all (· <= reachBytes)=true->∃ z:RawOp,z.Ok/\zK w cs (rwo z):=by
 intro fuel cs x h hz;obtain ⟨xs,n,_,rfl,hl,hxs,hf⟩:=DataW.trod_struct underlying44 h;have hl:cs.length=12:=hl
 match cs,hl with
 |
  [v0,v1,v2,v3,v4,v5,v6,v7,v8,v9,v10,v11],_ =>
  obtain ⟨z0,hz0⟩:=Tz (i:=0) hxs (by decide);obtain ⟨z1,hz1⟩:=Tz (i:=1) hxs (by decide);obtain ⟨z2,hz2⟩:=Tz (i:=2) hxs (by decide);obtain ⟨z3,hz3⟩:=Tz (i:=3) hxs (by decide);obtain ⟨z4,hz4⟩:=Tz (i:=4) hxs (by decide);have h0:=hf 0 _ rfl;have h1:=hf 1 _ rfl;have h2:=hf 2 _ rfl;have h3:=hf 3 _ rfl;have h4:=hf 4 _ rfl;rw [hz0] at h0; rw [hz1] at h1; rw [hz2] at h2; rw [hz3] at h3; rw [hz4] at h4;obtain ⟨k,e0,_,w0⟩:=DataW.trod_int underlying3 h0;obtain ⟨m,e1,_,w1⟩:=DataW.trod_int underlying3 h1;obtain ⟨d,e2,_,w2⟩:=DataW.trod_int underlying3 h2;have f0:v0=.int .i64 k:=(List.cons.inj (show [v0]=[Value.int .i64 k] from e0)).1;have f1:v1=.int .i64 m:=(List.cons.inj (show [v1]=[Value.int .i64 m] from e1)).1;have f2:v2=.int .i64 d:=(List.cons.inj (show [v2]=[Value.int .i64 d] from e2)).1;have hw3:=Me underlying44 hz (i:=3) rfl (d:=z3.1) (by rw [Q6,hz3]; rfl);have hw4:=Me underlying44 hz (i:=4) rfl (d:=z4.1) (by rw [Q6,hz4]; rfl);obtain ⟨p,p1,p2⟩:=nK _ _ _ h3 hw3;have p2:zK w [v3,v4,v5,v6,v7] (rwq p):=p2;obtain ⟨ys,n2,_,e5,_,hys,hg⟩:=DataW.trod_struct underlying42 h4;rw [e5] at hw4;obtain ⟨y0,hy0⟩:=Tz (i:=0) hys (by decide);obtain ⟨y1,hy1⟩:=Tz (i:=1) hys (by decide);have g0:=hg 0 _ rfl;have g1:=hg 1 _ rfl;rw [hy0] at g0; rw [hy1] at g1;have x0:=Me underlying42 hw4 (i:=0) rfl (d:=y0.1) (by rw [Q6,hy0]; rfl);have x1:=Me underlying42 hw4 (i:=1) rfl (d:=y1.1) (by rw [Q6,hy1]; rfl);obtain ⟨t,t1,t2⟩:=XY _ _ _ g0 x0;obtain ⟨u,u1,u2⟩:=XY _ _ _ g1 x1;have t2:zK w [v8,v9] (Ao t):=t2;have u2:zK w [v10,v11] (Ao u):=u2;subst f0 f1 f2;exact ⟨⟨k,m,d,p,t,u⟩,⟨by simpa [Lit.wf,IntKind.min,IntKind.max,IntKind.signed,IntKind.bits] using w0,by simpa [Lit.wf,IntKind.min,IntKind.max,IntKind.signed,IntKind.bits] using w1,by simpa [Lit.wf,IntKind.min,IntKind.max,IntKind.signed,IntKind.bits] using w2,p1,t1,u1⟩,
   UK (UK (UK (UK (UK xT xT) xT) p2) t2) u2⟩
end
abbrev Qv0 (u:TV):Prop:=∃ l:List RawOp,(∀ o∈l,o.Ok)/\u=.one (.row (OA l))
theorem Qb4:NV 22 Qv0:=qS (sz:=12) (Ok:=RawOp.Ok) (rw_:=rwo) underlying22 (by kernel_rfl) (by decide) (of_decide_eq_true (by kernel_rfl)) (λ_=>rfl) λfuel cs x=>Qoa fuel cs x
end Orr
