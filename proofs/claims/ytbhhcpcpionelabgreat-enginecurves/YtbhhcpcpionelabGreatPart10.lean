/- MD3 MD4 MD5 MD6 X22 SD2 H4 En2 X20 X21 En3 EnZ En4 EnO EnK CurvL EnQ EnP EnR RawO EnA EnE W24 EnU EnV RatZ EnB EnG WC24 ReadN LastN LastR LastS ArgR -/
import Derived.Test.YtbhhcpcpionelabGreatPart09
import Derived.Test.YtbhhcpcpionelabGreatPart00
import Derived.Test.YtbhhcpcpionelabGreatPart08
import Derived.Test.YtbhhcpcpionelabGreatPart07
import Derived.Deep.Slices
import Derived.ProofKit
import Derived.OpenShut
import Derived.WideKeyArgs
import Derived.SizedLaws
set_option linter.all false
namespace Orr
open Go Go.Proofs Tryz Orq
set_option maxRecDepth 10000
set_option maxHeartbeats 8000000 in
theorem AG {l:List Pt} {a:Tm} {c:Cr} {r1:Uq} (hl:∀ p∈l,Sc p.c) (hn:l.length≤6) (ha:Va a):U0 prog 131 [.one (.ow 0 0),.agg (ta a)] [.blk 205 (Ht c (Uv l) r1)] [.one (.row (U3 (vW l a)))] [.blk 205 (Ht c (Uv l) (oO l a))]:=by
 have hwl:=Oz l;have cw:=pX (l:=l) (oK hl) (by omega);have hgb:=Qgq a;unfold oO vW fK OG;obtain ⟨sg',hsg⟩:∃ s,s=Fl a:=⟨_,rfl⟩;obtain ⟨W,hW⟩:=nmE (Ta l);have hWs:∀ p∈W,Sc p.c:=λp hp=>hl p (Nc (by rw [<-hW]; exact hp))
 have mR:=λ{x y z:Pt} (hx:x∈W) (hy:y∈W) (hz:z∈W)=>dV (t:=a) (hWs x hx) (hWs y hy) (hWs z hz) ha
 have mC:=λ{x y z u:Pt} (hx:x∈W) (hy:y∈W) (hz:z∈W) (hu:u∈W)=>Qlu (t:=a) (hWs x hx) (hWs y hy) (hWs z hz) (hWs u hu) ha
 rw [<-hW] at cw hwl ⊢;rw [<-hsg] at hgb mR mC ⊢;have hW6:W.length<=6:=by omega
 have hTi:=λps=>Qbl hgb ps
 have hcp:(W.map U6).length=W.length:=by simp
 have hcp2:=Gu W;have hdr:∀ i,(Uv W).drop i=Uv (W.drop i):=λi=>by unfold Uv; rw [List.map_drop]
 have hel:∀ z∈Uv W,z.length=5:=λz hz=>by obtain ⟨p,_,rfl⟩:=Za.1 hz; rfl
 have s7:∀ x:Ct,∀ y∈[C6 x],y.length=7:=λx y hy=>by rw [Qk.1 hy]; rfl
 have s3:∀ x:P3,∀ y∈[trL x],y.length=3:=λx y hy=>by rw [Qk.1 hy]; rfl
 obtain ⟨T,hT⟩:=nmE (Aq (ZF sg' (Rj W)));obtain ⟨G,hG⟩:=nmE (I5 T (YO sg' (Ot W)));have hTI:vG T:=by rw [hT]; exact hTi _
 have hTm:Qkz T:=λk=>(hTI k).1
 have hGB:Qcz G:=λk=>by rw [hG]; exact sS _ _ _ k
 rw [<-hT,<-hG];have e0:(U3 (((Lc 0 W).map (SO sg'))))=[]:=rfl;refine Ft func131 rfl ?_;refine Ub [.k cw,.o 6 136 7] rfl ?_;refine Ug (S:=Nat) 4 (λL1 i=>(42,.v (.oi i))::(6,.v (.one (.orow 2 7 none)))::L1) (λi=>[.blk 205 (Ht c (Uv l) r1),.blk 189 (ta a),.row false 136 7 (U3 ((Lc i W).map (SO sg'))),.mpb (Aq (ZF sg' (Lc i W)))]) (λi=>W.length-i) (λi=>i<=W.length) 0 (Qh _) rfl rfl λi hi=>?_
 by_cases hlt:i<W.length
 ·obtain ⟨x,hx⟩:=gxE (l:=W) (i:=i) hlt;have xm:=Qa hx;obtain ⟨V,hV⟩:=nmE (W.drop (i+1));have hVl:V.length=W.length-(i+1):=by rw [hV,Q8]
  have hVm:∀ p∈V,p∈W:=λp hp=>by rw [hV] at hp; exact Qz hp
  have eV:(Uv W).drop (i+1)=Uv V:=by rw [hdr,<-hV]
  rw [<-DV W x i];refine go tt [.T,.x (Rv hx),.r 49 (eI (b:=((i+1:Nat):Int)) (by omega)),.i (i+1),.r 50 (UX eV)] rfl (by simp only [Uw]; (repeat' apply And.intro) <;> first | omega | exact hel) ?_;have hVr:=Gu V;refine Ug (S:=Nat) 5 (λL1 j=>(52,.v (.oi j))::(6,.v (.one (.orow 2 7 none)))::L1) (λj=>[.blk 205 (Ht c (Uv l) r1),.blk 189 (ta a),.row false 136 7 (U3 ((p3j W x i j).map (SO sg'))),.mpb (Aq (ZF sg' (p3j W x i j))),.blk 38 (U6 x)]) (λj=>V.length-j) (λj=>j<=V.length) 0 (Qh _) rfl rfl λj hj=>?_
  by_cases hltj:j<V.length
  ·obtain ⟨y,hy⟩:=gxE (l:=V) (i:=j) hltj;have ym:=hVm y (Qa hy);have hy':(W.drop (i+1))[j]? = some y:=by rw [<-hV]; exact hy
   obtain ⟨U,hU⟩:=nmE (V.drop (j+1));have hUl:U.length=V.length-(j+1):=by rw [hU,Q8]
   have hUm:∀ p∈U,p∈W:=λp hp=>by rw [hU] at hp; exact hVm p (Qz hp)
   have hUW:U=(W.drop (i+1)).drop (j+1):=by rw [hU,hV]
   have eU:(Uv W).drop (i+j+2)=Uv U:=by rw [hdr,hU,hV,Ju]; congr 2; omega
   have hUr:=Gu U;rw [<-DW W x y i j];refine go tt [.T,.x (Rv hy),.r 61 (eI (b:=((i+j+2:Nat):Int)) (by omega)),.i (i+j+2),.r 62 (UX eU)] rfl (by simp only [Uw]; (repeat' apply And.intro) <;> first | omega | exact hel) ?_;refine Ug (S:=Nat) 6 (λL1 k=>(64,.v (.oi k))::(6,.v (.one (.orow 2 7 none)))::L1) (λk=>[.blk 205 (Ht c (Uv l) r1),.blk 189 (ta a),.row false 136 7 (U3 ((OC W x y i j k).map (SO sg'))),.mpb (Aq (ZF sg' (OC W x y i j k))),.blk 38 (U6 x),.blk 38 (U6 y)]) (λk=>U.length-k) (λk=>k<=U.length) 0 (Qh _) rfl rfl λk hk=>?_
   by_cases hltk:k<U.length
   ·obtain ⟨z,hz⟩:=gxE (l:=U) (i:=k) hltk;have zm:=hUm z (Qa hz);have hlen:=aB hW6 (k:=k) hx hy';have en:=DK (x:=x) (y:=y) (by rw [<-hUW]; exact hz);have et:=cR sg' (OC W x y i j k) (x,y,z);rw [<-en] at et;refine go tt [.T,.x (Rv hz),.k (mR xm ym zm),.s (sz:=7) (s7 _)] rfl (by simp [Uw,S8] <;> omega) ?_;exact rd (k+1) (by omega) hltk (by rw [et,en,Ye]; simp [U3]; rfl)
   ·have e:=jM (x:=x) (k:=k) hy' (by rw [<-hUW]; omega);rw [e];refine go tt [.F] rfl (by simp [Uw] <;> omega) ?_;exact rd (j+1) (by omega) hltj rfl
  ·have e:=jP (x:=x) (j:=j) hx (by rw [<-hV]; omega);rw [e];refine go tt [.F] rfl (by simp [Uw] <;> omega) ?_;exact rd (i+1) (by omega) hlt rfl
 rw [iI (show i=W.length by omega),<-hT];have hiW:¬i<W.length:=hlt;clear hlt;obtain ⟨C3,hC3⟩:=nmE ((Rj W).map (SO sg'));have hC3l:C3.length<=20:=by rw [hC3,Q7]; exact (YG hW6).1
 rw [<-hC3];refine Ub [.F] rfl ?_;have eC:U3 C3=U3 (C3++(Ee 0 W).map (GE sg')):=by rw [show Ee 0 W=[] from rfl,X7,Zx]
 rw [eC];refine Ug (S:=Nat) 5 (λL1 i=>(97,.v (.oi i))::(6,.v (.one (.orow 2 7 none)))::L1) (λi=>[.blk 205 (Ht c (Uv l) r1),.blk 189 (ta a),.row false 136 7 (U3 (C3++(Ee i W).map (GE sg'))),.mpb T,.mpb (I5 T (YO sg' (Ee i W)))]) (λi=>W.length-i) (λi=>i<=W.length) 0 (Qh _) rfl rfl λi hi=>?_
 by_cases hlt:i<W.length
 ·obtain ⟨x,hx⟩:=gxE (l:=W) (i:=i) hlt;have xm:=Qa hx;obtain ⟨V,hV⟩:=nmE (W.drop (i+1));have hVl:V.length=W.length-(i+1):=by rw [hV,Q8]
  have hVm:∀ p∈V,p∈W:=λp hp=>by rw [hV] at hp; exact Qz hp
  have eV:(Uv W).drop (i+1)=Uv V:=by rw [hdr,<-hV]
  have hVr:=Gu V;rw [<-Qh2 W x i];refine go tt [.T,.x (Rv hx),.r 104 (eI (b:=((i+1:Nat):Int)) (by omega)),.i (i+1),.r 105 (UX eV)] rfl (by simp only [Uw]; (repeat' apply And.intro) <;> first | omega | exact hel) ?_;refine Ug (S:=Nat) 6 (λL1 j=>(107,.v (.oi j))::(6,.v (.one (.orow 2 7 none)))::L1) (λj=>[.blk 205 (Ht c (Uv l) r1),.blk 189 (ta a),.row false 136 7 (U3 (C3++(p4j W x i j).map (GE sg'))),.mpb T,.mpb (I5 T (YO sg' (p4j W x i j))),.blk 38 (U6 x)]) (λj=>V.length-j) (λj=>j<=V.length) 0 (Qh _) rfl rfl λj hj=>?_
  by_cases hltj:j<V.length
  ·obtain ⟨y,hy⟩:=gxE (l:=V) (i:=j) hltj;have ym:=hVm y (Qa hy);have hy':(W.drop (i+1))[j]? = some y:=by rw [<-hV]; exact hy
   obtain ⟨U,hU⟩:=nmE (V.drop (j+1));have hUl:U.length=V.length-(j+1):=by rw [hU,Q8]
   have hUm:∀ p∈U,p∈W:=λp hp=>by rw [hU] at hp; exact hVm p (Qz hp)
   have hUW:U=(W.drop (i+1)).drop (j+1):=by rw [hU,hV]
   have eU:(Uv W).drop (i+j+2)=Uv U:=by rw [hdr,hU,hV,Ju]; congr 2; omega
   have hUr:=Gu U;rw [<-Qh3 W x y i j];refine go tt [.T,.x (Rv hy),.r 116 (eI (b:=((i+j+2:Nat):Int)) (by omega)),.i (i+j+2),.r 117 (UX eU)] rfl (by simp only [Uw]; (repeat' apply And.intro) <;> first | omega | exact hel) ?_;refine Ug (S:=Nat) 7 (λL1 k=>(119,.v (.oi k))::(6,.v (.one (.orow 2 7 none)))::L1) (λk=>[.blk 205 (Ht c (Uv l) r1),.blk 189 (ta a),.row false 136 7 (U3 (C3++(p4k W x y i j k).map (GE sg'))),.mpb T,.mpb (I5 T (YO sg' (p4k W x y i j k))),.blk 38 (U6 x),.blk 38 (U6 y)]) (λk=>U.length-k) (λk=>k<=U.length) 0 (Qh _) rfl rfl λk hk=>?_
   by_cases hltk:k<U.length
   ·obtain ⟨z,hz⟩:=gxE (l:=U) (i:=k) hltk;have zm:=hUm z (Qa hz);have hz':((W.drop (i+1)).drop (j+1))[k]? = some z:=by rw [<-hUW]; exact hz
    obtain ⟨R,hR⟩:=nmE (U.drop (k+1));have hRl:R.length=U.length-(k+1):=by rw [hR,Q8]
    have hRm:∀ p∈R,p∈W:=λp hp=>by rw [hR] at hp; exact hUm p (Qz hp)
    have hRW:R=((W.drop (i+1)).drop (j+1)).drop (k+1):=by rw [hR,hUW]
    have eR:(Uv W).drop (i+j+k+3)=Uv R:=by rw [hdr,hRW,Ju,Ju]; congr 2; omega
    have hRr:=Gu R;rw [<-Qh5 W x y z i j k];refine go tt [.T,.x (Rv hz),.r 130 (eI (b:=((i+j+k+3:Nat):Int)) (by omega)),.i (i+j+k+3),.r 131 (UX eR)] rfl (by simp only [Uw]; (repeat' apply And.intro) <;> first | omega | exact hel) ?_;refine Ug (S:=Nat) 8 (λL1 m=>(133,.v (.oi m))::(6,.v (.one (.orow 2 7 none)))::L1) (λm=>[.blk 205 (Ht c (Uv l) r1),.blk 189 (ta a),.row false 136 7 (U3 (C3++(p4m W x y z i j k m).map (GE sg'))),.mpb T,.mpb (I5 T (YO sg' (p4m W x y z i j k m))),.blk 38 (U6 x),.blk 38 (U6 y),.blk 38 (U6 z)]) (λm=>R.length-m) (λm=>m<=R.length) 0 (Qh _) rfl rfl λm hm=>?_
    by_cases hltm:m<R.length
    ·obtain ⟨u,hu⟩:=gxE (l:=R) (i:=m) hltm;have um:=hRm u (Qa hu);have hlen:=Qoc hW6 (m:=m) hx hy' hz';have en:=Qh4 (x:=x) (y:=y) (z:=z) (by rw [<-hRW]; exact hu);have et:=mJ sg' T (p4m W x y z i j k m) (x,y,z,u);rw [<-en] at et;have cf:=Qsp (F:=I5 T (YO sg' (p4m W x y z i j k m))) (s:=(OR sg' x y z u).want) (n0:=x.id) (n1:=y.id) (n2:=z.id) (n3:=u.id) hTI (hgb _);refine go tt [.T,.x (Rv hu),.k (mC xm ym zm um),.s (sz:=7) (s7 _),.c [4,3] cf] rfl (by simp [Uw,S8] <;> omega) ?_;exact rd (m+1) (by omega) hltm (by rw [et,en,Ye,<-Zc]; simp [U3]; rfl)
    ·have e:=Qob (x:=x) (y:=y) (m:=m) hz' (by rw [<-hRW]; omega);rw [e];refine go tt [.F] rfl (by simp [Uw] <;> omega) ?_;exact rd (k+1) (by omega) hltk rfl
   ·have e:=Qoa (x:=x) (k:=k) hy' (by rw [<-hUW]; omega);rw [e];refine go tt [.F] rfl (by simp [Uw] <;> omega) ?_;exact rd (j+1) (by omega) hltj rfl
  ·have e:=Qn9 (x:=x) (j:=j) hx (by rw [<-hV]; omega);rw [e];refine go tt [.F] rfl (by simp [Uw] <;> omega) ?_;exact rd (i+1) (by omega) hlt rfl
 rw [Qos (show i=W.length by omega),<-hG];obtain ⟨C4,hC4⟩:=nmE (C3++(Ot W).map (GE sg'));rw [<-hC4];refine Ub [.F] rfl ?_;refine ozM 0 13 69 3 rfl rfl ?_;have eT:([]:Uq)=QL ((Lc 0 W).filter (xN T G)):=rfl;rw [eT];refine Ug (S:=Nat) 6 (λL1 i=>(174,.v (.oi i))::L1) (λi=>[.blk 205 [.bool true,pl c.now.p,sg c.now.lo.num,mg c.now.lo.num,sg (c.now.lo.den:Int),mg (c.now.lo.den:Int),sg c.now.hi.num,mg c.now.hi.num,sg (c.now.hi.den:Int),mg (c.now.hi.den:Int),.row (Bp c.l),.int .i64 c.ev,.row (Uv l),.orow 5 3 none],.blk 189 (ta a),.row false 136 7 (U3 C4),.mpb T,.mpb G,.row false 69 3 (QL ((Lc i W).filter (xN T G)))]) (λi=>W.length-i) (λi=>i<=W.length) 0 (Qh _) rfl rfl λi hi=>?_
 by_cases hlt:i<W.length
 ·obtain ⟨x,hx⟩:=gxE (l:=W) (i:=i) hlt;obtain ⟨V,hV⟩:=nmE (W.drop (i+1));have hVl:V.length=W.length-(i+1):=by rw [hV,Q8]
  have eV:(Uv W).drop (i+1)=Uv V:=by rw [hdr,<-hV]
  have hVr:=Gu V;rw [<-DV W x i];refine go tt [.T,.x (Rv hx),.r 181 (eI (b:=((i+1:Nat):Int)) (by omega)),.i (i+1),.r 182 (UX eV)] rfl (by simp only [Uw]; (repeat' apply And.intro) <;> first | omega | exact hel) ?_;refine Ug (S:=Nat) 7 (λL1 j=>(184,.v (.oi j))::L1) (λj=>[.blk 205 [.bool true,pl c.now.p,sg c.now.lo.num,mg c.now.lo.num,sg (c.now.lo.den:Int),mg (c.now.lo.den:Int),sg c.now.hi.num,mg c.now.hi.num,sg (c.now.hi.den:Int),mg (c.now.hi.den:Int),.row (Bp c.l),.int .i64 c.ev,.row (Uv l),.orow 5 3 none],.blk 189 (ta a),.row false 136 7 (U3 C4),.mpb T,.mpb G,.row false 69 3 (QL ((p3j W x i j).filter (xN T G))),.blk 38 (U6 x)]) (λj=>V.length-j) (λj=>j<=V.length) 0 (Qh _) rfl rfl λj hj=>?_
  by_cases hltj:j<V.length
  ·obtain ⟨y,hy⟩:=gxE (l:=V) (i:=j) hltj;have hy':(W.drop (i+1))[j]? = some y:=by rw [<-hV]; exact hy
   obtain ⟨U,hU⟩:=nmE (V.drop (j+1));have hUl:U.length=V.length-(j+1):=by rw [hU,Q8]
   have hUW:U=(W.drop (i+1)).drop (j+1):=by rw [hU,hV]
   have eU:(Uv W).drop (i+j+2)=Uv U:=by rw [hdr,hU,hV,Ju]; congr 2; omega
   have hUr:=Gu U;rw [<-DW W x y i j];refine go tt [.T,.x (Rv hy),.r 193 (eI (b:=((i+j+2:Nat):Int)) (by omega)),.i (i+j+2),.r 194 (UX eU)] rfl (by simp only [Uw]; (repeat' apply And.intro) <;> first | omega | exact hel) ?_;refine Ug (S:=Nat) 8 (λL1 k=>(196,.v (.oi k))::L1) (λk=>[.blk 205 [.bool true,pl c.now.p,sg c.now.lo.num,mg c.now.lo.num,sg (c.now.lo.den:Int),mg (c.now.lo.den:Int),sg c.now.hi.num,mg c.now.hi.num,sg (c.now.hi.den:Int),mg (c.now.hi.den:Int),.row (Bp c.l),.int .i64 c.ev,.row (Uv l),.orow 5 3 none],.blk 189 (ta a),.row false 136 7 (U3 C4),.mpb T,.mpb G,.row false 69 3 (QL ((OC W x y i j k).filter (xN T G))),.blk 38 (U6 x),.blk 38 (U6 y)]) (λk=>U.length-k) (λk=>k<=U.length) 0 (Qh _) rfl rfl λk hk=>?_
   by_cases hltk:k<U.length
   ·obtain ⟨z,hz⟩:=gxE (l:=U) (i:=k) hltk;have hlen:=aB hW6 (k:=k) hx hy';have en:=DK (x:=x) (y:=y) (by rw [<-hUW]; exact hz);have hfl:=Yz (xN T G) (OC W x y i j k);have htl:=tY ((OC W x y i j k).filter (xN T G));by_cases h1:ZK T [x.id,y.id,z.id]≠0
    ·by_cases h2:NK G [x.id,y.id,z.id]=true
     ·have ef:xN T G (x,y,z)=false:=by unfold xN mT; simp [h2]
      have eF:=Qgb (ps:=OC W x y i j k) ef;rw [<-en] at eF;refine go tt [.T,.x (Rv hz),.g 211 true (decide_eq_true h1),.f (by rw [h2]; rfl)] rfl (by simp only [Uw]; (repeat' apply And.intro) <;> first | exact hTm | exact hGB | omega | (simp only [Q6,Xx]; omega)) ?_;exact rd (k+1) (by omega) hltk (by rw [eF]; rfl)
     ·have h2:NK G [x.id,y.id,z.id]=false:=by simpa using h2
      have ef:xN T G (x,y,z)=true:=by unfold xN mT; simp [h2,h1]
      have eF:=Qtm (ps:=OC W x y i j k) ef;rw [<-en] at eF;refine go tt [.T,.x (Rv hz),.g 211 true (decide_eq_true h1),.t (by rw [h2]; rfl),.s (sz:=3) (s3 (x,y,z))] rfl (by simp only [Uw]; (repeat' apply And.intro) <;> first | exact hTm | exact hGB | omega | (simp only [Q6,Xx]; omega)) ?_;exact rd (k+1) (by omega) hltk (by rw [eF]; simp [QL]; rfl)
    ·have ef:xN T G (x,y,z)=false:=by unfold xN mT; simp [h1]
     have eF:=Qgb (ps:=OC W x y i j k) ef;rw [<-en] at eF;refine go tt [.T,.x (Rv hz),.g 211 false (decide_eq_false h1),.f rfl] rfl (by simp only [Uw]; (repeat' apply And.intro) <;> first | exact hTm | exact hGB | omega | (simp only [Q6,Xx]; omega)) ?_;exact rd (k+1) (by omega) hltk (by rw [eF]; rfl)
   ·have e:=jM (x:=x) (k:=k) hy' (by rw [<-hUW]; omega);rw [e];refine go tt [.F] rfl (by simp [Uw] <;> omega) ?_;exact rd (j+1) (by omega) hltj rfl
  ·have e:=jP (x:=x) (j:=j) hx (by rw [<-hV]; omega);rw [e];refine go tt [.F] rfl (by simp [Uw] <;> omega) ?_;exact rd (i+1) (by omega) hlt rfl
 rw [iI (show i=W.length by omega)];rw [hC4,hC3];exact Uf [2,5] [0] [.F] rfl
theorem Qwe {T:Nat} {t:Rat} {Bc:Tm->List Ct} {Br:Tm->Uq} {r0:Uq} (ht:Qs 1640000 t) (hB:BuildOk Bc)
 (hb:∀ a c r1,Va a->CrOk c->U0 prog 131 [.one (.ow 0 0),.agg (ta a)] [.blk T (Ht c r0 r1)] [.one (.row (U3 (Bc a)))] [.blk T (Ht c r0 (Br a))])
 {K:Nat} {c c':Cr} {r1 r1':Uq} {n:Int} (hc:CrOk c) (hev:0<=c.ev/\c.ev+K<=1000000000000000000) (h:Fh c.now t<=0) (hg:WV Bc Br t K c r1 0=some (c',r1',n)) :
 U0 prog 366 [.one (.ow 0 0),.agg (rl t),.one (.ofn 131 [.ow 0 0] [])] [.blk T (Ht c r0 r1)] [.oi n,.oi 0] [.blk T (Ht c' r0 r1')]:=by
 have qt:Qb t:=ht.mono (by decide);have c1:=Cz hc.n.tb qt;refine Ft func366 rfl ?_;refine Ub [.c [0] (O6 hc.n),.k c1,.f (by simpa using h)] rfl ?_;refine Ug (S:=Nat×Cr×Uq×Int) 2 (λL1 s=>(8,.v (.oi s.2.2.2))::L1) (λs=>[.blk T (Ht s.2.1 r0 s.2.2.1),.blk 40 (rl t)]) (λs=>s.1) (λs=>CrOk s.2.1/\(0<=s.2.1.ev/\s.2.1.ev+s.1<=1000000000000000000)/\(0<=s.2.2.2/\s.2.2.2+s.1<=1000000000000000000)/\WV Bc Br t s.1 s.2.1 s.2.2.1 s.2.2.2=some (c',r1',n)) (K,c,r1,0) ⟨hc,hev,⟨Int.le_refl 0,by dsimp only; omega⟩,hg⟩ rfl rfl λ⟨k,x,r,m⟩ ⟨j1,j2,j3,j4⟩=>?_
 dsimp only at j1 j2 j3 j4 ⊢;cases k with
 | zero=>cases j4
 |
  succ k =>
  simp only [WV] at j4;obtain ⟨ws,w1,j4⟩:=Qd.1 j4;obtain ⟨o,o1,j4⟩:=Qd.1 j4;have cn:=PG (T:=T) (r0:=r0) (r1:=r) j1 w1 o1;have ca:=VY (Uy t.num) (Uy (t.den:Int)) (Qc ht.1 (by decide)) (Qc ht.2 (by decide)) (by rw [Pe]; exact ht.mono (by decide));rw [Pe] at ca;cases o with
  |
   none =>
   injection j4 with j4; injection j4 with e1 j4; injection j4 with e2 e3;subst e1; subst e2; subst e3;exact Uf [] [0] [.c [0] cn,.g 25 true rfl,.t rfl,.k ca] rfl
  |
   some a =>
   have ha:=DJ j1 w1 o1;dsimp only at j4;have cc:=Cz ha.tb qt;by_cases h0:0<Fh a t
   ·rw [if_pos h0] at j4;injection j4 with j4; injection j4 with e1 j4; injection j4 with e2 e3;subst e1; subst e2; subst e3;exact Uf [] [0] [.c [0] cn,.g 25 false rfl,.k cc,.t (by simpa using h0),.k ca] rfl
   ·rw [if_neg h0] at j4;obtain ⟨w2,l1,j4⟩:=Qd.1 j4;have j1':=Ea j1 w1;have cl:=Su (b:=a) (l:=[]) ha.tb (λt ht=>by cases ht) (by decide) rfl;have cb:=hb a { x with l:=ws } r ha j1';have cy:=WS (T:=T) (r0:=r0) (r1:=Br a) j1' ha (hB.p a ha) (hB.n a ha) l1;have hf:decide (0<Fh a t)=false:=by simpa using h0
    refine Uc [.c [0] cn,.g 25 false rfl,.k cc,.f hf,.k cl,.c [0] cb,.c [0] cy] rfl ?_;exact rd (k,⟨a,w2,x.ev+1⟩,Br a,m+1) (by dsimp only; omega) ⟨lay_ok _ j1' ha (hB.p a ha) (hB.n a ha) l1,by dsimp only; omega,by dsimp only; omega,j4⟩ rfl
theorem Qr3 {t:Rat} {l:List Pt} {K:Nat} {c c':Cr} {r1 r1':Uq} {n:Int} (ht:Qs 1640000 t) (hl:∀ p∈l,Sc p.c) (hn:l.length≤6) (hc:CrOk c) (hev:0≤c.ev/\c.ev+K≤1000000000000000000) (h:Fh c.now t≤0) (hg:WV (vW l) (oO l) t K c r1 0=some (c',r1',n)) :
 U0 prog 403 [.one (.ow 0 0),.agg (rl t)] [.blk 205 (Ht c (Uv l) r1)] [.oi n,.oi 0] [.blk 205 (Ht c' (Uv l) r1')]:=by
 have cg:=Qwe (T:=205) (r0:=Uv l) ht (sY hl hn) (λa c r1 ha _=>AG (c:=c) (r1:=r1) hl hn ha) hc hev h hg;refine Ft func403 rfl ?_;exact Uf [] [0] [.k (Bw (ht.mono (by decide))),.c [0] cg] rfl
theorem sC {c:Cr} {r0:Uq} {ts:List P3} (ht:ts.length<=1000):U0 prog 65 [.one (.ow 0 0)] [.blk 205 (Ht c r0 (QL ts))] [.one (.row (QL ts))] [.blk 205 (Ht c r0 (QL ts))]:=by
 have hl:=tY ts;have h3:∀ y∈QL ts,y.length=3:=λy hy=>by obtain ⟨m,_,rfl⟩:=Za.1 hy; rfl
 refine Ft func65 rfl ?_;exact Uf [1] [0] [.s (sz:=3) h3] rfl (by simp [Uw] <;> omega)

theorem vA {c:Cr} {l l':List Pt} {r1:Uq} {ws:List Wt} (hc:CrOk c) (hl:∀ p∈l',Sc p.c) (hn:l'.length≤6) (h:Sj c.l c.now (Fg (vW l' c.now))=some ws) :
 U0 prog 407 [.one (.ow 0 0),.agg [pts l'],.oi 0] [.blk 205 (Ht c (Uv l) r1)] [.oi 0] [.blk 205 (Ht ⟨c.now,ws,c.ev⟩ (Uv l') (oO l' c.now))]:=by
 have hB:=sY hl hn;have cn:=O6 (T:=205) (c:=c) (r0:=Uv l') (r1:=r1) hc.n;have cb:=AG (c:=c) (r1:=r1) hl hn hc.n;have cg:=JS (T:=205) (r0:=Uv l') (r1:=oO l' c.now) hc hc.n (Iw hc.n) (Yb 0) (hB.p _ hc.n) (hB.n _ hc.n) h;refine Ft func407 rfl ?_;exact Uf [] [0] [.f rfl,.c [0] cn,.c [0] cb,.c [0] cg] rfl
theorem Qlo {lx ly:Uq} {px py:Uk} {x y:LV} {d id:Int} {c:Cr} {l:List Pt} {r1:Uq} {ws:List Wt} (hx:IsInts lx px) (hy:IsInts ly py) (hd:Gv x y d) (hk:Cs 4294967294 1073741824 (Crv.mk px py d)) (hll:l.length<=900)
 (he:KB l ⟨Crv.norm (Crv.mk px py d),id⟩=0) (hc:CrOk c) (hl:∀ p∈put l ⟨Crv.norm (Crv.mk px py d),id⟩,Sc p.c) (hn:(put l ⟨Crv.norm (Crv.mk px py d),id⟩).length≤6) (h:Sj c.l c.now (Fg (vW (put l ⟨Crv.norm (Crv.mk px py d),id⟩) c.now))=some ws) :
 U0 prog 405 [.one (.ow 0 0),.agg [.row lx,.row ly,x,y,.int .i64 id]] [.blk 205 (Ht c (Uv l) r1)] [.oi 0] [.blk 205 (Ht ⟨c.now,ws,c.ev⟩ (Uv (put l ⟨Crv.norm (Crv.mk px py d),id⟩)) (oO (put l ⟨Crv.norm (Crv.mk px py d),id⟩) c.now))]:=by
 have cp:=kK (l:=l) (id:=id) hx hy hd hk (by omega);rw [if_pos he,he] at cp;have cw:=vA (l:=l) (r1:=r1) hc hl hn h;refine Ft func405 rfl ?_;obtain ⟨b,l',rfl,rfl,_⟩:=hd;exact Uf [] [0] [.k cp,.c [0] cw] rfl
theorem Qdk {id:Int} {c:Cr} {l l':List Pt} {r1:Uq} {ws:List Wt} (hll:l.length<=6) (h:has l id=true) (hc:CrOk c)
 (hl':l'=l.take (Tr l id)++l.drop (Tr l id+1)) (hs:∀ p∈l',Sc p.c) (hw:Sj c.l c.now (Fg (vW l' c.now))=some ws) :
 U0 prog 404 [.one (.ow 0 0),.oi id] [.blk 205 (Ht c (Uv l) r1)] [.oi 0] [.blk 205 (Ht ⟨c.now,ws,c.ev⟩ (Uv l') (oO l' c.now))]:=by
 have ct1:=WM (l:=l) (id:=id) (by omega) h;rw [<-hl'] at ct1;have cw:=vA (c:=c) (l:=l) (l':=l') (r1:=r1) hc hs (by rw [hl',Qu,Qq,Q8]; omega) hw;refine Ft func404 rfl ?_;exact Uf [] [0] [.k ct1,.c [0] cw] rfl
theorem Ql2 {id:Int} {c:Cr} {l l':List Pt} {r1:Uq} {ws:List Wt} (hll:l.length<=900) (h:has l id=true) (hc:CrOk c)
 (hl':l'=l.take (Tr l id)++l.drop (Tr l id+1)) (hs:∀ p∈l',Sc p.c) (hw:Sj c.l c.now (Fg (ZS l' c.now))=some ws) :
 U0 prog 361 [.one (.ow 0 0),.oi id] [.blk 196 (Ht c (Uv l) r1)] [.oi 0] [.blk 196 (Ht ⟨c.now,ws,c.ev⟩ (Uv l') (vU l' c.now))]:=by
 have ct1:=WM (l:=l) (id:=id) (by omega) h;rw [<-hl'] at ct1;have cw:=dG (c:=c) (l:=l) (l':=l') (r1:=r1) hc hs (by rw [hl',Qu,Qq,Q8]; omega) hw;refine Ft func361 rfl ?_;exact Uf [] [0] [.k ct1,.c [0] cw] rfl
theorem Qwf {T:Nat} {t:Rat} {Bc:Tm->List Ct} {Br:Tm->Uq} {r0:Uq} (ht:Qs 1640000 t) (hB:BuildOk Bc)
 (hb:∀ a c r1,Va a->CrOk c->U0 prog 129 [.one (.ow 0 0),.agg (ta a)] [.blk T (Ht c r0 r1)] [.one (.row (U3 (Bc a)))] [.blk T (Ht c r0 (Br a))])
 {K:Nat} {c c':Cr} {r1 r1':Uq} {n:Int} (hc:CrOk c) (hev:0<=c.ev/\c.ev+K<=1000000000000000000) (h:Fh c.now t<=0) (hg:WV Bc Br t K c r1 0=some (c',r1',n)) :
 U0 prog 366 [.one (.ow 0 0),.agg (rl t),.one (.ofn 129 [.ow 0 0] [])] [.blk T (Ht c r0 r1)] [.oi n,.oi 0] [.blk T (Ht c' r0 r1')]:=by
 have qt:Qb t:=ht.mono (by decide);have c1:=Cz hc.n.tb qt;refine Ft func366 rfl ?_;refine Ub [.c [0] (O6 hc.n),.k c1,.f (by simpa using h)] rfl ?_;refine Ug (S:=Nat×Cr×Uq×Int) 2 (λL1 s=>(8,.v (.oi s.2.2.2))::L1) (λs=>[.blk T (Ht s.2.1 r0 s.2.2.1),.blk 40 (rl t)]) (λs=>s.1) (λs=>CrOk s.2.1/\(0<=s.2.1.ev/\s.2.1.ev+s.1<=1000000000000000000)/\(0<=s.2.2.2/\s.2.2.2+s.1<=1000000000000000000)/\WV Bc Br t s.1 s.2.1 s.2.2.1 s.2.2.2=some (c',r1',n)) (K,c,r1,0) ⟨hc,hev,⟨Int.le_refl 0,by dsimp only; omega⟩,hg⟩ rfl rfl λ⟨k,x,r,m⟩ ⟨j1,j2,j3,j4⟩=>?_
 dsimp only at j1 j2 j3 j4 ⊢;cases k with
 | zero=>cases j4
 |
  succ k =>
  simp only [WV] at j4;obtain ⟨ws,w1,j4⟩:=Qd.1 j4;obtain ⟨o,o1,j4⟩:=Qd.1 j4;have cn:=PG (T:=T) (r0:=r0) (r1:=r) j1 w1 o1;have ca:=VY (Uy t.num) (Uy (t.den:Int)) (Qc ht.1 (by decide)) (Qc ht.2 (by decide)) (by rw [Pe]; exact ht.mono (by decide));rw [Pe] at ca;cases o with
  |
   none =>
   injection j4 with j4; injection j4 with e1 j4; injection j4 with e2 e3;subst e1; subst e2; subst e3;exact Uf [] [0] [.c [0] cn,.g 25 true rfl,.t rfl,.k ca] rfl
  |
   some a =>
   have ha:=DJ j1 w1 o1;dsimp only at j4;have cc:=Cz ha.tb qt;by_cases h0:0<Fh a t
   ·rw [if_pos h0] at j4;injection j4 with j4; injection j4 with e1 j4; injection j4 with e2 e3;subst e1; subst e2; subst e3;exact Uf [] [0] [.c [0] cn,.g 25 false rfl,.k cc,.t (by simpa using h0),.k ca] rfl
   ·rw [if_neg h0] at j4;obtain ⟨w2,l1,j4⟩:=Qd.1 j4;have j1':=Ea j1 w1;have cl:=Su (b:=a) (l:=[]) ha.tb (λt ht=>by cases ht) (by decide) rfl;have cb:=hb a { x with l:=ws } r ha j1';have cy:=WS (T:=T) (r0:=r0) (r1:=Br a) j1' ha (hB.p a ha) (hB.n a ha) l1;have hf:decide (0<Fh a t)=false:=by simpa using h0
    refine Uc [.c [0] cn,.g 25 false rfl,.k cc,.f hf,.k cl,.c [0] cb,.c [0] cy] rfl ?_;exact rd (k,⟨a,w2,x.ev+1⟩,Br a,m+1) (by dsimp only; omega) ⟨lay_ok _ j1' ha (hB.p a ha) (hB.n a ha) l1,by dsimp only; omega,by dsimp only; omega,j4⟩ rfl
def Qv9 (l:List Pt) (a:Tm):Cr:=⟨a,(Fg (EK l a)).map fresh,0⟩
theorem Qr5 {t:Rat} {l:List Pt} {K:Nat} {c c':Cr} {r1 r1':Uq} {n:Int} (ht:Qs 1640000 t) (hl:∀ p∈l,Sc p.c) (hn:l.length≤10) (hc:CrOk c) (hev:0≤c.ev/\c.ev+K≤1000000000000000000) (h:Fh c.now t≤0) (hg:WV (EK l) (brH l) t K c r1 0=some (c',r1',n)) :
 U0 prog 393 [.one (.ow 0 0),.agg (rl t)] [.blk 201 (Ht c (Uv l) r1)] [.oi n,.oi 0] [.blk 201 (Ht c' (Uv l) r1')]:=by
 have cg:=Qwf (T:=201) (r0:=Uv l) ht (sV hl hn) (λa c r1 ha _=>AH (c:=c) (r1:=r1) hl hn ha) hc hev h hg;refine Ft func393 rfl ?_;exact Uf [] [0] [.k (Bw (ht.mono (by decide))),.c [0] cg] rfl
theorem Qr6 {c:Cr} {l s:List Pt} (hs:s.length<=1000000):U0 prog 64 [.one (.ow 0 0)] [.blk 201 (Ht c (Uv l) (Uv s))] [.one (ids (s.map (·.id)))] [.blk 201 (Ht c (Uv l) (Uv s))]:=by
 have hcl:=Gu s;refine Ft func64 rfl ?_;refine Ub [.o 3 3 1] rfl ?_;refine Ug (S:=Nat) 2 (λL1 i=>(11,.v (.oi i))::(3,.v (.one (.orow 1 1 none)))::L1) (λi=>[.blk 201 (Ht c (Uv l) (Uv s)),.row false 3 1 (((s.take i).map (·.id)).map λ(z:Int)=>[LV.int .i64 z])]) (λi=>s.length-i) (λi=>i<=s.length) 0 (Qh _) rfl rfl λi hi=>?_
 by_cases hlt:i<s.length
 ·obtain ⟨p,hp⟩:=gxE (l:=s) (i:=i) hlt;have hg:(((s.take (i+1)).map (·.id)).map λ(z:Int)=>[LV.int .i64 z])=(((s.take i).map (·.id)).map λ(z:Int)=>[LV.int .i64 z])++[[.int .i64 p.id]]:=by
   rw [Zw,hp]; simp
  refine Uc [.t (by simp [hcl]; omega),.x (Si hp),.s (sz:=1) (l:=[[.int .i64 p.id]]) (λc hc=>by rw [Qk.1 hc]; rfl)] rfl ?_;exact rd (i+1) (by omega) hlt (by rw [hg]; rfl)
 ·obtain rfl:i=s.length:=by omega
  rw [Q5];exact Uf [1] [0] [.f (by simp [hcl])] rfl
abbrev EM (k:Nat) (np nd:Int) (M:List Pt) (q:Rat) (s t h p d:Cr):Ur:=[.blk 90 (pE k q),tB np nd M,bS s M q,bT t M q,bH h M q,bP p M q,bD d M q]
abbrev Qy2 (k:Nat):Up:=[.oif 84 (k+2) 0,.oif 85 (k+3) 0,.oif 86 (k+4) 0,.oif 87 (k+5) 0,.oif 88 (k+6) 0]
theorem kF {np nd:Int} {Mt M:List Pt} {q:Rat} {s t h p d:Cr}:U0 prog 47 [.one (.ow 0 0)] [.blk 90 (pE 0 q),tB np nd Mt,bS s M q,bT t M q,bH h M q,bP p M q,bD d M q] [.agg (Qy2 0)] [.blk 90 (pE 0 q),tB np nd Mt,bS s M q,bT t M q,bH h M q,bP p M q,bD d M q]:=by
 refine Ft func47 rfl ?_;exact Uf [] [0,1,2,3,4,5,6] [] rfl
abbrev bN (k i:Nat) (a b:OB):OB:=match Nat.blt k i with
 | true=>b
 | false=>a
theorem Qds {np nd id:Int} {M M':List Pt} {q:Rat} {s t h p d s' t' h' p' d':Cr} {lx ly l3:Uq} {bn:Bool} {e1 e2 e3 e4 e5:Int}
 (ht:U0 prog 70 [.one (.ow 0 0),.agg [.row lx,.row ly,.bool bn,.row l3,.int .i64 id]] [tB np nd M] [.oi 0] [tB np nd M'])
 (h1:U0 prog 363 [.one (.ow 0 0),.agg [.row lx,.row ly,.bool bn,.row l3,.int .i64 id]] [bS s M q] [.oi e1] [bS s' M' q])
 (h2:U0 prog 390 [.one (.ow 0 0),.agg [.row lx,.row ly,.bool bn,.row l3,.int .i64 id]] [bT t M q] [.oi e2] [bT t' M' q])
 (h3:U0 prog 395 [.one (.ow 0 0),.agg [.row lx,.row ly,.bool bn,.row l3,.int .i64 id]] [bH h M q] [.oi e3] [bH h' M' q])
 (h4:U0 prog 400 [.one (.ow 0 0),.agg [.row lx,.row ly,.bool bn,.row l3,.int .i64 id]] [bP p M q] [.oi e4] [bP p' M' q])
 (h5:U0 prog 405 [.one (.ow 0 0),.agg [.row lx,.row ly,.bool bn,.row l3,.int .i64 id]] [bD d M q] [.oi e5] [bD d' M' q]) :
 U0 prog 27 [.one (.ow 0 0),.oi id,.agg [.row lx,.row ly,.bool bn,.row l3]] (EM 0 np nd M q s t h p d) [.oi 0] (EM 0 np nd M' q s' t' h' p' d'):=by
 refine Ft func27 rfl ?_;refine Ub [.c [1] ht,.f rfl,.c Ut kF] rfl ?_;refine Ug (S:=Nat) 9 (λL1 i=>(25,.v (.oi i))::L1) (λi=>[.blk 90 (pE 0 q),tB np nd M',bN 0 i (bS s M q) (bS s' M' q),bN 1 i (bT t M q) (bT t' M' q),bN 2 i (bH h M q) (bH h' M' q),bN 3 i (bP p M q) (bP p' M' q),bN 4 i (bD d M q) (bD d' M' q),.blk 36 [.row lx,.row ly,.bool bn,.row l3],.blk 38 [.row lx,.row ly,.bool bn,.row l3,.int .i64 id]]) (λi=>5-i) (λi=>i<=5) 0 (by decide) rfl rfl λi hi=>?_
 rcases (show i=0\/i=1\/i=2\/i=3\/i=4\/i=5 by omega) with rfl | rfl | rfl | rfl | rfl | rfl
 ·exact go tt [.t rfl,.i 0,.c [2] h1] rfl (by simp [Uw]) (rd 1 (by omega) (by omega) rfl)
 ·exact go tt [.t rfl,.i 1,.c [3] h2] rfl (by simp [Uw]) (rd 2 (by omega) (by omega) rfl)
 ·exact go tt [.t rfl,.i 2,.c [4] h3] rfl (by simp [Uw]) (rd 3 (by omega) (by omega) rfl)
 ·exact go tt [.t rfl,.i 3,.c [5] h4] rfl (by simp [Uw]) (rd 4 (by omega) (by omega) rfl)
 ·exact go tt [.t rfl,.i 4,.c [6] h5] rfl (by simp [Uw]) (rd 5 (by omega) (by omega) rfl)
 ·exact Uf [] [0,1,2,3,4,5,6] [.f rfl] rfl
theorem Qah {np nd id:Int} {M:List Pt} {q:Rat} {s t h p d:Cr} {lx ly l3:Uq} {bn:Bool} {e:Int} (he:e≠0)
 (ht:U0 prog 70 [.one (.ow 0 0),.agg [.row lx,.row ly,.bool bn,.row l3,.int .i64 id]] [tB np nd M] [.oi e] [tB np nd M]) :
 U0 prog 27 [.one (.ow 0 0),.oi id,.agg [.row lx,.row ly,.bool bn,.row l3]] (EM 0 np nd M q s t h p d) [.oi e] (EM 0 np nd M q s t h p d):=by
 refine Ft func27 rfl ?_;exact Uf [] [0,1,2,3,4,5,6] [.c [1] ht,.t (by simpa using he)] rfl
theorem Qdl {np nd id:Int} {M M':List Pt} {q:Rat} {s t h p d s' t' h' p' d':Cr} {e1 e2 e3 e4 e5:Int}
 (ht:U0 prog 73 [.one (.ow 0 0),.oi id] [tB np nd M] [.oi 0] [tB np nd M'])
 (h1:U0 prog 361 [.one (.ow 0 0),.oi id] [bS s M q] [.oi e1] [bS s' M' q])
 (h2:U0 prog 389 [.one (.ow 0 0),.oi id] [bT t M q] [.oi e2] [bT t' M' q])
 (h3:U0 prog 394 [.one (.ow 0 0),.oi id] [bH h M q] [.oi e3] [bH h' M' q])
 (h4:U0 prog 399 [.one (.ow 0 0),.oi id] [bP p M q] [.oi e4] [bP p' M' q])
 (h5:U0 prog 404 [.one (.ow 0 0),.oi id] [bD d M q] [.oi e5] [bD d' M' q]) :
 U0 prog 30 [.one (.ow 0 0),.oi id] (EM 0 np nd M q s t h p d) [.oi 0] (EM 0 np nd M' q s' t' h' p' d'):=by
 refine Ft func30 rfl ?_;refine Ub [.c [1] ht,.f rfl,.c Ut kF] rfl ?_;refine Ug (S:=Nat) 7 (λL1 i=>(19,.v (.oi i))::L1) (λi=>[.blk 90 (pE 0 q),tB np nd M',bN 0 i (bS s M q) (bS s' M' q),bN 1 i (bT t M q) (bT t' M' q),bN 2 i (bH h M q) (bH h' M' q),bN 3 i (bP p M q) (bP p' M' q),bN 4 i (bD d M q) (bD d' M' q)]) (λi=>5-i) (λi=>i<=5) 0 (by decide) rfl rfl λi hi=>?_
 rcases (show i=0\/i=1\/i=2\/i=3\/i=4\/i=5 by omega) with rfl | rfl | rfl | rfl | rfl | rfl
 ·exact go tt [.t rfl,.i 0,.c [2] h1] rfl (by simp [Uw]) (rd 1 (by omega) (by omega) rfl)
 ·exact go tt [.t rfl,.i 1,.c [3] h2] rfl (by simp [Uw]) (rd 2 (by omega) (by omega) rfl)
 ·exact go tt [.t rfl,.i 2,.c [4] h3] rfl (by simp [Uw]) (rd 3 (by omega) (by omega) rfl)
 ·exact go tt [.t rfl,.i 3,.c [5] h4] rfl (by simp [Uw]) (rd 4 (by omega) (by omega) rfl)
 ·exact go tt [.t rfl,.i 4,.c [6] h5] rfl (by simp [Uw]) (rd 5 (by omega) (by omega) rfl)
 ·exact Uf [] [0,1,2,3,4,5,6] [.f rfl] rfl
theorem Qad {np nd id:Int} {M:List Pt} {q:Rat} {s t h p d:Cr} {e:Int} (he:e≠0)
 (ht:U0 prog 73 [.one (.ow 0 0),.oi id] [tB np nd M] [.oi e] [tB np nd M]) :
 U0 prog 30 [.one (.ow 0 0),.oi id] (EM 0 np nd M q s t h p d) [.oi e] (EM 0 np nd M q s t h p d):=by
 refine Ft func30 rfl ?_;exact Uf [] [0,1,2,3,4,5,6] [.c [1] ht,.t (by simpa using he)] rfl
theorem Qac {np nd:Int} {M:List Pt} {q r:Rat} {s t h p d s' t' h' p' d':Cr} {x0 x1 x2 x3:LV} {a b n1 n2 n3 n4 n5:Int} (ha:Gv x0 x1 a) (hb:Gv x2 x3 b) (sa:Fa a<=4294967295) (sb:Fa b<=4294967295) (hr:Gx a b=r) (hs:Qs 128 r) (hq:Qs 128 q) (hqr:q<=r)
 (h1:U0 prog 359 [.one (.ow 0 0),.agg (rl r)] [bS s M q] [.oi n1,.oi 0] [bS s' M r])
 (h2:U0 prog 388 [.one (.ow 0 0),.agg (rl r)] [bT t M q] [.oi n2,.oi 0] [bT t' M r])
 (h3:U0 prog 393 [.one (.ow 0 0),.agg (rl r)] [bH h M q] [.oi n3,.oi 0] [bH h' M r])
 (h4:U0 prog 398 [.one (.ow 0 0),.agg (rl r)] [bP p M q] [.oi n4,.oi 0] [bP p' M r])
 (h5:U0 prog 403 [.one (.ow 0 0),.agg (rl r)] [bD d M q] [.oi n5,.oi 0] [bD d' M r]) :
 U0 prog 13 [.one (.ow 0 0),.agg [x0,x1,x2,x3]] (EM 0 np nd M q s t h p d) [.oi 0] (EM 0 np nd M r s' t' h' p' d'):=by
 have cm:=NC ha hb sa sb;rw [hr] at cm;obtain ⟨b1,r1,rfl,rfl,_⟩:=ha;obtain ⟨b2,r2,rfl,rfl,_⟩:=hb;have cc:=Bv (a:=r) (b:=q) (hs.mono (by decide)) (hq.mono (by decide));have l1:=HL.2 hs.1;have l2:(Fv r.den).length<=4:=by simpa using HL.2 hs.2
 have hc:¬G7 r q<0:=λh=>absurd (Ng.1 h) (Ki.2 hqr)
 refine Ft func13 rfl ?_;refine Ub [.k cm,.f (by simp [lml]; omega),.f (by simp [lml]; omega),.k cc,.f (by simpa using hc),.c Ut kF] rfl ?_;refine Ug (S:=Nat) 8 (λL1 i=>(32,.v (.oi i))::L1) (λi=>[.blk 90 (pE 0 q),tB np nd M,bN 0 i (bS s M q) (bS s' M r),bN 1 i (bT t M q) (bT t' M r),bN 2 i (bH h M q) (bH h' M r),bN 3 i (bP p M q) (bP p' M r),bN 4 i (bD d M q) (bD d' M r),.blk 40 (rl r)]) (λi=>5-i) (λi=>i<=5) 0 (by decide) rfl rfl λi hi=>?_
 rcases (show i=0\/i=1\/i=2\/i=3\/i=4\/i=5 by omega) with rfl | rfl | rfl | rfl | rfl | rfl
 ·exact go tt [.t rfl,.i 0,.c [2] h1] rfl (by simp [Uw]) (rd 1 (by omega) (by omega) rfl)
 ·exact go tt [.t rfl,.i 1,.c [3] h2] rfl (by simp [Uw]) (rd 2 (by omega) (by omega) rfl)
 ·exact go tt [.t rfl,.i 2,.c [4] h3] rfl (by simp [Uw]) (rd 3 (by omega) (by omega) rfl)
 ·exact go tt [.t rfl,.i 3,.c [5] h4] rfl (by simp [Uw]) (rd 4 (by omega) (by omega) rfl)
 ·exact go tt [.t rfl,.i 4,.c [6] h5] rfl (by simp [Uw]) (rd 5 (by omega) (by omega) rfl)
 ·exact Uf [] [0,1,2,3,4,5,6] [.f rfl] rfl
theorem zU {np nd:Int} {M:List Pt} {q r:Rat} {s t h p d:Cr} {x0 x1 x2 x3:LV} {a b:Int} (ha:Gv x0 x1 a) (hb:Gv x2 x3 b) (sa:Fa a<=4294967295) (sb:Fa b<=4294967295) (hr:Gx a b=r) (hs:¬Qs 128 r) :
 U0 prog 13 [.one (.ow 0 0),.agg [x0,x1,x2,x3]] (EM 0 np nd M q s t h p d) [.oi 1] (EM 0 np nd M q s t h p d):=by
 have cm:=NC ha hb sa sb;rw [hr] at cm;obtain ⟨b1,r1,rfl,rfl,_⟩:=ha;obtain ⟨b2,r2,rfl,rfl,_⟩:=hb;refine Ft func13 rfl ?_;by_cases h1:Fa r.num<=128
 ·have h2:¬Fa (r.den:Int)<=128:=λh=>hs ⟨h1,h⟩
  have l1:=HL.2 h1;have l2:=mt HL.1 h2;exact Uf [] [0,1,2,3,4,5,6] [.k cm,.f (by simp [lml]; omega),.t (by simp [lml] at l2 ⊢; omega)] rfl
 ·have l1:=mt HL.1 h1;exact Uf [] [0,1,2,3,4,5,6] [.k cm,.t (by simp [lml]; omega),.t rfl] rfl
theorem ER {np nd:Int} {M:List Pt} {q r:Rat} {s t h p d:Cr} {x0 x1 x2 x3:LV} {a b:Int} (ha:Gv x0 x1 a) (hb:Gv x2 x3 b) (sa:Fa a<=4294967295) (sb:Fa b<=4294967295) (hr:Gx a b=r) (hs:Qs 128 r) (hq:Qs 128 q) (hqr:r<q) :
 U0 prog 13 [.one (.ow 0 0),.agg [x0,x1,x2,x3]] (EM 0 np nd M q s t h p d) [.oi 8] (EM 0 np nd M q s t h p d):=by
 have cm:=NC ha hb sa sb;rw [hr] at cm;obtain ⟨b1,r1,rfl,rfl,_⟩:=ha;obtain ⟨b2,r2,rfl,rfl,_⟩:=hb;have cc:=Bv (a:=r) (b:=q) (hs.mono (by decide)) (hq.mono (by decide));have l1:=HL.2 hs.1;have l2:(Fv r.den).length<=4:=by simpa using HL.2 hs.2
 have hc:G7 r q<0:=Ng.2 hqr;refine Ft func13 rfl ?_;exact Uf [] [0,1,2,3,4,5,6] [.k cm,.f (by simp [lml]; omega),.f (by simp [lml]; omega),.k cc,.t (by simpa using hc)] rfl
theorem kZ {c:Cr} {l l':List Pt} {r1:Uq} {ws:List Wt} (hc:CrOk c) (hl:∀ p∈l',Sc p.c) (hn:l'.length≤10) (h:Sj c.l c.now (Fg (EK l' c.now))=some ws) :
 U0 prog 397 [.one (.ow 0 0),.agg [pts l'],.oi 0] [.blk 201 (Ht c (Uv l) r1)] [.oi 0] [.blk 201 (Ht ⟨c.now,ws,c.ev⟩ (Uv l') (brH l' c.now))]:=by
 have hB:=sV hl hn;have cn:=O6 (T:=201) (c:=c) (r0:=Uv l') (r1:=r1) hc.n;have cb:=AH (c:=c) (r1:=r1) hl hn hc.n;have cg:=JS (T:=201) (r0:=Uv l') (r1:=brH l' c.now) hc hc.n (Iw hc.n) (Yb 0) (hB.p _ hc.n) (hB.n _ hc.n) h;refine Ft func397 rfl ?_;exact Uf [] [0] [.f rfl,.c [0] cn,.c [0] cb,.c [0] cg] rfl
theorem Qlr {lx ly:Uq} {px py:Uk} {x y:LV} {d id:Int} {c:Cr} {l:List Pt} {r1:Uq} {ws:List Wt} (hx:IsInts lx px) (hy:IsInts ly py) (hd:Gv x y d) (hk:Cs 4294967294 1073741824 (Crv.mk px py d)) (hll:l.length<=900)
 (he:KB l ⟨Crv.norm (Crv.mk px py d),id⟩=0) (hc:CrOk c) (hl:∀ p∈put l ⟨Crv.norm (Crv.mk px py d),id⟩,Sc p.c) (hn:(put l ⟨Crv.norm (Crv.mk px py d),id⟩).length≤10) (h:Sj c.l c.now (Fg (EK (put l ⟨Crv.norm (Crv.mk px py d),id⟩) c.now))=some ws) :
 U0 prog 395 [.one (.ow 0 0),.agg [.row lx,.row ly,x,y,.int .i64 id]] [.blk 201 (Ht c (Uv l) r1)] [.oi 0] [.blk 201 (Ht ⟨c.now,ws,c.ev⟩ (Uv (put l ⟨Crv.norm (Crv.mk px py d),id⟩)) (brH (put l ⟨Crv.norm (Crv.mk px py d),id⟩) c.now))]:=by
 have cp:=kK (l:=l) (id:=id) hx hy hd hk (by omega);rw [if_pos he,he] at cp;have cw:=kZ (l:=l) (r1:=r1) hc hl hn h;refine Ft func395 rfl ?_;obtain ⟨b,l',rfl,rfl,_⟩:=hd;exact Uf [] [0] [.k cp,.c [0] cw] rfl
theorem Qdq {id:Int} {c:Cr} {l l':List Pt} {r1:Uq} {ws:List Wt} (hll:l.length<=10) (h:has l id=true) (hc:CrOk c)
 (hl':l'=l.take (Tr l id)++l.drop (Tr l id+1)) (hs:∀ p∈l',Sc p.c) (hw:Sj c.l c.now (Fg (EK l' c.now))=some ws) :
 U0 prog 394 [.one (.ow 0 0),.oi id] [.blk 201 (Ht c (Uv l) r1)] [.oi 0] [.blk 201 (Ht ⟨c.now,ws,c.ev⟩ (Uv l') (brH l' c.now))]:=by
 have ct1:=WM (l:=l) (id:=id) (by omega) h;rw [<-hl'] at ct1;have cw:=kZ (c:=c) (l:=l) (l':=l') (r1:=r1) hc hs (by rw [hl',Qu,Qq,Q8]; omega) hw;refine Ft func394 rfl ?_;exact Uf [] [0] [.k ct1,.c [0] cw] rfl
theorem kV {c:Cr} {l l':List Pt} {r1:Uq} {ws:List Wt} (hc:CrOk c) (hl:∀ p∈l',Sc p.c) (hn:l'.length≤10) (h:Sj c.l c.now (Fg (sK l' c.now))=some ws) :
 U0 prog 402 [.one (.ow 0 0),.agg [pts l'],.oi 0] [.blk 203 (Ht c (Uv l) r1)] [.oi 0] [.blk 203 (Ht ⟨c.now,ws,c.ev⟩ (Uv l') (brP l' c.now))]:=by
 have hB:=Qda hl hn;have cn:=O6 (T:=203) (c:=c) (r0:=Uv l') (r1:=r1) hc.n;have cb:=AT (c:=c) (r1:=r1) hl hn hc.n;have cg:=JS (T:=203) (r0:=Uv l') (r1:=brP l' c.now) hc hc.n (Iw hc.n) (Yb 0) (hB.p _ hc.n) (hB.n _ hc.n) h;refine Ft func402 rfl ?_;exact Uf [] [0] [.f rfl,.c [0] cn,.c [0] cb,.c [0] cg] rfl
theorem Qlz {lx ly:Uq} {px py:Uk} {x y:LV} {d id:Int} {c:Cr} {l:List Pt} {r1:Uq} {ws:List Wt} (hx:IsInts lx px) (hy:IsInts ly py) (hd:Gv x y d) (hk:Cs 4294967294 1073741824 (Crv.mk px py d)) (hll:l.length<=900)
 (he:KB l ⟨Crv.norm (Crv.mk px py d),id⟩=0) (hc:CrOk c) (hl:∀ p∈put l ⟨Crv.norm (Crv.mk px py d),id⟩,Sc p.c) (hn:(put l ⟨Crv.norm (Crv.mk px py d),id⟩).length≤10) (h:Sj c.l c.now (Fg (sK (put l ⟨Crv.norm (Crv.mk px py d),id⟩) c.now))=some ws) :
 U0 prog 400 [.one (.ow 0 0),.agg [.row lx,.row ly,x,y,.int .i64 id]] [.blk 203 (Ht c (Uv l) r1)] [.oi 0] [.blk 203 (Ht ⟨c.now,ws,c.ev⟩ (Uv (put l ⟨Crv.norm (Crv.mk px py d),id⟩)) (brP (put l ⟨Crv.norm (Crv.mk px py d),id⟩) c.now))]:=by
 have cp:=kK (l:=l) (id:=id) hx hy hd hk (by omega);rw [if_pos he,he] at cp;have cw:=kV (l:=l) (r1:=r1) hc hl hn h;refine Ft func400 rfl ?_;obtain ⟨b,l',rfl,rfl,_⟩:=hd;exact Uf [] [0] [.k cp,.c [0] cw] rfl
theorem Qd1 {id:Int} {c:Cr} {l l':List Pt} {r1:Uq} {ws:List Wt} (hll:l.length<=10) (h:has l id=true) (hc:CrOk c)
 (hl':l'=l.take (Tr l id)++l.drop (Tr l id+1)) (hs:∀ p∈l',Sc p.c) (hw:Sj c.l c.now (Fg (sK l' c.now))=some ws) :
 U0 prog 399 [.one (.ow 0 0),.oi id] [.blk 203 (Ht c (Uv l) r1)] [.oi 0] [.blk 203 (Ht ⟨c.now,ws,c.ev⟩ (Uv l') (brP l' c.now))]:=by
 have ct1:=WM (l:=l) (id:=id) (by omega) h;rw [<-hl'] at ct1;have cw:=kV (c:=c) (l:=l) (l':=l') (r1:=r1) hc hs (by rw [hl',Qu,Qq,Q8]; omega) hw;refine Ft func399 rfl ?_;exact Uf [] [0] [.k ct1,.c [0] cw] rfl
abbrev en2 (np nd:Int) (M:List Pt) (q:Rat) (s t h p d:Cr) (np' nd':Int) (M':List Pt) (q':Rat) (s' t' h' p' d':Cr):Ur:=[.blk 90 (pE 0 q),tB np nd M,bS s M q,bT t M q,bH h M q,bP p M q,bD d M q,.blk 90 (pE 7 q'),tB np' nd' M',bS s' M' q',bT t' M' q',bH h' M' q',bP p' M' q',bD d' M' q']
abbrev anw (S W H P:List Pt) (T:List P3):Up:=[ids (S.map (·.id)),ids (W.map (·.id)),ids (H.map (·.id)),ids (P.map (·.id)),.row (QL T)]
theorem Qmb {np nd:Int} {M S W H P:List Pt} {T:List P3} {r2:Uq} {q:Rat} {s t h p d:Cr} (hS:S.length<=1000000) (hH:H.length<=1000000) (hT:T.length<=1000) (hW:W=[]\/∃ w,W=[w]) (hP:P=[]\/∃ a b,P=[a,b]) :
 U0 prog 21 [.one (.ow 0 0)] [.blk 90 (pE 0 q),tB np nd M,.blk 196 (Ht s (Uv M) (Uv S)),.blk 199 (Tl t (Uv M) (W.map U6,r2)),.blk 201 (Ht h (Uv M) (Uv H)),.blk 203 (Ht p (Uv M) (Uv P)),.blk 205 (Ht d (Uv M) (QL T))]
  [.agg (anw S W H P T)] [.blk 90 (pE 0 q),tB np nd M,.blk 196 (Ht s (Uv M) (Uv S)),.blk 199 (Tl t (Uv M) (W.map U6,r2)),.blk 201 (Ht h (Uv M) (Uv H)),.blk 203 (Ht p (Uv M) (Uv P)),.blk 205 (Ht d (Uv M) (QL T))]:=by
 have c1:=Qsh (c:=s) (l:=M) hS;have c2:=Qr6 (c:=h) (l:=M) hH;have c3:=sC (c:=d) (r0:=Uv M) hT;rcases hW with rfl | ⟨w,rfl⟩
 ·have c4:=Qef (c:=t) (r0:=Uv M) (r2:=r2);rcases hP with rfl | ⟨a,b,rfl⟩
  ·have c5:=kY (c:=p) (r0:=Uv M);refine Ft func21 rfl ?_;exact Uf [] [0,1,2,3,4,5,6] [.c [2] c1,.c [4] c2,.c [6] c3,.c [3] c4,.f rfl,.c [5] c5,.f rfl] rfl
  ·have c5:=dU (c:=p) (r0:=Uv M) (a:=a) (b:=b);refine Ft func21 rfl ?_;exact Uf [] [0,1,2,3,4,5,6] [.c [2] c1,.c [4] c2,.c [6] c3,.c [3] c4,.f rfl,.c [5] c5,.t rfl] rfl
 ·have c4:=Qme (c:=t) (r0:=Uv M) (r2:=r2) (w:=w);rcases hP with rfl | ⟨a,b,rfl⟩
  ·have c5:=kY (c:=p) (r0:=Uv M);refine Ft func21 rfl ?_;exact Uf [] [0,1,2,3,4,5,6] [.c [2] c1,.c [4] c2,.c [6] c3,.c [3] c4,.t rfl,.c [5] c5,.f rfl] rfl
  ·have c5:=dU (c:=p) (r0:=Uv M) (a:=a) (b:=b);refine Ft func21 rfl ?_;exact Uf [] [0,1,2,3,4,5,6] [.c [2] c1,.c [4] c2,.c [6] c3,.c [3] c4,.t rfl,.c [5] c5,.t rfl] rfl
abbrev Qrq (M:List Pt) (q:Rat):Up:=anw (Tn (tq q) M) (Ns (Fl (tq q)) M).1 (S0 M (tq q)) (ZX (Fl (tq q)) M) (OG (Fl (tq q)) M)
theorem oW (sg:Uk->Int) (M:List Pt):(Ns sg M).1=[]\/∃ w,(Ns sg M).1=[w]:=by
 by_cases h:0<M.length
 ·obtain ⟨a,ha,_⟩:=M7 sg M.length M (Qm _) h;exact .inr ⟨a,ha⟩
 ·obtain rfl:=Qj (by omega:M.length=0);exact .inl rfl
theorem fH (sg:Uk->Int) (M:List Pt):ZX sg M=[]\/∃ a b,ZX sg M=[a,b]:=by
 match M with
 | []=>exact .inl rfl
 | [_]=>exact .inl rfl
 | _::_::_=>exact .inr ⟨_,_,rfl⟩
theorem zS {np nd:Int} {M:List Pt} {q:Rat} {s t h p d:Cr} (hM:M.length<=6):U0 prog 21 [.one (.ow 0 0)] (EM 0 np nd M q s t h p d) [.agg (Qrq M q)] (EM 0 np nd M q s t h p d) :=
 Qmb (by rw [Na]; omega) (by have:=JB M (tq q); omega) (by have:=OH (Fl (tq q)) hM; omega) (oW _ _) (fH _ _)
abbrev Qi9 (k i:Nat) (e:Int):LV:=match Nat.blt k i with
 | true=>.int .i64 e
 | false=>.int .i64 0
theorem Qdi {np nd:Int} {M:List Pt} {q:Rat} {s t h p d:Cr}:U0 prog 11 [.one (.ow 0 0)] (EM 0 np nd M q s t h p d) [.agg [.int .i64 s.ev,.int .i64 t.ev,.int .i64 h.ev,.int .i64 p.ev,.int .i64 d.ev]] (EM 0 np nd M q s t h p d):=by
 refine Ft func11 rfl ?_;refine Ub [.c Ut kF] rfl ?_;refine Ug (S:=Nat) 9 (λL1 i=>(8,.v (.oi i))::L1) (λi=>[.blk 90 (pE 0 q),tB np nd M,bS s M q,bT t M q,bH h M q,bP p M q,bD d M q,.blk 46 [.int .i64 0,.int .i64 0,.int .i64 0,.int .i64 0,.int .i64 0],.blk 46 [Qi9 0 i s.ev,Qi9 1 i t.ev,Qi9 2 i h.ev,Qi9 3 i p.ev,Qi9 4 i d.ev]]) (λi=>5-i) (λi=>i<=5) 0 (by decide) rfl rfl λi hi=>?_
 rcases (show i=0\/i=1\/i=2\/i=3\/i=4\/i=5 by omega) with rfl | rfl | rfl | rfl | rfl | rfl
 ·exact go tt [.t rfl,.i 0,.c [2] JP,.i 0] rfl (by simp [Uw]) (rd 1 (by omega) (by omega) rfl)
 ·exact go tt [.t rfl,.i 1,.c [3] Qam,.i 1] rfl (by simp [Uw]) (rd 2 (by omega) (by omega) rfl)
 ·exact go tt [.t rfl,.i 2,.c [4] JP,.i 2] rfl (by simp [Uw]) (rd 3 (by omega) (by omega) rfl)
 ·exact go tt [.t rfl,.i 3,.c [5] JP,.i 3] rfl (by simp [Uw]) (rd 4 (by omega) (by omega) rfl)
 ·exact go tt [.t rfl,.i 4,.c [6] JP,.i 4] rfl (by simp [Uw]) (rd 5 (by omega) (by omega) rfl)
 ·exact Uf [] [0,1,2,3,4,5,6] [.f rfl] rfl
abbrev Ii (l:List Wt):List Ct:=Fg (l.map (·.c))
def TF (s t h p d:Cr):Nat->Uq
 | 0=>[]
 | 1=>[]++U3 (Ii s.l)
 | 2=>[]++U3 (Ii s.l)++U3 (Ii t.l)
 | 3=>[]++U3 (Ii s.l)++U3 (Ii t.l)++U3 (Ii h.l)
 | 4=>[]++U3 (Ii s.l)++U3 (Ii t.l)++U3 (Ii h.l)++U3 (Ii p.l)
 | _=>[]++U3 (Ii s.l)++U3 (Ii t.l)++U3 (Ii h.l)++U3 (Ii p.l)++U3 (Ii d.l)
theorem Qlm {np nd:Int} {M:List Pt} {q:Rat} {s t h p d:Cr} (hs:CrOk s) (ht:CrOk t) (hh:CrOk h) (hp:CrOk p) (hd:CrOk d):U0 prog 32 [.one (.ow 0 0)] (EM 0 np nd M q s t h p d) [.one (.row (U3 (Ii s.l++Ii t.l++Ii h.l++Ii p.l++Ii d.l)))] (EM 0 np nd M q s t h p d):=by
 have e:U3 (Ii s.l++Ii t.l++Ii h.l++Ii p.l++Ii d.l)=TF s t h p d 5:=by simp [U3,TF]
 rw [e];have ln:∀ {c:Cr},CrOk c->(U3 (Ii c.l)).length<=1000:=λ{c} hc=>by rw [S8,Mh,Q7]; exact hc.k
 have l1:=ln hs;have l2:=ln ht;have l3:=ln hh;have l4:=ln hp;have l5:=ln hd;have k1:(U3 (Fg (s.l.map (·.c)))).length<=1000:=ln hs;have k2:(U3 (Fg (t.l.map (·.c)))).length<=1000:=ln ht;have k3:(U3 (Fg (h.l.map (·.c)))).length<=1000:=ln hh;have k4:(U3 (Fg (p.l.map (·.c)))).length<=1000:=ln hp;have k5:(U3 (Fg (d.l.map (·.c)))).length<=1000:=ln hd;have m1:(TF s t h p d 1).length<=1000:=by show ([]++U3 (Ii s.l)).length<=_; simp only [Qu,Xx]; omega
 have m2:(TF s t h p d 2).length<=2000:=by show ([]++U3 (Ii s.l)++U3 (Ii t.l)).length<=_; simp only [Qu,Xx]; omega
 have m3:(TF s t h p d 3).length<=3000:=by show ([]++U3 (Ii s.l)++U3 (Ii t.l)++U3 (Ii h.l)).length<=_; simp only [Qu,Xx]; omega
 have m4:(TF s t h p d 4).length<=4000:=by show ([]++U3 (Ii s.l)++U3 (Ii t.l)++U3 (Ii h.l)++U3 (Ii p.l)).length<=_; simp only [Qu,Xx]; omega
 have m0:(TF s t h p d 0).length=0:=rfl;refine Ft func32 rfl ?_;refine Ub [.o 3 136 7,.c Ut kF] rfl ?_;refine Ug (S:=Nat) 8 (λL1 i=>(8,.v (.oi i))::(3,.v (.one (.orow 7 7 none)))::L1) (λi=>[.blk 90 (pE 0 q),tB np nd M,bS s M q,bT t M q,bH h M q,bP p M q,bD d M q,.row false 136 7 (TF s t h p d i)]) (λi=>5-i) (λi=>i<=5) 0 (by decide) rfl rfl λi hi=>?_
 rcases (show i=0\/i=1\/i=2\/i=3\/i=4\/i=5 by omega) with rfl | rfl | rfl | rfl | rfl | rfl
 ·exact go tt [.t rfl,.i 0,.c [2] (WT hs),.s (Iz _)] rfl (by simp only [Uw]; omega) (rd 1 (by omega) (by omega) rfl)
 ·exact go tt [.t rfl,.i 1,.c [3] (Qeb ht),.s (Iz _)] rfl (by simp only [Uw]; omega) (rd 2 (by omega) (by omega) rfl)
 ·exact go tt [.t rfl,.i 2,.c [4] (WT hh),.s (Iz _)] rfl (by simp only [Uw]; omega) (rd 3 (by omega) (by omega) rfl)
 ·exact go tt [.t rfl,.i 3,.c [5] (WT hp),.s (Iz _)] rfl (by simp only [Uw]; omega) (rd 4 (by omega) (by omega) rfl)
 ·exact go tt [.t rfl,.i 4,.c [6] (WT hd),.s (Iz _)] rfl (by simp only [Uw]; omega) (rd 5 (by omega) (by omega) rfl)
 ·exact Uf [7] [0,1,2,3,4,5,6] [.f rfl] rfl
theorem Qp5:∀ p∈([]:List Pt),Sc p.c:=λ_ h=>by cases h
theorem Qko:∀ x∈([]:List Ct),Cp x.p:=λ_ h=>by cases h
theorem tN:Uh 124 [.one (.row [])] [.agg [.row []],.oi 0]:=by
 refine Ft func124 rfl ?_;refine Ub [.f rfl] rfl ?_;refine nlb 1 rfl rfl rfl ?_;refine Ug (S:=Unit) 2 (λL1 _=>(14,.v (.oi 0))::L1) (λ_=>[.blk 194 [.nils],.blk 194 [.row []]]) (λ_=>0) (λ_=>True) () trivial rfl rfl λ_ _=>?_
 exact Ud [.f rfl] rfl
abbrev zT (r0 r1 r2:LV):OB:=.blk 199 [.bool false,.nils,.bool false,.nils,.bool false,.nils,.bool false,.nils,.bool false,.nils,.nils,.int .i64 0,r0,r1,r2]
theorem Qp3 {a:Tm}:U0 prog 162 [.one (.ow 0 0),.agg (ta a),.one (.row [])] [zT (.row []) .nils (.orow 1 10 none),.row false 252 10 []] [.one (.row [])] [zT (.row []) .nils (.orow 1 10 none),.row false 252 10 []]:=by
 refine Ft func162 rfl ?_;exact Uf [] [0,1] [.t rfl] rfl
theorem Qkm {a:Tm}:U0 prog 128 [.one (.ow 0 0),.agg (ta a)] [zT (.row []) .nils .nils] [.one (.row [])] [zT (.row []) (.row []) (.row [])]:=by
 refine Ft func128 rfl ?_;refine Ub [] rfl ?_;refine oz 0 14 252 10 rfl rfl ?_;refine Ub [.k (Ig (l:=[])),.c [0,2] (Qp3 (a:=a)),.o 5 136 7] rfl ?_;refine Ug (S:=Unit) 4 (λL1 _=>(29,.v (.oi 0))::(5,.v (.one (.orow 3 7 none)))::L1) (λ_=>[zT (.row []) (.row []) (.orow 2 10 none),.blk 189 (ta a),.row false 252 10 [],.row false 136 7 []]) (λ_=>0) (λ_=>True) () trivial rfl rfl λ_ _=>?_
 exact Uf [2,3] [0] [.f rfl] rfl
theorem Qkn:Uh 165 [.agg [.row []]] [.one (.row [])]:=pX (l:=[]) (λ_ h=>by cases h) (by decide)
theorem Qrm {a:Tm} (ha:Va a):Uh 159 [.agg (ta a),.one (.row [])] [.one (.row [])]:=kW (l:=[]) Qp5 (by decide) ha
theorem Qkk {a:Tm} (ha:Va a):U0 prog 129 [.one (.ow 0 0),.agg (ta a)] [.blk 201 (pH (.row []) .nils)] [.one (.row [])] [.blk 201 (pH (.row []) (.row []))]:=by
 have cn:Uh 164 [.agg (ta a),.one (.row [])] [.one (.row [])]:=dD (R:=[]) Qp5 (by decide) ha;have cc:U0 prog 161 [.agg (ta a),.one (.row [])] [] [.one (.orow 0 7 none)] [.row false 136 7 []]:=TW (l:=[]) Qp5 (by decide) ha;refine Ft func129 rfl ?_;exact Uf [2] [0] [.k Qkn,.k (Qrm ha),.k cn,.k (Ig (l:=[])),.k (Qrm ha),.c [2] cc,.t rfl] rfl
theorem Qkl {a:Tm}:U0 prog 130 [.one (.ow 0 0),.agg (ta a)] [.blk 203 (pH (.row []) .nils)] [.one (.row [])] [.blk 203 (pH (.row []) (.row []))]:=by
 refine Ft func130 rfl ?_;refine Ub [.k (Ig (l:=[]))] rfl ?_;refine nlc 0 13 rfl rfl rfl ?_;exact Uf [] [0] [.t rfl] rfl
theorem Qkj {a:Tm}:U0 prog 131 [.one (.ow 0 0),.agg (ta a)] [.blk 205 (pH (.row []) .nils)] [.one (.row [])] [.blk 205 (pH (.row []) (.row []))]:=by
 refine Ft func131 rfl ?_;refine Ub [.k Qkn,.o 6 136 7] rfl ?_;refine Ug (S:=Unit) 4 (λL1 _=>(42,.v (.oi 0))::(6,.v (.one (.orow 2 7 none)))::L1) (λ_=>[.blk 205 (pH (.row []) .nils),.blk 189 (ta a),.row false 136 7 [],.mpb (Aq (ZF (Fl a) []))]) (λ_=>0) (λ_=>True) () trivial rfl rfl λ_ _=>?_
 refine Ub [.f rfl] rfl ?_;refine Ug (S:=Unit) 5 (λL1 _=>(97,.v (.oi 0))::(6,.v (.one (.orow 2 7 none)))::L1) (λ_=>[.blk 205 (pH (.row []) .nils),.blk 189 (ta a),.row false 136 7 [],.mpb (Aq (ZF (Fl a) [])),.mpb (I5 (Aq (ZF (Fl a) [])) (YO (Fl a) []))]) (λ_=>0) (λ_=>True) () trivial rfl rfl λ_ _=>?_
 refine Ub [.f rfl] rfl ?_;refine ozM 0 13 69 3 rfl rfl ?_;refine Ug (S:=Unit) 6 (λL1 _=>(174,.v (.oi 0))::L1) (λ_=>[.blk 205 [.bool false,.nils,.bool false,.nils,.bool false,.nils,.bool false,.nils,.bool false,.nils,.nils,.int .i64 0,.row [],.orow 5 3 none],.blk 189 (ta a),.row false 136 7 [],.mpb (Aq (ZF (Fl a) [])),.mpb (I5 (Aq (ZF (Fl a) [])) (YO (Fl a) [])),.row false 69 3 []]) (λ_=>0) (λ_=>True) () trivial rfl rfl λ_ _=>?_
 exact Uf [2,5] [0] [.f rfl] rfl
section
variable {x y x' y':LV} {n d:Int} (h1:Gv x y n) (h2:Gv x' y' d) (bn:Fa n<=4294967295) (bd:Fa d<=4294967295) (ht:Qs 1640000 (Gx n d))
include h1 h2 bn bd ht
theorem Qp2:U0 prog 87 [.agg [x,y,x',y'],.one (.row [])] [] [.one (.ow 0 0),.oi 0] [.blk 196 (Ht ⟨tq (Gx n d),[],0⟩ [] [])]:=by
 have co:=VY h1 h2 bn bd (ht.mono (by decide));have cb:U0 prog 127 [.one (.ow 0 0),.agg (ta (tq (Gx n d)))] [.blk 196 (pH (.row []) .nils)] [.one (.row [])] [.blk 196 (pH (.row []) (.row []))]:=Qaj (l:=[]) Qp5 (by decide) (EJ ht);have cg:=JR (T:=196) (r0:=[]) (r1:=[]) (EJ ht) Qko (by decide);obtain ⟨b,l1,rfl,rfl,_⟩:=h1;obtain ⟨b',l2,rfl,rfl,_⟩:=h2;refine Ft func87 rfl ?_;exact Uf [] [2] [.k tN,.f rfl,.k co,.c [2] cb,.c [2] cg] rfl
theorem Qp4:U0 prog 88 [.agg [x,y,x',y'],.one (.row [])] [] [.one (.ow 0 0),.oi 0] [.blk 199 (Tl ⟨tq (Gx n d),[],0⟩ [] ([],[]))]:=by
 have co:=VY h1 h2 bn bd (ht.mono (by decide));have cg:=Qak (T:=199) (r0:=[]) (r1:=([],[])) (EJ ht) Qko (by decide);obtain ⟨b,l1,rfl,rfl,_⟩:=h1;obtain ⟨b',l2,rfl,rfl,_⟩:=h2;refine Ft func88 rfl ?_;exact Uf [] [2] [.k tN,.f rfl,.k co,.c [2] (Qkm (a:=tq (Gx n d))),.c [2] cg] rfl
theorem Qp0:U0 prog 89 [.agg [x,y,x',y'],.one (.row [])] [] [.one (.ow 0 0),.oi 0] [.blk 201 (Ht ⟨tq (Gx n d),[],0⟩ [] [])]:=by
 have co:=VY h1 h2 bn bd (ht.mono (by decide));have cg:=JR (T:=201) (r0:=[]) (r1:=[]) (EJ ht) Qko (by decide);obtain ⟨b,l1,rfl,rfl,_⟩:=h1;obtain ⟨b',l2,rfl,rfl,_⟩:=h2;refine Ft func89 rfl ?_;exact Uf [] [2] [.k tN,.f rfl,.k co,.c [2] (Qkk (EJ ht)),.c [2] cg] rfl
theorem Qp1:U0 prog 90 [.agg [x,y,x',y'],.one (.row [])] [] [.one (.ow 0 0),.oi 0] [.blk 203 (Ht ⟨tq (Gx n d),[],0⟩ [] [])]:=by
 have co:=VY h1 h2 bn bd (ht.mono (by decide));have cg:=JR (T:=203) (r0:=[]) (r1:=[]) (EJ ht) Qko (by decide);obtain ⟨b,l1,rfl,rfl,_⟩:=h1;obtain ⟨b',l2,rfl,rfl,_⟩:=h2;refine Ft func90 rfl ?_;exact Uf [] [2] [.k tN,.f rfl,.k co,.c [2] (Qkl (a:=tq (Gx n d))),.c [2] cg] rfl
theorem Qpz:U0 prog 91 [.agg [x,y,x',y'],.one (.row [])] [] [.one (.ow 0 0),.oi 0] [.blk 205 (Ht ⟨tq (Gx n d),[],0⟩ [] [])]:=by
 have co:=VY h1 h2 bn bd (ht.mono (by decide));have cg:=JR (T:=205) (r0:=[]) (r1:=[]) (EJ ht) Qko (by decide);obtain ⟨b,l1,rfl,rfl,_⟩:=h1;obtain ⟨b',l2,rfl,rfl,_⟩:=h2;refine Ft func91 rfl ?_;exact Uf [] [2] [.k tN,.f rfl,.k co,.c [2] (Qkj (a:=tq (Gx n d))),.c [2] cg] rfl
end
end Orr
namespace Orr
open Go Go.Proofs Tryz Orq
set_option maxRecDepth 10000
theorem Qsy {np nd:Int} (h1:1<=np/\np<=6) (h2:0<=nd/\nd<=2):U0 prog 85 [.oi np,.oi nd] [] [.one (.ow 0 0),.oi 0] [.blk 139 [.int .i64 np,.int .i64 nd,.nils]]:=by
 refine Ft func85 rfl ?_;exact Uf [] [0] [.F,.f (by simp; omega),.f (by simp; omega),.f (by simp; omega)] rfl
theorem Qr4 {np nd:Int} (h1:1<=np/\np<=6) (h2:0<=nd/\nd<=2):U0 prog 41 [.oi np,.oi nd] [] [.one (.ow 0 0),.oi 0] (EM 0 np nd [] 0 (Qlf [] (tq 0)) (Qwb [] (tq 0)) (Qv9 [] (tq 0)) (Qwa [] (tq 0)) (Qv8 [] (tq 0))):=by
 have ez:Gx (0:Rat).num ((0:Rat).den:Int)=0:=by decide
 have hq:Qs 1640000 (Gx (0:Rat).num ((0:Rat).den:Int)):=by rw [ez]; exact ⟨by decide,by decide⟩
 have i1:=Uy (0:Rat).num;have i2:=Uy ((0:Rat).den:Int);have c1:=Qp2 i1 i2 (by decide) (by decide) hq;have c2:=Qp4 i1 i2 (by decide) (by decide) hq;have c3:=Qp0 i1 i2 (by decide) (by decide) hq;have c4:=Qp1 i1 i2 (by decide) (by decide) hq;have c5:=Qpz i1 i2 (by decide) (by decide) hq;rw [ez] at c1 c2 c3 c4 c5;have ci:=Qsw (n:=0) (by decide);rw [show ((0:Int):Rat)=0 from rfl,D4] at ci;refine Ft func41 rfl ?_;refine Ub [.c [0] (Qsy h1 h2),.f rfl] rfl ?_;refine nlc 0 2 rfl rfl rfl ?_;exact Uf [] [1,0,2,3,4,5,6] [.k ci,.c [2] c1,.c [3] c2,.c [4] c3,.c [5] c4,.c [6] c5] rfl
theorem WB {l:Uk} (hl:l.length<=1000000):Uh 61 [.one (ids l),.one (ids l)] [.one (.bool true)]:=by
 have hll:(l.map λ(x:Int)=>[LV.int .i64 x]).length=l.length:=by simp
 refine Ft func61 rfl ?_;refine Ub [.f (by simp)] rfl ?_;refine Ug (S:=Nat) 0 (λL1 i=>(14,.v (.oi i))::L1) (λ_=>[]) (λi=>l.length-i) (λi=>i<=l.length) 0 (Qh _) rfl rfl λi hi=>?_
 by_cases h:i<l.length
 ·have hx:=Gn (f:=λ(x:Int)=>[LV.int .i64 x]) (Qe h);refine Uc [.t (by simp; omega),.x hx,.x hx,.f (by simp)] rfl ?_;exact rd (i+1) (by omega) h rfl
 ·exact Ud [.f (by simp; omega)] rfl
theorem Qek {l:List P3} (hl:l.length<=1000000):Uh 62 [.one (.row (QL l)),.one (.row (QL l))] [.one (.bool true)]:=by
 have hll:(QL l).length=l.length:=by simp [QL]
 refine Ft func62 rfl ?_;refine Ub [.f (by simp)] rfl ?_;refine Ug (S:=Nat) 0 (λL1 i=>(14,.v (.oi i))::L1) (λ_=>[]) (λi=>l.length-i) (λi=>i<=l.length) 0 (Qh _) rfl rfl λi hi=>?_
 by_cases h:i<l.length
 ·have hx:=Gn (f:=trL) (Qe h);refine Uc [.t (by simp; omega),.x hx,.x hx,.f (by simp)] rfl ?_;exact rd (i+1) (by omega) h rfl
 ·exact Ud [.f (by simp; omega)] rfl
theorem Qlp {np nd np' nd':Int} {M:List Pt} {q:Rat} {s t h p d s' t' h' p' d':Cr} (hM:M.length≤6) (hok:∀ x∈M,oR 4294967294 1073741824 x) (hq:Qs 128 q):U0 prog 20 [.one (.ow 0 0),.one (.ow 7 0)] (en2 np nd M q s t h p d np' nd' M q s' t' h' p' d') [.one (.bool true)] (en2 np nd M q s t h p d np' nd' M q s' t' h' p' d'):=by
 have ca:=Qe4 (np:=np) (nd:=nd) hok (by omega);have ca':=Qe4 (np:=np') (nd:=nd') hok (by omega);have cc:=Bv (a:=q) (b:=q) (hq.mono (by decide)) (hq.mono (by decide));have e0:G7 q q=0:=by rcases Ms q q with ⟨e,h⟩ | ⟨e,h⟩ | ⟨e,h⟩ <;> grind
 rw [e0] at cc;have hll:(M.map U6).length=M.length:=by simp
 have l1:(Tn (tq q) M).length<=6:=by rw [Na]; exact hM
 have l3:=JB M (tq q);have l5:=OH (Fl (tq q)) hM;have s1:=WB (l:=(Tn (tq q) M).map (·.id)) (by rw [Q7]; omega);have s2:=WB (l:=(Ns (Fl (tq q)) M).1.map (·.id)) (by rw [Q7]; rcases oW (Fl (tq q)) M with e | ⟨w,e⟩ <;> rw [e] <;> simp);have s3:=WB (l:=(S0 M (tq q)).map (·.id)) (by rw [Q7]; omega);have s4:=WB (l:=(ZX (Fl (tq q)) M).map (·.id)) (by rw [Q7]; rcases fH (Fl (tq q)) M with e | ⟨a,b,e⟩ <;> rw [e] <;> simp);have s5:=Qek (l:=OG (Fl (tq q)) M) (by omega);refine Ft func20 rfl ?_;refine Ub [.lo,.c [1] ca,.lo,.c [8] ca',.k cc,.g 31 false rfl,.f (by simp)] rfl ?_;refine Ug (S:=Nat) 14 (λL1 i=>(40,.v (.oi i))::L1) (λ_=>en2 np nd M q s t h p d np' nd' M q s' t' h' p' d') (λi=>M.length-i) (λi=>i<=M.length) 0 (Qh _) rfl rfl λi hi=>?_
 by_cases h:i<M.length
 ·obtain ⟨x,hx⟩:=gxE (l:=M) (i:=i) h;have hxo:=hok x (Qa hx);have cs:=dS hxo.1 hxo.1 hxo.2 hxo.2;rw [show Lr x.c x.c=true by simp [Lr]] at cs;refine Uc [.t (by simp; omega),.x (Rv hx),.x (Rv hx),.g 53 false (by simp),.x (Rv hx),.k cs,.f rfl] rfl ?_;exact rd (i+1) (by omega) h rfl
 ·exact Uf [] [0,1,2,3,4,5,6,7,8,9,10,11,12,13] [.f (by simp; omega),.c Ut (zS hM),.c [7,8,9,10,11,12,13] (zS hM),.k s1,.t rfl,.k s2,.t rfl,.k s3,.t rfl,.k s4,.t rfl,.k s5] rfl
def Em.ins (A:Em) (p:Pt):Em×Int:=(if Sl A.np A.nd A.M p=0 then { A with M:=put A.M p } else A,Sl A.np A.nd A.M p)
def Em.del (A:Em) (id:Int):Em×Int:=if has A.M id=true then ({ A with M:=A.M.take (Tr A.M id)++A.M.drop (Tr A.M id+1) },0) else (A,5)
open Classical in
noncomputable def Em.adv (A:Em) (t:Rat):Em×Int:=if Qs 128 t then (if t<A.q then (A,8) else ({ A with q:=t,s:=A.s+(cnt (ZS A.M) A.q t:Nat),t:=A.t+(cnt (AY A.M) A.q t:Nat),h:=A.h+(cnt (EK A.M) A.q t:Nat),p:=A.p+(cnt (sK A.M) A.q t:Nat),d:=A.d+(cnt (vW A.M) A.q t:Nat) },0)) else (A,1)
theorem Qxp {np nd:Int} {k:Crv} (hn:ZR k) (hnd:nd<=2) (h1:QC k=true) (h2:¬nd<SB k):Sc k:=by
 obtain ⟨s1,s2,s3⟩:=LN.1 h1;unfold SB at h2;exact ⟨hn,s1,s2,s3,by omega,by omega⟩
theorem Qt8 {p:Pt} (h:ZW p=true):(0<=p.id/\p.id<=1048576)/\QC p.c=true:=by
 simp only [ZW,Zn,decide_eq_true_iff] at h;exact ⟨⟨h.1,h.2.1⟩,h.2.2⟩
theorem CB {M:List Pt} {i:Nat} {x:Pt} (h:x∈M.take i++M.drop (i+1)):x∈M:=by
 rcases Qr.1 h with h | h
 ·exact Qo h
 ·exact Qz h
theorem rN {M:List Pt} (hs:So M) (i:Nat):So (M.take i++M.drop (i+1)):=by
 have h:=hs;unfold So at h ⊢;rw [<-Zf i M,Xv] at h;refine Xv.2 ⟨h.1,?_,λx hx y hy=>h.2.2 x hx y ?_⟩
 ·have:M.drop (i+1)=(M.drop i).drop 1:=by rw [Ju]
  rw [this]; exact h.2.1.sublist (List.drop_sublist _ _)
 ·have:M.drop (i+1)=(M.drop i).drop 1:=by rw [Ju]
  rw [this] at hy; exact Qz hy
abbrev oG (f:Nat) (args:Us) (E:Es) (res:Us) (E':Es):Prop:=U0 prog f args (enB 0 E) res (enB 0 E')
theorem UY {E:Es} {b:Int} (h:EOk b E) {lx ly:Uq} {px py:Uk} {x y:LV} {d id:Int} (hx:IsInts lx px) (hy:IsInts ly py) (hd:Gv x y d) (hk:Cs 4294967294 1073741824 (Crv.mk px py d)) :
 ∃ E',EOk b E'/\E'.m=(E.m.ins ⟨Crv.norm (Crv.mk px py d),id⟩).1/\oG 27 [.one (.ow 0 0),.oi id,.agg [.row lx,.row ly,x,y]] E [.one (.int .i64 (E.m.ins ⟨Crv.norm (Crv.mk px py d),id⟩).2)] E':=by
 have hM:=h.m.m;have hl6:=hM.ln;have ct:=Qsz (np:=E.np) (nd:=E.nd) (l:=E.M) (id:=id) hx hy hd hk (by omega);obtain ⟨p,hp⟩:=nmE (Pt.mk (Crv.norm (Crv.mk px py d)) id);have hpn:ZR p.c:=by rw [hp]; exact Crv.nml _
 by_cases e:Sl E.np E.nd E.M p=0
 ·have e0:ZW p=true/\has E.M p.id=false/\¬E.nd<SB p.c/\¬E.np<=(E.M.length:Int):=by
   unfold Sl at e;by_cases a1:ZW p=false
   ·rw [if_pos a1] at e; cases e
   rw [if_neg a1] at e;by_cases a2:has E.M p.id=true
   ·rw [if_pos a2] at e; cases e
   rw [if_neg a2] at e;by_cases a3:E.nd<SB p.c
   ·rw [if_pos a3] at e; cases e
   rw [if_neg a3] at e;by_cases a4:E.np<=(E.M.length:Int)
   ·rw [if_pos a4] at e; cases e
   exact ⟨by simpa using a1,by simpa using a2,a3,a4⟩
  obtain ⟨f1,f2,f3,f4⟩:=e0;obtain ⟨g1,g2⟩:=Qt8 f1;have hsc:=Qxp (np:=E.np) hpn h.nd.2 g2 f3;have hpl:(put E.M p).length<=6:=by rw [jO]; have:=h.np.2; omega
  have hM':MOk (put E.M p):=⟨λz hz=>by rcases FU hz with rfl | hz; exact hsc; exact hM.sc z hz,hpl,LJ hM.so f2⟩;have hME:MEn E.np E.nd (put E.M p):=⟨hM',by rw [jO]; have:=h.np.2; omega,λz hz=>by rcases FU hz with rfl | hz; omega; exact h.m.deg z hz,λz hz=>by rcases FU hz with rfl | hz; exact g1; exact h.m.id z hz⟩;have hpe:KB E.M p=0:=by unfold KB; rw [if_neg (by rw [f2]; decide),if_neg (by have:=h.np.2; omega)]
  rw [hp] at e hpe hM' hME hpl;rw [e,if_pos rfl] at ct;obtain ⟨w1,l1,a1⟩:=h.s.again okS hM';obtain ⟨w2,l2,a2⟩:=h.t.again okT hM';obtain ⟨w3,l3,a3⟩:=h.h.again okH hM';obtain ⟨w4,l4,a4⟩:=h.p.again okP hM';obtain ⟨w5,l5,a5⟩:=h.d.again okD hM';have c1:=Qsi (c:=E.s) (l:=E.M) (r1:=vU E.M (tq E.q)) hx hy hd hk (by omega) hpe h.s.st.inv.ok hM'.sc (by omega) l1;have c2:=Qmd (c:=E.t) (l:=E.M) (r1:=brT E.M (tq E.q)) hx hy hd hk (by omega) hpe h.t.st.inv.ok hM'.sc (by omega) l2;have c3:=Qlr (c:=E.h) (l:=E.M) (r1:=brH E.M (tq E.q)) hx hy hd hk (by omega) hpe h.h.st.inv.ok hM'.sc (by omega) l3;have c4:=Qlz (c:=E.p) (l:=E.M) (r1:=brP E.M (tq E.q)) hx hy hd hk (by omega) hpe h.p.st.inv.ok hM'.sc (by omega) l4;have c5:=Qlo (c:=E.d) (l:=E.M) (r1:=oO E.M (tq E.q)) hx hy hd hk (by omega) hpe h.d.st.inv.ok hM'.sc (by omega) l5;rw [h.s.now] at c1;rw [h.t.now] at c2;rw [h.h.now] at c3;rw [h.p.now] at c4;rw [h.d.now] at c5;obtain ⟨b1,r,rfl,rfl,_⟩:=hd;refine ⟨⟨E.np,E.nd,put E.M ⟨Crv.norm (Crv.mk px py d),id⟩,E.q,⟨tq E.q,w1,E.s.ev⟩,⟨tq E.q,w2,E.t.ev⟩,⟨tq E.q,w3,E.h.ev⟩,⟨tq E.q,w4,E.p.ev⟩,⟨tq E.q,w5,E.d.ev⟩⟩,⟨h.np,h.nd,hME,h.q,a1,a2,a3,a4,a5,h.es,h.et,h.eh,h.ep,h.ed⟩,?_,?_⟩
  ·unfold Em.ins;show _=if Sl E.np E.nd E.M _=0 then _ else _
   rw [if_pos e]; rfl
  ·have e2:(E.m.ins ⟨Crv.norm (Crv.mk px py d),id⟩).2=0:=e;rw [e2];exact Qds ct c1 c2 c3 c4 c5
 ·rw [hp] at e;rw [if_neg e] at ct;obtain ⟨b1,r,rfl,rfl,_⟩:=hd;refine ⟨E,h,?_,Qah e ct⟩;unfold Em.ins;show _=if Sl E.np E.nd E.M _=0 then _ else _
  rw [if_neg e]
theorem Qf0 {E:Es} {b id:Int} (h:EOk b E) :
 ∃ E',EOk b E'/\E'.m=(E.m.del id).1/\oG 30 [.one (.ow 0 0),.oi id] E [.one (.int .i64 (E.m.del id).2)] E':=by
 have hM:=h.m.m;have hl6:=hM.ln;by_cases f2:has E.M id=true
 ·have ct:=Qmr (np:=E.np) (nd:=E.nd) (l:=E.M) (by omega) f2;have hpl:=jE f2;have hgl:=Qgt hpl;have hM':MOk (E.M.take (Tr E.M id)++E.M.drop (Tr E.M id+1)):=⟨λz hz=>hM.sc z (CB hz),by omega,rN hM.so _⟩;have hME:MEn E.np E.nd (E.M.take (Tr E.M id)++E.M.drop (Tr E.M id+1)):=⟨hM',by have:=h.m.len; omega,λz hz=>h.m.deg z (CB hz),λz hz=>h.m.id z (CB hz)⟩;obtain ⟨w1,l1,a1⟩:=h.s.again okS hM';obtain ⟨w2,l2,a2⟩:=h.t.again okT hM';obtain ⟨w3,l3,a3⟩:=h.h.again okH hM';obtain ⟨w4,l4,a4⟩:=h.p.again okP hM';obtain ⟨w5,l5,a5⟩:=h.d.again okD hM';have c1:=Ql2 (c:=E.s) (l:=E.M) (r1:=vU E.M (tq E.q)) (by omega) f2 h.s.st.inv.ok rfl hM'.sc l1;have c2:=Qed (c:=E.t) (l:=E.M) (r1:=brT E.M (tq E.q)) (by omega) f2 h.t.st.inv.ok rfl hM'.sc l2;have c3:=Qdq (c:=E.h) (l:=E.M) (r1:=brH E.M (tq E.q)) (by omega) f2 h.h.st.inv.ok rfl hM'.sc l3;have c4:=Qd1 (c:=E.p) (l:=E.M) (r1:=brP E.M (tq E.q)) (by omega) f2 h.p.st.inv.ok rfl hM'.sc l4;have c5:=Qdk (c:=E.d) (l:=E.M) (r1:=oO E.M (tq E.q)) (by omega) f2 h.d.st.inv.ok rfl hM'.sc l5;rw [h.s.now] at c1;rw [h.t.now] at c2;rw [h.h.now] at c3;rw [h.p.now] at c4;rw [h.d.now] at c5;have e2:E.m.del id=({ E.m with M:=E.M.take (Tr E.M id)++E.M.drop (Tr E.M id+1) },0):=if_pos f2;rw [e2];exact ⟨⟨E.np,E.nd,E.M.take (Tr E.M id)++E.M.drop (Tr E.M id+1),E.q,⟨tq E.q,w1,E.s.ev⟩,⟨tq E.q,w2,E.t.ev⟩,⟨tq E.q,w3,E.h.ev⟩,⟨tq E.q,w4,E.p.ev⟩,⟨tq E.q,w5,E.d.ev⟩⟩,⟨h.np,h.nd,hME,h.q,a1,a2,a3,a4,a5,h.es,h.et,h.eh,h.ep,h.ed⟩,rfl,Qdl ct c1 c2 c3 c4 c5⟩
 ·have e2:E.m.del id=(E.m,5):=if_neg f2;rw [e2];exact ⟨E,h,rfl,Qad (show (5:Int)≠0 by decide) (Qe5 (by omega) (by simpa using f2))⟩
theorem IY {E:Es} {b:Int} (h:EOk b E) (hb:b<=900000000000000000) {x0 x1 x2 x3:LV} {n m:Int} {t:Rat} (ha:Gv x0 x1 n) (hc:Gv x2 x3 m) (sa:Fa n<=4294967295) (sb:Fa m<=4294967295) (ht:Gx n m=t) :
 ∃ E',EOk (b+67000000) E'/\E'.m=(E.m.adv t).1/\((E.m.adv t).2≠0->E'=E)/\oG 13 [.one (.ow 0 0),.agg [x0,x1,x2,x3]] E [.one (.int .i64 (E.m.adv t).2)] E':=by
 have hM:=h.m.m;have hl6:=hM.ln;by_cases hs:Qs 128 t
 ·by_cases hp:t<E.q
  ·have e2:E.m.adv t=(E.m,8):=by unfold Em.adv; rw [if_pos hs]; exact if_pos hp
   rw [e2];exact ⟨E,h.mono (by omega),rfl,λ_=>rfl,ER ha hc sa sb ht hs h.q hp⟩
  ·have hqt:E.q<=t:=Ki.1 hp;have e2:E.m.adv t=(({ E.m with q:=t,s:=E.s.ev+(cnt (ZS E.M) E.q t:Nat),t:=E.t.ev+(cnt (AY E.M) E.q t:Nat),h:=E.h.ev+(cnt (EK E.M) E.q t:Nat),p:=E.p.ev+(cnt (sK E.M) E.q t:Nat),d:=E.d.ev+(cnt (vW E.M) E.q t:Nat) }:Em),0):=by unfold Em.adv; rw [if_pos hs]; exact if_neg hp
   rw [e2];have hq:Qs 1640000 t:=hs.mono (by decide);obtain ⟨K1,d1,k1,g1,a1,v1,u1,_⟩:=h.s.adv okS hM hq hqt;obtain ⟨K2,d2,k2,g2,a2,v2,u2,_⟩:=h.t.adv okT hM hq hqt;obtain ⟨K3,d3,k3,g3,a3,v3,u3,_⟩:=h.h.adv okH hM hq hqt;obtain ⟨K4,d4,k4,g4,a4,v4,u4,_⟩:=h.p.adv okP hM hq hqt;obtain ⟨K5,d5,k5,g5,a5,v5,u5,_⟩:=h.d.adv okD hM hq hqt;have hcm:∀ {c:Cr},c.now=tq E.q->Fh c.now t<=0:=λ{c} hn=>by
    rw [hn,tQ]; exact PD.2 hqt
   have c1:=Qsg hq hM.sc (by omega) h.s.st.inv.ok (by have:=h.es; omega) (hcm h.s.now) g1;have c2:=Qmc hq hM.sc (by omega) h.t.st.inv.ok (by have:=h.et; omega) (hcm h.t.now) g2;have c3:=Qr5 hq hM.sc (by omega) h.h.st.inv.ok (by have:=h.eh; omega) (hcm h.h.now) g3;have c4:=Qly hq hM.sc (by omega) h.p.st.inv.ok (by have:=h.ep; omega) (hcm h.p.now) g4;have c5:=Qr3 hq hM.sc (by omega) h.d.st.inv.ok (by have:=h.ed; omega) (hcm h.d.now) g5;refine ⟨⟨E.np,E.nd,E.M,t,d1,d2,d3,d4,d5⟩,⟨h.np,h.nd,h.m,hs,a1,a2,a3,a4,a5,?_,?_,?_,?_,?_⟩,?_,λh=>absurd rfl h,Qac ha hc sa sb ht hs h.q hqt c1 c2 c3 c4 c5⟩
   ·have:=h.es; show 0<=d1.ev/\d1.ev<=_; omega
   ·have:=h.et; show 0<=d2.ev/\d2.ev<=_; omega
   ·have:=h.eh; show 0<=d3.ev/\d3.ev<=_; omega
   ·have:=h.ep; show 0<=d4.ev/\d4.ev<=_; omega
   ·have:=h.ed; show 0<=d5.ev/\d5.ev<=_; omega
   ·unfold Es.m;simp only [v1,v2,v3,v4,v5]
 ·have e2:E.m.adv t=(E.m,1):=by unfold Em.adv; exact if_neg hs
  rw [e2];exact ⟨E,h.mono (by omega),rfl,λ_=>rfl,zU ha hc sa sb ht hs⟩
end Orr
namespace Orr
open Go Go.Proofs Tryz Orq
set_option maxRecDepth 10000
theorem Qtc {E:Es} {b:Int} (h:EOk b E) {c:Crv} {id e:Int} {A A':Em} (hn:ZR c) (hc:Cs 4294967294 1073741824 c) (hm:E.m=A) (he:A.ins ⟨c,id⟩=(A',e)):∃ E',EOk b E'/\E'.m=A'/\oG 27 [.one (.ow 0 0),.oi id,.agg (cl c)] E [.oi e] E':=by
 obtain ⟨E',h1,h2,h3⟩:=UY h (id:=id) (Gi c.x) (Gi c.y) (Uy c.d) hc;have e1:Crv.norm (Crv.mk c.x c.y c.d)=c:=Crv.norm_of hn;rw [e1,hm,he] at h2 h3;exact ⟨E',h1,h2,h3⟩
theorem Qta {E:Es} {b id e:Int} (h:EOk b E) {A A':Em} (hm:E.m=A) (he:A.del id=(A',e)):∃ E',EOk b E'/\E'.m=A'/\oG 30 [.one (.ow 0 0),.oi id] E [.oi e] E':=by
 obtain ⟨E',h1,h2,h3⟩:=Qf0 h (id:=id);rw [hm,he] at h2 h3;exact ⟨E',h1,h2,h3⟩
theorem eJ {A:Em} {p:Pt} {e:Int} (h:Sl A.np A.nd A.M p=e) (h0:e≠0):A.ins p=(A,e):=by unfold Em.ins; rw [h,if_neg h0]
theorem Qtw {A:Em} {p:Pt} (h:Sl A.np A.nd A.M p=0):A.ins p=({ A with M:=put A.M p },0):=by unfold Em.ins; rw [h,if_pos rfl]
section
variable {np nd:Int} {M:List Pt} {p:Pt}
theorem Qj2 (h:ZW p=false):Sl np nd M p=1:=if_pos h
theorem Qj3 (h:ZW p=true) (h2:has M p.id=false) (h3:nd<SB p.c):Sl np nd M p=7:=by
 unfold Sl; rw [if_neg (by rw [h]; decide),if_neg (by rw [h2]; decide),if_pos h3]
theorem Qpn (h:ZW p=true) (h2:has M p.id=false) (h3:SB p.c<=nd) (h4:(M.length:Int)<np):Sl np nd M p=0:=by
 unfold Sl; rw [if_neg (by rw [h]; decide),if_neg (by rw [h2]; decide),if_neg (by omega),if_neg (by omega)]
end
end Orr
namespace Orr
open Go Go.Proofs Tryz Orq
theorem Qjo:∀ {A B:List Pt},So A->So B->(∀ x,x∈A↔x∈B)->A=B
 | [],[],_,_,_=>rfl
 | [],b::B,_,_,h=>by have:=(h b).2 (by simp); cases this
 | a::A,[],_,_,h=>by have:=(h a).1 (by simp); cases this
 |
  a::A,b::B,hA,hB,h=>by
  obtain ⟨a1,a2⟩:=Q9.1 hA;obtain ⟨b1,b2⟩:=Q9.1 hB;have e:a=b:=by
   rcases Ql.1 ((h a).1 (by simp)) with e | e
   ·exact e
   ·rcases Ql.1 ((h b).2 (by simp)) with e' | e'
    ·exact e'.symm
    ·have:=b1 a e; have:=a1 b e'; omega
  subst e;rw [Qjo a2 b2 λx=>?_];have hx:=h x;simp only [Ql] at hx;constructor
  ·intro hm;rcases hx.1 (.inr hm) with e | e
   ·have:=a1 x hm; rw [e] at this; omega
   ·exact e
  ·intro hm;rcases hx.2 (.inr hm) with e | e
   ·have:=b1 x hm; rw [e] at this; omega
   ·exact e
def Qgu (nd:Int) (p:Pt):Prop:=ZW p=true/\SB p.c<=nd
structure Has (P:Nat->Pt) (nd:Int) (J:Nat->Prop) (M:List Pt):Prop where
 h:∀ x,x∈M↔∃ j,J j/\Qgu nd (P j)/\x=P j
theorem Qnl {P:Nat->Pt} (hid:∀ j,j<4->(P j).id=(j:Int)) {A:Em} {J:Nat->Prop} {i:Nat} (hnp:A.np=4) (hs:So A.M) (hJ:∀ j,J j->j<4) (hi:i<4) (hJi:¬J i) (hl:A.M.length<4) (h:Has P A.nd J A.M):(A.ins (P i)).1.np=A.np/\(A.ins (P i)).1.nd=A.nd/\(A.ins (P i)).1.q=A.q/\(A.ins (P i)).1.M.length<=A.M.length+1/\Has P A.nd (λj=>J j\/j=i) (A.ins (P i)).1.M:=by
 have hno:has A.M (P i).id=false:=by
  cases e:has A.M (P i).id
  ·rfl
  ·obtain ⟨x,hx,e⟩:=(xP hs).1 e;obtain ⟨j,h1,_,rfl⟩:=(h.h x).1 hx;rw [hid i hi,hid j (hJ j h1)] at e;exact absurd (show J i by rwa [show i=j by omega]) hJi
 have bad:¬Qgu A.nd (P i)->A.ins (P i)=(A,(A.ins (P i)).2):=λhb=>by
  by_cases h1:ZW (P i)=true
  ·by_cases h2:SB (P i).c<=A.nd
   ·exact absurd ⟨h1,h2⟩ hb
   ·rw [eJ (Qj3 h1 hno (by omega)) (by decide)]
  ·rw [eJ (Qj2 (by simpa using h1)) (by decide)]
 by_cases hg:Qgu A.nd (P i)
 ·have e:=Qtw (A:=A) (Qpn hg.1 hno hg.2 (by omega));rw [e];refine ⟨rfl,rfl,rfl,by show (put A.M (P i)).length<=_; rw [jO]; omega,⟨λx=>?_⟩⟩;show x∈put A.M (P i)↔_;rw [(Qil A.M (P i)).mem_iff,Ql,h.h x];constructor
  ·rintro (rfl | ⟨j,h1,h2,h3⟩)
   ·exact ⟨i,.inr rfl,hg,rfl⟩
   ·exact ⟨j,.inl h1,h2,h3⟩
  ·rintro ⟨j,h1 | rfl,h2,h3⟩
   ·exact .inr ⟨j,h1,h2,h3⟩
   ·exact .inl h3
 ·rw [bad hg];refine ⟨rfl,rfl,rfl,Nat.le_succ _,⟨λx=>?_⟩⟩;rw [h.h x];constructor
  ·rintro ⟨j,h1,h2,h3⟩
   exact ⟨j,.inl h1,h2,h3⟩
  ·rintro ⟨j,h1 | rfl,h2,h3⟩
   ·exact ⟨j,h1,h2,h3⟩
   ·exact absurd h2 hg
theorem Qgx {P:Nat->Pt} {nd:Int} {J K:Nat->Prop} {A B:List Pt} (hA:Has P nd J A) (hB:Has P nd K B) (h:∀ j,J j↔K j) (sA:So A) (sB:So B):A=B :=
 Qjo sA sB λx=>by
  rw [hA.h x,hB.h x];simp only [h]
def rot (r k i:Nat):Nat:=if i+r<k then i+r else i+r-k
theorem bY {r k i:Nat} (hr:r<k) (hi:i<k):rot r k i<k:=by unfold rot; split <;> omega
theorem Qo0 {r k i j:Nat} (hr:r<k) (hi:i<k) (hj:j<k) (h:rot r k i=rot r k j):i=j:=by
 unfold rot at h; split at h <;> split at h <;> omega
theorem Qux {r k j:Nat} (hr:r<k) (hj:j<k):∃ i,i<k/\rot r k i=j:=by
 by_cases h:r<=j
 ·exact ⟨j-r,by omega,by unfold rot; rw [if_pos (by omega)]; omega⟩
 ·exact ⟨j+k-r,by omega,by unfold rot; rw [if_neg (by omega)]; omega⟩
end Orr
namespace Orr
open Go Go.Proofs Tryz Orq
set_option maxRecDepth 10000
theorem vN {β:Type} {k:Knd β} {M:List Pt} {q:Rat} {c:Cr} (h:At k M q c):Ii c.l=Fg (Fg (k.bc M (tq q))):=by
 unfold Ii; rw [h.st.cs,h.now]
def AB (M:List Pt) (q:Rat):List Ct:=Fg (Fg (ZS M (tq q)))++Fg (Fg (AY M (tq q)))++Fg (Fg (EK M (tq q)))++Fg (Fg (sK M (tq q)))++Fg (Fg (vW M (tq q)))
theorem wL {E:Es} {b:Int} (h:EOk b E):oG 32 [.one (.ow 0 0)] E [.one (.row (U3 (AB E.M E.q)))] E:=by
 have hc:=Qlm (np:=E.np) (nd:=E.nd) (M:=E.M) (q:=E.q) h.s.st.inv.ok h.t.st.inv.ok h.h.st.inv.ok h.p.st.inv.ok h.d.st.inv.ok;have e:Ii E.s.l++Ii E.t.l++Ii E.h.l++Ii E.p.l++Ii E.d.l=AB E.M E.q:=by
  rw [vN h.s,vN h.t,vN h.h,vN h.p,vN h.d]; rfl
 rw [e] at hc;exact hc
theorem Qfb {E:Es} {b:Int} (h:EOk b E):(∀ c∈AB E.M E.q,Cp c.p)/\(AB E.M E.q).length≤1000000:=by
 have hv:Va (tq E.q):=EJ (h.q.mono (by decide));have S1:=okS.st _ h.m.m;have S2:=okT.st _ h.m.m;have S3:=okH.st _ h.m.m;have S4:=okP.st _ h.m.m;have S5:=okD.st _ h.m.m;constructor
 ·intro c hc;unfold AB at hc;simp only [Qr] at hc;rcases hc with (((hc | hc) | hc) | hc) | hc
  ·exact S1.ok.p _ hv c (Rr (Rr hc))
  ·exact S2.ok.p _ hv c (Rr (Rr hc))
  ·exact S3.ok.p _ hv c (Rr (Rr hc))
  ·exact S4.ok.p _ hv c (Rr (Rr hc))
  ·exact S5.ok.p _ hv c (Rr (Rr hc))
 ·unfold AB;simp only [Qu,Mh];have:=S1.ok.n _ hv; have:=S2.ok.n _ hv; have:=S3.ok.n _ hv; have:=S4.ok.n _ hv; have:=S5.ok.n _ hv;have e1:(kS.bc E.M (tq E.q)).length=(ZS E.M (tq E.q)).length:=rfl;have e2:(kT.bc E.M (tq E.q)).length=(AY E.M (tq E.q)).length:=rfl;have e3:(kH.bc E.M (tq E.q)).length=(EK E.M (tq E.q)).length:=rfl;have e4:(kP.bc E.M (tq E.q)).length=(sK E.M (tq E.q)).length:=rfl;have e5:(kD.bc E.M (tq E.q)).length=(vW E.M (tq E.q)).length:=rfl;omega
abbrev Qw1 (E F:Es):Ur:=en2 E.np E.nd E.M E.q E.s E.t E.h E.p E.d F.np F.nd F.M F.q F.s F.t F.h F.p F.d
theorem Quo {E:Es} {b:Int} (h:EOk b E):∀ x∈E.M,oR 4294967294 1073741824 x:=λx hx=>by
 have:=h.m.m.sc x hx;exact ⟨this.n,this.c.mono (by decide) (by decide)⟩
theorem Qtf {E F:Es} {b:Int} (h:EOk b E) (hM:F.M=E.M) (hq:F.q=E.q):U0 prog 20 [.one (.ow 0 0),.one (.ow 7 0)] (Qw1 E F) [.one (.bool true)] (Qw1 E F):=by
 obtain ⟨np,nd,M,q,s,t,v,p,d⟩:=F;dsimp only at hM hq;subst hM hq;exact Qlp h.m.m.ln (Quo h) h.q
def vI (z:RawInt):Int:=U8 z.b (val z.l)
def RawInt.cutN (z:RawInt) (n:Nat):RawInt:=⟨z.b,z.l.take n⟩
theorem RawInt.Ok.cutN_ok {z:RawInt} (h:z.Ok) (n:Nat):(z.cutN n).Ok:=⟨λu hu=>h.u u (Qo hu)⟩
theorem OV {z:RawInt} (h:z.Ok):Gv (.bool z.b) (.row (lm z.l)) (vI z):=⟨z.b,z.l,rfl,rfl,h.u,rfl⟩
theorem eH {z:RawInt} (h:z.Ok) {n:Nat} (hl:z.l.length<=n):Fa (vI z)<=32*n:=by
 have h1:=Cm z.l h.u;have e:(vI z).natAbs=val z.l:=by unfold vI U8; split <;> simp
 refine Tz.2 ?_;rw [e,Wn];exact Z6 h1 (Zr (by decide) hl)
theorem wW (z:RawInt) (n:Nat):(z.cutN n).l.length<=n:=by show (z.l.take n).length<=n; rw [Qq]; omega
theorem PT {z:RawInt} {n:Nat} (hn:n<=1000):Uh 136 [.agg (Ip z),.oi n] [.agg (Ip (z.cutN n))] :=
 Ue func136 rfl [.k (Qsq (l:=z.l) hn)] rfl
theorem Qmj {t u:RawInt}:Uh 95 [.agg (Ip t++Ip u),.oi 6] [.agg (Ip (t.cutN 6)++Ip (u.cutN 6))] :=
 Ue func95 rfl [.k (PT (z:=t) (n:=6) (by decide)),.k (PT (z:=u) (n:=6) (by decide))] rfl
theorem kR {l:List RawInt}:Uh 135 [.one (.row (Ic l)),.oi 4,.oi 1] [.one (.row (Ic ((l.take 4).map (·.cutN 1))))]:=by
 have hll:=Ou l;refine Ft func135 rfl (ln 0 rfl rfl λhzl=>?_);rw [hll] at hzl;refine Ub [.o 7 34 2] rfl ?_;refine Ug (S:=Nat) 1 (λL1 i=>(8,.v (.oi i))::(7,.v (.one (.orow 0 2 none)))::L1) (λi=>[.row false 34 2 (Ic ((l.take i).map (·.cutN 1)))]) (λi=>4-i) (λi=>i<=4/\i<=l.length) 0 ⟨by decide,Qh _⟩ rfl rfl λi ⟨hi,hi2⟩=>?_
 have hil:(Ic ((l.take i).map (·.cutN 1))).length=i:=by rw [Ou,Q7,Qq]; omega
 by_cases h1:i<l.length
 ·by_cases h2:i<4
  ·obtain ⟨z,hz⟩:=gxE (l:=l) (i:=i) h1;have hm:∀ y∈[Ip (z.cutN 1)],y.length=2:=λy hy=>by rw [Qk.1 hy]; rfl
   refine go tt [.g 13 true Uj,.T,.x (Gn (f:=Ip) hz),.k (PT (n:=1) (by decide)),.s (sz:=2) hm] rfl (by simp [Uw,hil,-List.map_take]; omega) ?_;exact rd (i+1) (by omega) ⟨h2,h1⟩ (by rw [Zw,hz]; simp [Ic]; rfl)
  ·have e:i=4:=by omega
   have e2:l.take 4=l.take i:=by rw [e]
   rw [e2];exact Ud [.g 13 true Uj,.F] rfl
 ·have e:l.take i=l.take 4:=by rw [Qn (by omega),Qn (by omega)]
  rw [e];exact Ud [.g 13 false Ui,.f rfl] rfl
theorem Qr2 {z:RawPt}:Uh 93 [.agg (rcw z),.oi 4,.oi 1] [.agg [.row (Ic ((z.x.take 4).map (·.cutN 1))),.row (Ic ((z.y.take 4).map (·.cutN 1))),.bool z.d.b,.row (lm (z.d.l.take 1))]] :=
 Ue func93 rfl [.k (kR (l:=z.x)),.k (kR (l:=z.y)),.k (PT (z:=z.d) (n:=1) (by decide))] rfl
theorem KY:∀ {l:List RawInt},(∀ z∈l,z.Ok)->IsInts (Ic l) (l.map vI)
 | [],_=>trivial
 | z::l,h=>⟨⟨_,_,rfl,OV (h z (Qy ..))⟩,KY λy hy=>h y (Qg _ hy)⟩
end Orr
namespace Orr
open Go
structure RawOp where
 k:Int
 n:Int
 d:Int
 p:RawPt
 t:RawInt
 u:RawInt
structure RawOp.Ok (o:RawOp):Prop where
 k:-9223372036854775808<=o.k/\o.k<=9223372036854775807
 n:-9223372036854775808<=o.n/\o.n<=9223372036854775807
 d:-9223372036854775808<=o.d/\o.d<=9223372036854775807
 p:o.p.Ok
 t:o.t.Ok
 u:o.u.Ok
abbrev rwo (o:RawOp):Up:=[.int .i64 o.k,.int .i64 o.n,.int .i64 o.d]++rwq o.p++Ip o.t++Ip o.u
end Orr
namespace Orr
open Go Go.Proofs Tryz Orq
set_option maxRecDepth 10000
def I9 (N:Int):Int:=if N=2 then 999 else if N=3 then 99 else 20
theorem fU (N:Int):0<=I9 N/\I9 N<=999:=by unfold I9; split; decide; split; decide; decide
def WO (N:Int) (z:RawPt):Crv:=if 1<N then ⟨Gf (I9 N) z.x++(if 3<z.x.length then [1] else []),Gf (I9 N) z.y,Hr 3 z.d⟩ else ⟨((z.x.take 4).map (·.cutN 1)).map vI,((z.y.take 4).map (·.cutN 1)).map vI,vI (z.d.cutN 1)⟩
theorem Qit {l:List RawInt} (h:∀ a∈l,a.Ok):∀ z∈(l.take 4).map (·.cutN 1),z.Ok:=λz hz=>by
 obtain ⟨y,hy,rfl⟩:=Za.1 hz;exact (h y (Qo hy)).cutN_ok 1
theorem Qis {l:List RawInt} (h:∀ a∈l,a.Ok):Bd 40 (((l.take 4).map (·.cutN 1)).map vI):=λz hz=>by
 obtain ⟨y,hy,rfl⟩:=Za.1 hz;obtain ⟨x,hx,rfl⟩:=Za.1 hy;exact Qc (eH ((h x (Qo hx)).cutN_ok 1) (wW x 1)) (by decide)
theorem Qmx {N:Int} {z:RawPt} (hz:z.Ok):Cs 40 4 (WO N z):=by
 unfold WO
 split
 ·have h:=Qaz (fU N) z.x z.y z.d;refine ⟨λy hy=>?_,Ux h.y (by decide),Qc h.d (by decide),?_,Qc h.ly (by decide)⟩
  ·rcases Qr.1 hy with hy | hy
   ·exact Qc (h.x y hy) (by decide)
   ·split at hy
    ·rw [Qk.1 hy]; decide
    ·cases hy
  ·have:=h.lx;have h2:(Gf (I9 N) z.x).length<=3:=this;show (_++_:Uk).length<=4;rw [Qu]
   split <;> simp <;> omega
 ·exact ⟨Qis hz.x,Qis hz.y,Qc (eH (hz.d.cutN_ok 1) (wW z.d 1)) (by decide),by show (List.map _ _).length<=4; rw [Q7,Q7,Qq]; omega,by show (List.map _ _).length<=4; rw [Q7,Q7,Qq]; omega⟩
def idO (o:RawOp):Int:=if Nz o.k 12<10 then Nz o.p.id 6 else o.p.id
abbrev Qwt (o:RawOp) (lx ly:Uq) (bb:Bool) (l3:Uq):Up:=[.int .i64 o.k,.int .i64 o.n,.int .i64 o.d,.row lx,.row ly,.bool bb,.row l3,.int .i64 (idO o)]++Ip (o.t.cutN 6)++Ip (o.u.cutN 6)
abbrev Qh6 (ms:Up) (N:Int):Up:=[.ow 0 0,.sh ms,.int .i64 N]
theorem jQ {most:Int} {l:List RawInt} (h:3<l.length):(Gf most l).length=3:=by unfold Gf; rw [List.length_map,List.length_take]; omega
abbrev Qq8:Up:=[.bool false,.row [[.int .u32 1]]]
theorem mG {p:Uk}:IsInts (p.map He++[Qq8]) (p++[1]):=(Gi p).append ⟨⟨_,_,rfl,false,[1],rfl,rfl,(λx hx=>by rw [Qk.1 hx]; decide),rfl⟩,trivial⟩
theorem Qai {z:RawPt} (hz:z.Ok) {most:Int} (hm:0<=most/\most<=999):U0 prog 94 [.agg (rcw z),.oi most] [] [.agg [.orow 0 2 none,.row (Ag (Gf most z.y)),sg (Hr 3 z.d),mg (Hr 3 z.d)]] [.row false 34 2 (Ag (Gf most z.x))]:=by
 have hxl:=Ou z.x;have hyl:=Ou z.y;obtain ⟨D,hD⟩:=nmE (Hr 3 z.d);have cd:=WC hz.d (most:=3) (by decide);have hx0:∀ {i:Nat},z.x.length<=i\/3<=i->Gf most (z.x.take i)=Gf most z.x:=TL most;have hy0:∀ {i:Nat},z.y.length<=i\/3<=i->Gf most (z.y.take i)=Gf most z.y:=TL most;rw [<-hD] at cd ⊢;refine Ft func94 rfl ?_;refine Ub [.k cd] rfl ?_;refine oz2 5 0 34 2 rfl rfl ?_;refine Ug (S:=Nat) 4 (λL1 i=>(6,.v (.oi i))::L1) (λi=>[.blk 36 (rcw z),.blk 36 [.nils,.nils,.bool false,.nils],.blk 36 [.orow 3 2 none,.nils,sg D,mg D],.row false 34 2 (Ag (Gf most (z.x.take i)))]) (λi=>3-i) (λi=>i<=3/\i<=z.x.length) 0 ⟨by decide,Qh _⟩ rfl rfl λi ⟨hi,hi2⟩=>?_
 have hll:=xO (most:=most) hi hi2;by_cases hr:i<z.x.length/\i<3
 ·obtain ⟨a,ha⟩:=gxE (l:=z.x) (i:=i) hr.1;have hs:∀ y∈[He (Hr most a)],y.length=2:=λy hy=>by rw [Qk.1 hy]; rfl
  refine go tt [.g 17 true Uj,.T,.x (Gn (f:=Ip) ha),.k (WC (hz.x a (Qa ha)) hm),.s (sz:=2) hs] rfl (by simp [Uw,hll]; omega) ?_;exact rd (i+1) (by omega) ⟨hr.2,hr.1⟩ (by rw [HA hr.2 ha]; rfl)
 have hg1:decide ((i:Int)<((Ic z.x).length:Int))=true->i<z.x.length:=λh=>by have:=of_decide_eq_true h; omega
 rw [hx0 (by omega)];clear hll;have hfin:∀ {j:Nat},j<=3/\j<=z.y.length->¬(j<z.y.length/\j<3)->Ag (Gf most (z.y.take j))=Ag (Gf most z.y):=λh1 h2=>by rw [hy0 (by omega)]
 by_cases hxx:i<z.x.length
 ·refine Ub [.g 17 true Uj,.F] rfl ?_;refine oz2 5 1 34 2 rfl rfl ?_;refine Ug (S:=Nat) 5 (λL1 j=>(7,.v (.oi j))::L1) (λj=>[.blk 36 (rcw z),.blk 36 [.nils,.nils,.bool false,.nils],.blk 36 [.orow 3 2 none,.orow 4 2 none,sg D,mg D],.row false 34 2 (Ag (Gf most z.x)),.row false 34 2 (Ag (Gf most (z.y.take j)))]) (λj=>3-j) (λj=>j<=3/\j<=z.y.length) 0 ⟨by decide,Qh _⟩ rfl rfl λj ⟨hj,hj2⟩=>?_
  have hll:=xO (most:=most) hj hj2;by_cases hr:j<z.y.length/\j<3
  ·obtain ⟨a,ha⟩:=gxE (l:=z.y) (i:=j) hr.1;have hs:∀ y∈[He (Hr most a)],y.length=2:=λy hy=>by rw [Qk.1 hy]; rfl
   refine go tt [.g 40 true Uj,.T,.x (Gn (f:=Ip) ha),.k (WC (hz.y a (Qa ha)) hm),.s (sz:=2) hs] rfl (by simp [Uw,hll]; omega) ?_;exact rd (j+1) (by omega) ⟨hr.2,hr.1⟩ (by rw [HA hr.2 ha]; rfl)
  rw [hfin ⟨hj,hj2⟩ hr];by_cases hyy:j<z.y.length
  ·exact Uf [4] [3] [.g 40 true Uj,.F] rfl
  ·exact Uf [4] [3] [.g 40 false Ui,.f rfl] rfl
 ·refine Ub [.g 17 false Ui,.f rfl] rfl ?_;refine oz2 5 1 34 2 rfl rfl ?_;refine Ug (S:=Nat) 5 (λL1 j=>(7,.v (.oi j))::L1) (λj=>[.blk 36 (rcw z),.blk 36 [.nils,.nils,.bool false,.nils],.blk 36 [.orow 3 2 none,.orow 4 2 none,sg D,mg D],.row false 34 2 (Ag (Gf most z.x)),.row false 34 2 (Ag (Gf most (z.y.take j)))]) (λj=>3-j) (λj=>j<=3/\j<=z.y.length) 0 ⟨by decide,Qh _⟩ rfl rfl λj ⟨hj,hj2⟩=>?_
  have hll:=xO (most:=most) hj hj2;by_cases hr:j<z.y.length/\j<3
  ·obtain ⟨a,ha⟩:=gxE (l:=z.y) (i:=j) hr.1;have hs:∀ y∈[He (Hr most a)],y.length=2:=λy hy=>by rw [Qk.1 hy]; rfl
   refine go tt [.g 40 true Uj,.T,.x (Gn (f:=Ip) ha),.k (WC (hz.y a (Qa ha)) hm),.s (sz:=2) hs] rfl (by simp [Uw,hll]; omega) ?_;exact rd (j+1) (by omega) ⟨hr.2,hr.1⟩ (by rw [HA hr.2 ha]; rfl)
  rw [hfin ⟨hj,hj2⟩ hr];by_cases hyy:j<z.y.length
  ·exact Uf [4] [3] [.g 40 true Uj,.F] rfl
  ·exact Uf [4] [3] [.g 40 false Ui,.f rfl] rfl
set_option maxHeartbeats 4000000 in
theorem Qsf {E:Es} {N:Int} {o:RawOp} {ms:Up} (hN:1<=N/\N<=4) (ho:o.Ok):∃ lx ly bb l3,IsInts lx (WO N o.p).x/\IsInts ly (WO N o.p).y/\Gv (.bool bb) (.row l3) (WO N o.p).d /\
 U0 prog 43 [.agg (Qh6 ms N),.agg (rwo o)] (enB 0 E) [.agg (Qwt o lx ly bb l3)] (enB 0 E):=by
 have c4:=Qr2 (z:=o.p);have wk:=Dq (v:=o.k) (n:=12) ho.k (by decide);have wi:=Dq (v:=o.p.id) (n:=6) ho.p.id (by decide);have cr:=Qmj (t:=o.t) (u:=o.u);have cl:=Qai ho.p (most:=I9 N) (fU N);obtain ⟨i,hi⟩:=nmE (idO o);have hln:(Ic o.p.x).length=o.p.x.length:=Ou _;unfold Qwt;rw [<-hi];by_cases h1:1<N
 ·have e1:WO N o.p=⟨Gf (I9 N) o.p.x++(if 3<o.p.x.length then [1] else []),Gf (I9 N) o.p.y,Hr 3 o.p.d⟩:=if_pos h1;rw [e1];dsimp only;obtain ⟨X,hX⟩:=nmE (Gf (I9 N) o.p.x);obtain ⟨Y,hY⟩:=nmE (Gf (I9 N) o.p.y);obtain ⟨D,hD⟩:=nmE (Hr 3 o.p.d);have hX3:=jQ (most:=I9 N) (l:=o.p.x);rw [<-hX] at hX3;rw [<-hX,<-hY,<-hD] at cl ⊢;have e3:∃ k:Nat,(k:Int)=min N 4/\[[LV.int .i64 0],[.int .i64 0],[.int .i64 999],[.int .i64 99],[.int .i64 20]][k]? = some [.int .i64 (I9 N)]:=by
   rcases (show N=2\/N=3\/N=4 by omega) with rfl | rfl | rfl
   ·exact ⟨2,rfl,rfl⟩
   ·exact ⟨3,rfl,rfl⟩
   ·exact ⟨4,rfl,rfl⟩
  obtain ⟨k,k1,k2⟩:=e3;by_cases h3:3<o.p.x.length
  ·rw [if_pos h3];have hX3:=hX3 h3;have hml:(X.map He).length=3:=by rw [Q7]; exact hX3
   refine ⟨_,_,_,_,mG,Gi Y,Uy D,?_⟩;refine Ft func43 rfl ?_;refine go tt [.k c4,.t (by simpa using h1),.r 19 (eI k1.symm),.x k2,.c [11] cl,.t (by simp; omega)] rfl (by simp only [Uw,OF]; omega) ?_;refine Ug (S:=Unit) 12 (λL1 _=>L1) (λ_=>enB 0 E++[.blk 27 (Qh6 ms N),.blk 42 (rwo o),.blk 42 [.int .i64 0,.int .i64 0,.int .i64 0,.nils,.nils,.bool false,.nils,.int .i64 0,.bool false,.nils,.bool false,.nils],.blk 36 [.orow 11 2 none,pl Y,sg D,mg D],.row false 34 2 (X.map He++[Qq8])]) (λ_=>0) (λ_=>True) () trivial rfl rfl λ_ _=>?_
   by_cases hk:Nz o.k 12<10
   ·rw [hi,show idO o=Nz o.p.id 6 from if_pos hk];exact Uf [11] [0,1,2,3,4,5,6] [.f (by simp; omega),.k wk,.t (by simpa using hk),.k wi,.k cr] rfl
   ·rw [hi,show idO o=o.p.id from if_neg hk];exact Uf [11] [0,1,2,3,4,5,6] [.f (by simp; omega),.k wk,.f (by simpa using hk),.k cr] rfl
  ·rw [if_neg h3,Zx];refine ⟨_,_,_,_,Gi X,Gi Y,Uy D,?_⟩;refine Ft func43 rfl ?_;by_cases hk:Nz o.k 12<10
   ·rw [hi,show idO o=Nz o.p.id 6 from if_pos hk];exact Uf [11] [0,1,2,3,4,5,6] [.k c4,.t (by simpa using h1),.r 19 (eI k1.symm),.x k2,.c [11] cl,.f (by simp; omega),.k wk,.t (by simpa using hk),.k wi,.k cr] rfl
   ·rw [hi,show idO o=o.p.id from if_neg hk];exact Uf [11] [0,1,2,3,4,5,6] [.k c4,.t (by simpa using h1),.r 19 (eI k1.symm),.x k2,.c [11] cl,.f (by simp; omega),.k wk,.f (by simpa using hk),.k cr] rfl
 ·have e1:WO N o.p=⟨((o.p.x.take 4).map (·.cutN 1)).map vI,((o.p.y.take 4).map (·.cutN 1)).map vI,vI (o.p.d.cutN 1)⟩:=if_neg h1;rw [e1];refine ⟨_,_,_,_,KY (Qit ho.p.x),KY (Qit ho.p.y),OV (ho.p.d.cutN_ok 1),?_⟩;refine Ft func43 rfl ?_;by_cases hk:Nz o.k 12<10
  ·rw [hi,show idO o=Nz o.p.id 6 from if_pos hk];exact Uf [] [0,1,2,3,4,5,6] [.k c4,.f (by simpa using h1),.k wk,.t (by simpa using hk),.k wi,.k cr] rfl
  ·rw [hi,show idO o=o.p.id from if_neg hk];exact Uf [] [0,1,2,3,4,5,6] [.k c4,.f (by simpa using h1),.k wk,.f (by simpa using hk),.k cr] rfl
theorem YB {v n:Int} (h:0<n):0<=Nz v n/\Nz v n<n:=by
 unfold Nz;rw [if_neg (by omega)];exact ⟨Vi _ (by omega),Yw _ h⟩

theorem vB {b:Int} (h:0<=b):0<=(0:Int)/\(0:Int)<=b:=⟨Yb _,h⟩
def SE (np nd:Int):Es:=⟨np,nd,[],0,Qlf [] (tq 0),Qwb [] (tq 0),Qv9 [] (tq 0),Qwa [] (tq 0),Qv8 [] (tq 0)⟩
theorem YY:MOk []:=⟨λp h=>(by cases h),by decide,List.Pairwise.nil⟩
theorem Qhs {np nd:Int} (h1:1<=np/\np<=6) (h2:0<=nd/\nd<=2):EOk 0 (SE np nd):=by
 have hq:Qs 1640000 (0:Rat):=⟨by decide,by decide⟩;exact ⟨h1,h2,⟨YY,by show ((0:Nat):Int)<=np; omega,λp h=>(by cases h),λp h=>(by cases h)⟩,(show Qs 128 (0:Rat) from ⟨by decide,by decide⟩),At.begin okS YY hq,At.begin okT YY hq,At.begin okH YY hq,At.begin okP YY hq,At.begin okD YY hq,vB (Yb _),vB (Yb _),vB (Yb _),vB (Yb _),vB (Yb _)⟩
theorem Qdx {np nd:Int} (h1:1<=np/\np<=6) (h2:0<=nd/\nd<=2):U0 prog 41 [.oi np,.oi nd] [] [.one (.ow 0 0),.oi 0] (enB 0 (SE np nd)):=Qr4 h1 h2
theorem Qvn:(WV (ZS SS) (vU SS) 3 600 (Qlf SS (tq 0)) (vU SS (tq 0)) 0).map (λx=>x.2.2)=some 1:=by decide +kernel
theorem Qpt:(Tn (tq 3) SS).map (·.id)=[2,1]:=by decide +kernel
theorem Qhn:MOk SS:=⟨Qx6,by decide,by unfold So SS; decide⟩
theorem Qvm:cnt (ZS SS) 0 3=1:=by
 have hq:Qs 1640000 (0:Rat):=⟨by decide,by decide⟩;have ht:Qs 1640000 (3:Rat):=⟨by decide,by decide⟩;have S:=okS.st SS Qhn;have hv:=EJ hq;have hP:=okS.cp SS Qhn;have hm:=yM hP;have hmu:=Qq5 ((kS.al SS).flatMap AQ) (tq 0);have hl:(Lx SS).length=8:=by rw [vM]; rfl
 have hc:¬Nf (tq 3) (tq 0):=λh'=>by
  have:=(GA hv.cut).2 h';rw [tQ] at this;exact absurd this (by decide +kernel)
 have hl2:(kS.al SS).length=8:=hl;obtain ⟨c',r',E,g1,g2,g3,g4,g5,g6⟩:=Qqy S ht hP (λa _=>okS.al SS a) 599 ⟨tq 0,(Fg (ZS SS (tq 0))).map fresh,0⟩ (vU SS (tq 0)) 0 (Qc hmu (by omega)) (Qdd S hv) hc;have h1:=Qvn;have g1:WV (ZS SS) (vU SS) 3 600 (Qlf SS (tq 0)) (vU SS (tq 0)) 0=some (c',r',0+((E.length:Nat):Int)):=g1;rw [g1] at h1;have h1:some (0+((E.length:Nat):Int))=some 1:=h1;injection h1 with h1;rw [Qfj S hv g6];omega
theorem Qhu:Crv.norm (Crv.mk [0,1] [] 0)=run1:=by
 have e:Crv.norm (Crv.mk [0,1] [] 1)=Crv.norm (Crv.mk [0,1] [] 0):=by simp only [Crv.norm,Crv.g,Crv.d']; rfl
 rw [<-e]; exact Crv.norm_of DX
theorem Qwr:Uh 53 [.one (.row [[.bool false,.row []],[.bool false,.row [[.int .u32 1]]]]),.one (.row [])] [.agg (cl run1)]:=by
 have i01:IsInts [[.bool false,.row []],[.bool false,.row [[.int .u32 1]]]] [0,1]:=by
  refine ⟨⟨_,_,rfl,false,[],rfl,rfl,(λx hx=>by cases hx),rfl⟩,⟨_,_,rfl,false,[1],rfl,rfl,(λx hx=>by rw [Qk.1 hx]; decide),rfl⟩,trivial⟩
 have h:=Qqi (lx:=[[.bool false,.row []],[.bool false,.row [[.int .u32 1]]]]) (ly:=[]) (px:=[0,1]) (py:=[]) i01 trivial ⟨Ux cs_run1.x (by decide),VM,by show Fa 0<=_; decide,by show 2<=1073741824; decide,by show 0<=1073741824; decide⟩;rw [Qhu] at h; exact h
theorem Qol:Sl 2 1 [] ⟨run1,1⟩=0:=by decide +kernel
theorem Qom:Sl 2 1 [⟨run1,1⟩] ⟨If 1 0,2⟩=0:=by decide +kernel
theorem Qvp:∃ E1 E2:Es,EOk 0 E2/\E2.m=⟨2,1,SS,0,0,0,0,0,0⟩/\oG 27 [.one (.ow 0 0),.oi 1,.agg (cl run1)] (SE 2 1) [.oi 0] E1/\oG 27 [.one (.ow 0 0),.oi 2,.agg (cl (If 1 0))] E1 [.oi 0] E2:=by
 have h0:=Qhs (np:=2) (nd:=1) (by decide) (by decide);have hst:=LR (x:=1) (y:=0) (by decide) (by decide);have e1:Crv.norm (Crv.mk run1.x run1.y run1.d)=run1:=Crv.norm_of DX;have e2:Crv.norm (Crv.mk (If 1 0).x (If 1 0).y (If 1 0).d)=If 1 0:=Crv.norm_of hst.n;obtain ⟨E1,a1,a2,a3⟩:=UY h0 (id:=1) (Gi run1.x) (Gi run1.y) (Uy run1.d) (cs_run1.up (by decide) (by decide));rw [e1] at a2 a3;have i1:(SE 2 1).m.ins ⟨run1,1⟩=((⟨2,1,[⟨run1,1⟩],0,0,0,0,0,0⟩:Em),0):=by
  unfold Em.ins;rw [show Sl (SE 2 1).m.np (SE 2 1).m.nd (SE 2 1).m.M ⟨run1,1⟩=0 from Qol,if_pos rfl]; rfl
 rw [i1] at a2 a3;obtain ⟨E2,b1,b2,b3⟩:=UY a1 (id:=2) (Gi (If 1 0).x) (Gi (If 1 0).y) (Uy (If 1 0).d) (hst.c.mono (by decide) (by decide));rw [e2,a2] at b2 b3;have i2:((⟨2,1,[⟨run1,1⟩],0,0,0,0,0,0⟩:Em),(0:Int)).1.ins ⟨If 1 0,2⟩=((⟨2,1,SS,0,0,0,0,0,0⟩:Em),0):=by
  unfold Em.ins;dsimp only;rw [Qom,if_pos rfl]; rfl
 rw [i2] at b2 b3;exact ⟨E1,E2,b1,b2,a3,b3⟩
theorem TO {E:Es} {A:Em} (h:E.m=A):E.np=A.np/\E.nd=A.nd/\E.M=A.M/\E.q=A.q/\E.s.ev=A.s/\E.t.ev=A.t/\E.h.ev=A.h/\E.p.ev=A.p/\E.d.ev=A.d:=by subst h; exact ⟨rfl,rfl,rfl,rfl,rfl,rfl,rfl,rfl,rfl⟩
theorem vT {A:Em} {t:Rat} (h1:Qs 128 t) (h2:¬t<A.q):A.adv t=(({ A with q:=t,s:=A.s+(cnt (ZS A.M) A.q t:Nat),t:=A.t+(cnt (AY A.M) A.q t:Nat),h:=A.h+(cnt (EK A.M) A.q t:Nat),p:=A.p+(cnt (sK A.M) A.q t:Nat),d:=A.d+(cnt (vW A.M) A.q t:Nat) }:Em),0):=by
 unfold Em.adv; rw [if_pos h1]; exact if_neg h2
theorem Qa1:Uh 16 [] [.one (.bool true)]:=by
 obtain ⟨E1,E2,h2,m2,i1,i2⟩:=Qvp;have ht:Qs 128 (3:Rat):=⟨by decide,by decide⟩;obtain ⟨E3,h3,m3,_,a3⟩:=IY h2 (by decide) (Uy (3:Rat).num) (Uy ((3:Rat).den:Int)) (by decide) (by decide) (Pe 3);rw [m2,vT ht (by show ¬(3:Rat)<0; decide)] at m3 a3;obtain ⟨_,_,e1,e2,e3,_⟩:=TO m2;obtain ⟨_,_,f1,f2,f3,_⟩:=TO m3;dsimp only at e1 e2 e3 f1 f2 f3;rw [Qvm] at f3;have t2:=zS (np:=E2.np) (nd:=E2.nd) (M:=E2.M) (q:=E2.q) (s:=E2.s) (t:=E2.t) (h:=E2.h) (p:=E2.p) (d:=E2.d) h2.m.m.ln;have t3:=zS (np:=E3.np) (nd:=E3.nd) (M:=E3.M) (q:=E3.q) (s:=E3.s) (t:=E3.t) (h:=E3.h) (p:=E3.p) (d:=E3.d) h3.m.m.ln;obtain ⟨A2,hA2⟩:=nmE (Qrq E2.M E2.q);obtain ⟨A3,hA3⟩:=nmE (Qrq E3.M E3.q);rw [<-hA2] at t2;rw [<-hA3] at t3;have g2:∃ a b c d,A2=[ids [1,2],.row a,.row b,.row c,.row d]:=by
  rw [hA2,e1,e2];show ∃ a b c d,[ids ((Tn (tq 0) SS).map (·.id)),_,_,_,_]=_;rw [Qvo];exact ⟨_,_,_,_,rfl⟩
 have g3:∃ a b c d,A3=[ids [2,1],.row a,.row b,.row c,.row d]:=by
  rw [hA3,f1,f2];show ∃ a b c d,[ids ((Tn (tq 3) SS).map (·.id)),_,_,_,_]=_;rw [Qpt];exact ⟨_,_,_,_,rfl⟩
 obtain ⟨a,b,c,d,rfl⟩:=g2;obtain ⟨a',b',c',d',rfl⟩:=g3;have cs:=Qd7 (a:=[1,2]) (b:=[1,2]) (by decide) (by decide);have cs2:=Qd7 (a:=[2,1]) (b:=[2,1]) (by decide) (by decide);have co:=VC (n:=3) (by decide);have ct:=Qee (q:=3) ⟨by decide,by decide⟩;have cst:=dH (x:=1) (y:=0) (by decide) (by decide);have ce:=Qdi (np:=E3.np) (nd:=E3.nd) (M:=E3.M) (q:=E3.q) (s:=E3.s) (t:=E3.t) (h:=E3.h) (p:=E3.p) (d:=E3.d);rw [f3] at ce;refine Ft func16 rfl ?_;exact Ud [.c Ut (Qdx (by decide) (by decide)),.f rfl,.f rfl,.z 16,.k Qwr,.c Ut i1,.f rfl,.k cst,.c Ut i2,.f rfl,.c Ut t2,.k co,.k ct,.c Ut a3,.t rfl,.k cs,.t rfl,.c Ut t3,.k cs2,.t rfl,.c Ut ce,.i 0] rfl rfl (by simp [Uw])
theorem LU {a b:Int} {s:Nat} (ha:Fa a<=s) (hb:Fa b<=s) (h1:1<=s):Qs s (Gx a b):=by
 unfold Gx
 split
 ·exact ⟨Ad ha,Ac (Qc (show Fa 1<=1 by decide) h1) h1⟩
 ·exact ⟨Ad ha,Ac hb h1⟩
theorem Ek {z:Int} (h:-127<=z/\z<=127):Fa z<=7:=by
 have:(2:Nat)^7=128:=by decide
 exact Tz.2 (by omega)
theorem Qs.n32 {s:Nat} {t:Rat} (h:Qs s t) (hs:s<=4294967295):Fa t.num<=4294967295/\Fa (t.den:Int)<=4294967295:=⟨Qc h.1 hs,Qc h.2 hs⟩
theorem pB {E:Es} {b:Int} {s:Nat} (h:EOk b E) (hb:b<=900000000000000000) {t:Rat} (ht:Qs s t) (hs:s<=4294967295):∃ E',EOk (b+67000000) E'/\E'.m=(E.m.adv t).1/\((E.m.adv t).2≠0->E'=E)/\oG 13 [.one (.ow 0 0),.agg (rl t)] E [.one (.int .i64 (E.m.adv t).2)] E' :=
 IY h hb (Uy t.num) (Uy (t.den:Int)) (ht.n32 hs).1 (ht.n32 hs).2 (Pe t)
noncomputable def advE (A:Em) (t:Rat):Em:={ A with q:=t,s:=A.s+(cnt (ZS A.M) A.q t:Nat),t:=A.t+(cnt (AY A.M) A.q t:Nat),h:=A.h+(cnt (EK A.M) A.q t:Nat),p:=A.p+(cnt (sK A.M) A.q t:Nat),d:=A.d+(cnt (vW A.M) A.q t:Nat) }
theorem Qc4 {A:Em} {t:Rat} (h1:Qs 128 t) (h2:¬t<A.q):A.adv t=(advE A t,0):=vT h1 h2
end Orr
namespace Orr
theorem bz1:Bd 9000000 [1]:=λz hz=>by obtain rfl:=Qk.1 hz; decide
theorem bz2:Bd 9000000 [0,1]:=λz hz=>by
 simp only [Ql,Jl,or_false] at hz;rcases hz with rfl | rfl <;> decide
theorem Qy6:∀ z∈([0,1]:Uk),Fa z≤1:=by
 intro z hz;simp only [Ql,Jl,or_false] at hz;rcases hz with rfl | rfl <;> decide
theorem rz:RRun [1] 1 [0,1] []:=by
 refine .step (by decide) (by decide) bz2 bz1 ?_;rw [show rH [0,1] [1]=[] by decide];exact .stop (by decide)
theorem dz2:DOk [0,1] [1] [0,1]:=by
 refine ⟨by decide,by decide,by decide,bz1,[0,1],[],1,bz2,by decide,?_,by decide⟩;refine .step (by decide) (by decide) bz2 (by decide) (by decide) (by decide) ?_;exact .stop (by decide)
theorem dz1:DOk [1] [1] [1]:=by
 refine ⟨by decide,by decide,by decide,bz1,[1],[],1,bz1,by decide,?_,by decide⟩;refine .step (by decide) (by decide) bz1 (by decide) (by decide) (by decide) ?_;exact .stop (by decide)
theorem Qus:Qc1 0 [[-(0:Rat).num,((0:Rat).den:Int)],[1]]:=by
 show Qc1 0 [[0,1],[1]];refine ⟨[0,1],?_⟩;show ChRun [0,1] [0,1] [[0,1],[1]];have e1:Rz [0,1]=[0,1]:=by decide
 have e2:Gp [0,1]=[1]:=by decide
 have e3:Rz [1]=[1]:=by decide
 have e4:Nt [1]=[1]:=by decide
 refine ⟨⟨1,λ_=>[0,1],⟨⟨1,[[0,1],[1]],?_,rfl,λk hk=>?_⟩,by decide⟩,λi hi=>?_,by decide⟩,⟨1,?_⟩,λz hz=>Qc (Qy6 z hz) (by decide),by decide,by decide⟩
 ·rw [e1];refine .step (by decide) (by decide) (by show trim _=_; decide) bz2 (by show Bd _ (Gp [0,1]); rw [e2]; exact bz1) (m:=1) (g:=[1]) ?_ (by decide) (.stop (by decide));show GRun 1 (Rz [0,1]) (Rz (Gp [0,1])) [1];rw [e1,e2,e3];refine .step (by decide) (by decide) bz1 rz (by decide) (λz hz=>by cases hz) rfl ?_;rw [show Rz []=[] by decide];exact .stop _
 ·obtain rfl:k=0:=by omega
  exact ⟨[0,1],[1],[0,1],dz2,dz1,by rw [e1,e3]; exact dz2,e1.symm⟩
 ·obtain rfl:i=0:=by omega
  exact ⟨bz1,by decide,bz2,by decide⟩
 ·rw [e2,e4];refine .step (by decide) (by decide) bz1 (m:=1) (r:=[]) rz rfl (λz hz=>by cases hz) (by decide) (by decide) (by decide) ?_;exact .stop (by decide)
end Orr
namespace Orr
open Go Go.Proofs Tryz Orq
set_option maxRecDepth 10000
theorem Qf2 {q:Rat} {c:Ul}:Uh 254 [.one (.row []),.agg (aq q c)] [.one (.row [])]:=by
 refine Ft func254 rfl ?_;refine Ub [.z 5] rfl ?_;refine Ug (S:=Unit) 1 (λL1 _=>(10,.v (.oi 0))::(5,.v (.one (.row [])))::L1) (λ_=>[.blk 166 (aq q c)]) (λ_=>0) (λ_=>True) () trivial rfl rfl λ_ _=>?_
 exact Ud [.f rfl] rfl
theorem pC:Uh 256 [.one (.row [])] [.one (.row [])]:=by
 refine Ft func256 rfl ?_;refine Ub [.z 3] rfl ?_;refine Ug (S:=Unit) 0 (λL1 _=>(8,.v (.oi 0))::(3,.v (.one (.row [])))::L1) (λ_=>[]) (λ_=>0) (λ_=>True) () trivial rfl rfl λ_ _=>?_
 exact Ud [.f rfl] rfl
theorem Qfz:Uh 258 [.one (.row [])] [.one (.row [])]:=by
 refine Ft func258 rfl ?_;refine Ub [.z 3] rfl ?_;refine Ug (S:=Unit) 0 (λL1 _=>(8,.v (.oi 0))::(3,.v (.one (.row [])))::L1) (λ_=>[]) (λ_=>0) (λ_=>True) () trivial rfl rfl λ_ _=>?_
 exact Ud [.f rfl] rfl
theorem Qf3:Uh 261 [.one (.row [])] [.one (.row [])]:=by
 refine Ft func261 rfl ?_;refine Ub [.z 3,.k Qfz] rfl ?_;refine Ug (S:=Unit) 0 (λL1 _=>(11,.v (.oi 0))::(3,.v (.one (.row [])))::L1) (λ_=>[]) (λ_=>0) (λ_=>True) () trivial rfl rfl λ_ _=>?_
 exact Ud [.f rfl] rfl
section
variable {q:Rat} {c:Ul}
theorem Qf1:Uh 213 [.one (.row []),.agg (aq q c)] [.one (.row [])]:=by
 refine Ft func213 rfl ?_;refine Ub [.k Qf2,.z 6] rfl ?_;refine Ug (S:=Unit) 1 (λL1 _=>(7,.v (.oi 0))::(6,.v (.one (.row [])))::L1) (λ_=>[.blk 166 (aq q c)]) (λ_=>0) (λ_=>True) () trivial rfl rfl λ_ _=>?_
 exact Ud [.f rfl,.k pC] rfl rfl (by simp [Uw])
theorem Qtg:Uh 214 [.one (.row []),.agg (aq q c)] [.one (.row [])]:=Ue func214 rfl [.t rfl,.z 4] rfl
theorem Qa9:Uh 259 [.one (.row []),.agg (aq q c)] [.one (.row [])]:=Ue func259 rfl [.k Qf3,.t rfl] rfl
theorem Qtb:Uh 215 [.one (.row []),.agg (aq q c)] [.one (.row [])]:=by
 refine Ft func215 rfl ?_;refine Ub [.k Qf1,.k Qa9] rfl ?_;refine Ug (S:=Unit) 1 (λL1 _=>(7,.v (.oi 0))::(5,.v (.one (.row [])))::L1) (λ_=>[.blk 166 (aq q c)]) (λ_=>0) (λ_=>True) () trivial rfl rfl λ_ _=>?_
 exact Ud [.f rfl,.f rfl,.k pC] rfl
abbrev zPq:Up:=[.row [],.row [],.row [],.row [],.bool false,.row [],.int .i64 0]
theorem Qa8:Uh 260 [.one (.row []),.agg (aq q c)] [.agg zPq,.agg zPq,.one (.bool false)]:=Ue func260 rfl [.k Qfz,.t rfl] rfl
theorem Qte:Uh 216 [.one (.row []),.agg (aq q c)] [.one (.row [])]:=Ue func216 rfl [.k Qa8,.t rfl,.z 4] rfl
theorem Qtd:Uh 217 [.one (.row []),.agg (aq q c)] [.one (.row [])]:=by
 refine Ft func217 rfl ?_;refine Ub [.k Qf3,.z 6] rfl ?_;refine Ug (S:=Unit) 1 (λL1 _=>(15,.v (.oi 0))::(6,.v (.one (.row [])))::L1) (λ_=>[.blk 166 (aq q c)]) (λ_=>0) (λ_=>True) () trivial rfl rfl λ_ _=>?_
 exact Ud [.f rfl,.k pC] rfl
theorem UJ (k:Nat) (hk:k<5):Uh 134 [.oi k,.one (.row []),.agg (aq q c)] [.one (.row [])]:=by
 refine (?_:Uh 174 [.oi k,.one (.row []),.agg (aq q c)] [.one (.row [])]->_) ?_
 ·intro h;exact Ue func134 rfl [.k h] rfl
 ·rcases (show k=0\/k=1\/k=2\/k=3\/k=4 by omega) with rfl | rfl | rfl | rfl | rfl
  ·exact Ue func174 rfl [.t rfl,.k Qf1] rfl
  ·exact Ue func174 rfl [.f rfl,.t rfl,.k Qtg] rfl
  ·exact Ue func174 rfl [.f rfl,.f rfl,.t rfl,.k Qtb] rfl
  ·exact Ue func174 rfl [.f rfl,.f rfl,.f rfl,.t rfl,.k Qte] rfl
  ·exact Ue func174 rfl [.f rfl,.f rfl,.f rfl,.f rfl,.k Qtd] rfl
end
theorem BN:Uh 133 [.one (.row []),.one (.row [])] [.one (.row [])]:=by
 refine Ft func133 rfl ?_;refine Ub [] rfl ?_;refine Ug (S:=Unit) 0 (λL1 _=>(9,.v (.oi 0))::L1) (λ_=>[]) (λ_=>0) (λ_=>True) () trivial rfl rfl λ_ _=>?_
 exact Ud [.f rfl] rfl
end Orr
namespace Orr
open Go Go.Proofs Tryz Orq
set_option maxRecDepth 10000
abbrev cC:Ul:=[[-(0:Rat).num,((0:Rat).den:Int)],[1]]
abbrev Qwu:Up:=[.nils,.nils,.nils,.bool false,.nils,.bool false,.nils,.bool false,.nils,.bool false,.nils,.int .i64 0,.nils]
abbrev Qwv:Up:=aq 0 cC++[.row [],.int .i64 0,.nils]
abbrev Qi8 (k i:Nat):Up:=match Nat.blt k i with
 | true=>Qwv
 | false=>Qwu
abbrev mdl (np nd:Int) (i:Nat):Up:=[.int .i64 np,.int .i64 nd,.nils]++fr 0++Qi8 0 i++Qi8 1 i++Qi8 2 i++Qi8 3 i++Qi8 4 i
set_option maxHeartbeats 4000000 in
theorem Qdu {np nd:Int}:U0 prog 92 [.one (.ow 0 0)] [.blk 173 (mdl np nd 0)] [] [.blk 173 (mdl np nd 5)]:=by
 have hq:Qs 2000000 (0:Rat):=⟨by decide,by decide⟩;have cr:=kC hq Qus;refine Ft func92 rfl ?_;refine Ub [.k cr] rfl ?_;refine Ug (S:=Nat) 2 (λL1 i=>(9,.v (.oi i))::L1) (λi=>[.blk 173 (mdl np nd i),.blk 166 (aq 0 cC)]) (λi=>5-i) (λi=>i<=5) 0 (by decide) rfl rfl λi hi=>?_
 rcases (show i=0\/i=1\/i=2\/i=3\/i=4\/i=5 by omega) with rfl | rfl | rfl | rfl | rfl | rfl
 ·exact go tt [.t rfl,.i 0,.i 0,.i 0,.k (UJ 0 (by decide)),.k BN,.i 0] rfl (by simp [Uw]) (rd 1 (by omega) (by omega) rfl)
 ·exact go tt [.t rfl,.i 1,.i 1,.i 1,.k (UJ 1 (by decide)),.k BN,.i 1] rfl (by simp [Uw]) (rd 2 (by omega) (by omega) rfl)
 ·exact go tt [.t rfl,.i 2,.i 2,.i 2,.k (UJ 2 (by decide)),.k BN,.i 2] rfl (by simp [Uw]) (rd 3 (by omega) (by omega) rfl)
 ·exact go tt [.t rfl,.i 3,.i 3,.i 3,.k (UJ 3 (by decide)),.k BN,.i 3] rfl (by simp [Uw]) (rd 4 (by omega) (by omega) rfl)
 ·exact go tt [.t rfl,.i 4,.i 4,.i 4,.k (UJ 4 (by decide)),.k BN,.i 4] rfl (by simp [Uw]) (rd 5 (by omega) (by omega) rfl)
 ·exact Uf [] [0] [.f rfl] rfl
theorem Qsa {np nd:Int} (h1:1<=np/\np<=6) (h2:0<=nd/\nd<=2):U0 prog 42 [.oi np,.oi nd] [] [.one (.ow 0 0),.oi 0] [.blk 173 (mdl np nd 5)]:=by
 have co:=VC (n:=0) (by decide);rw [show ((0:Int):Rat)=0 from rfl] at co;refine Ft func42 rfl ?_;exact Uf [] [0] [.F,.f (by simp; omega),.f (by simp; omega),.f (by simp; omega),.k co,.c [0] Qdu] rfl
theorem Qlk {a b:Int} (ha:-9223372036854775808<=a/\a<=9223372036854775807) (hb:-9223372036854775808<=b/\b<=9223372036854775807):∃ (N nd:Int) (ms:Up),(1<=N/\N<=4)/\(0<=nd/\nd<=2)/\EOk 0 (SE N nd)/\N=1+Nz a 4/\nd=Nz b 3 /\
 U0 prog 8 [.oi a,.oi b] [] [.agg [.ow 0 0,.sh ms,.int .i64 N],.one (.bool true)] (enB 0 (SE N nd)):=by
 have w1:=YB (v:=a) (n:=4) (by decide);have w2:=YB (v:=b) (n:=3) (by decide);have c1:=Dq (v:=a) (n:=4) ha (by decide);have c2:=Dq (v:=b) (n:=3) hb (by decide);obtain ⟨N,hN⟩:=nmE (1+Nz a 4);obtain ⟨nd,hnd⟩:=nmE (Nz b 3);have hN4:1<=N/\N<=4:=by omega
 have hd2:0<=nd/\nd<=2:=by omega
 have cn:=Qdx (np:=N) (nd:=nd) (by omega) hd2;have cm:=Qsa (np:=N) (nd:=nd) (by omega) hd2;refine ⟨N,nd,mdl N nd 5,hN4,hd2,Qhs (by omega) hd2,hN,hnd,?_⟩;refine Ft func8 rfl ?_;exact Uf [8] [1,2,3,4,5,6,7] [.k c1,.r 12 (eI hN.symm),.k c2,.r 14 (eI hnd.symm),.c [1,2,3,4,5,6,7] cn,.c [8] cm,.t rfl,.t rfl] rfl (by simp [Uw]; omega)
abbrev enL (E:Es) (ms:Up) (N:Int):Ur:=[.blk 90 (pE 0 E.q),tB E.np E.nd E.M,bS E.s E.M E.q,bT E.t E.M E.q,bH E.h E.M E.q,bP E.p E.M E.q,bD E.d E.M E.q,.blk 27 [.ow 0 0,.sh ms,.int .i64 N]]
abbrev enM (E:Es) (ms:Up) (N:Int):Ur:=[.blk 90 (pE 8 E.q),tB E.np E.nd E.M,bS E.s E.M E.q,bT E.t E.M E.q,bH E.h E.M E.q,bP E.p E.M E.q,bD E.d E.M E.q,.blk 27 [.ow 8 0,.sh ms,.int .i64 N]]
def Qzl:RawPt:=⟨[],[],⟨false,[]⟩,0⟩
def ES (l:List RawPt) (j:Nat):Pt:=⟨Crv.norm (WO 4 (l.getD j Qzl)),(j:Int)⟩
abbrev opC (x:RawPt) (i:Nat):RawOp:=⟨0,0,0,⟨x.x,x.y,x.d,(i:Int)⟩,⟨false,[]⟩,⟨false,[]⟩⟩
theorem nK {x:RawPt} (h:x.Ok) {i:Nat} (hi:i<6):(opC x i).Ok:=by
 have hz:RawInt.Ok ⟨false,[]⟩:=⟨λu hu=>by cases hu⟩;exact ⟨(by show (-9223372036854775808:Int)<=0/\(0:Int)<=9223372036854775807; decide),(by show (-9223372036854775808:Int)<=0/\(0:Int)<=9223372036854775807; decide),(by show (-9223372036854775808:Int)<=0/\(0:Int)<=9223372036854775807; decide),⟨h.x,h.y,h.d,by show _<=(i:Int)/\(i:Int)<=_; omega⟩,hz,hz⟩
theorem wC {E:Es} {b:Int} {l:List RawPt} {x:RawPt} {i:Nat} {ms:Up} (h:EOk b E) (hx:l[i]? = some x) (ho:x.Ok) (hi:i<6) :
 ∃ E',EOk b E'/\E'.m=(E.m.ins (ES l i)).1/\oG 10 [.agg (Qh6 ms 4),.agg (rwo (opC x i))] E [.one (.int .i64 (E.m.ins (ES l i)).2)] E':=by
 obtain ⟨lx,ly,bb,l3,i1,i2,i3,cp⟩:=Qsf (E:=E) (N:=4) (ms:=ms) (by decide) (nK ho hi);have wk:=Dq (v:=(opC x i).k) (n:=12) (nK ho hi).k (by decide);have hcs:=Qmx (N:=4) (nK ho hi).p;have hk:Cs 4294967294 1073741824 (Crv.mk (WO 4 (opC x i).p).x (WO 4 (opC x i).p).y (WO 4 (opC x i).p).d):=hcs.mono (by decide) (by decide);obtain ⟨E',g1,g2,g3⟩:=UY h (id:=idO (opC x i)) i1 i2 i3 hk;have hid:idO (opC x i)=(i:Int):=by
  unfold idO;rw [if_pos (by show Nz 0 12<10; decide)];show (i:Int) % 6=i; omega
 have e:(⟨Crv.norm (Crv.mk (WO 4 (opC x i).p).x (WO 4 (opC x i).p).y (WO 4 (opC x i).p).d),idO (opC x i)⟩:Pt)=ES l i:=by
  rw [hid];unfold ES;rw [Qi,hx];rfl
 rw [e] at g2 g3;refine ⟨E',g1,g2,?_⟩;refine Ft func10 rfl ?_;exact Uf [] [0,1,2,3,4,5,6] [.c Ut cp,.k wk,.t rfl,.c Ut g3] rfl
structure InE (l:List RawPt) (q:Rat) (J:Nat->Prop) (i:Nat) (E:Es):Prop where
 ok:EOk 134000000 E
 np:E.np=4
 nd:E.nd=2
 q:E.q=q
 ln:E.M.length<=i
 h:Has (ES l) 2 J E.M
theorem InE.put {l:List RawPt} {q:Rat} {J:Nat->Prop} {i j:Nat} {E E':Es} (h:InE l q J i E) (ho:EOk 134000000 E') (hi:i<4) (hJ:∀ j,J j->j<4) (hj:j<4) (hn:¬J j) (e:E'.m=(E.m.ins (ES l j)).1):InE l q (λk=>J k\/k=j) (i+1) E':=by
 have hh:=h.h;rw [<-h.nd] at hh;obtain ⟨a1,a2,a3,a4,a5⟩:=Qnl (P:=ES l) (A:=E.m) (J:=J) (i:=j) (λ_ _=>rfl) h.np h.ok.m.m.so hJ hj hn (by have:=h.ln; show E.M.length<4; omega) hh;obtain ⟨q1,q2,q3,q4,_⟩:=TO e;have a5:Has (ES l) E.nd (λk=>J k\/k=j) (E.m.ins (ES l j)).1.M:=a5;rw [h.nd] at a5;have a4:(E.m.ins (ES l j)).1.M.length<=E.M.length+1:=a4;exact ⟨ho,by rw [q1,a1]; exact h.np,by rw [q2,a2]; exact h.nd,by rw [q4,a3]; exact h.q,by rw [q3]; have:=h.ln; omega,by rw [q3]; exact a5⟩
theorem InE.to {l:List RawPt} {q:Rat} {J K:Nat->Prop} {i:Nat} {E:Es} (h:InE l q J i E) (e:∀ j,J j↔K j):InE l q K i E:=⟨h.ok,h.np,h.nd,h.q,h.ln,⟨λx=>by rw [h.h.h x]; simp only [e]⟩⟩
set_option maxHeartbeats 8000000 in
theorem BV {l:List RawPt} {u n d:Int} (hl:∀ x∈l,x.Ok) (hu:-9223372036854775808≤u/\u≤9223372036854775807) (hn:-9223372036854775808≤n/\n≤9223372036854775807) (hd:-9223372036854775808≤d/\d≤9223372036854775807):Uh 6 [.one (.row (rR l)),.oi u,.oi n,.oi d] [.one (.bool true)]:=by
 obtain ⟨N,nd,ms,hN,hnd,h0,n1,n2,cb⟩:=Qlk (a:=3) (b:=2) (by decide) (by decide);obtain rfl:N=4:=n1;obtain rfl:nd=2:=n2;have hll:(rR l).length=l.length:=by simp [rR]
 have cw1:=Dq (v:=n) (n:=40) hn (by decide);have cw2:=Dq (v:=d) (n:=5) hd (by decide);have b1:=YB (v:=n) (n:=40) (by decide);have b2:=YB (v:=d) (n:=5) (by decide);have co:=Qqf (n:=Nz n 40) (d:=1+Nz d 5) (by omega) (by omega);have h7:=LU (Ek (z:=Nz n 40) (by omega)) (Ek (z:=1+Nz d 5) (by omega)) (by decide);obtain ⟨T,hTe⟩:=nmE (Gx (Nz n 40) (1+Nz d 5));have hT0:0<=T:=by
  rw [hTe,Et (by omega),<-QY,X3];exact Yq (by exact_mod_cast b1.1) (Qt (Rat.inv_pos.2 (by exact_mod_cast (show 0<1+Nz d 5 by omega))))
 rw [<-hTe] at co h7;have hT:Qs 128 T:=h7.mono (by decide);have ct:=Qee (q:=T) (h7.mono (by decide));obtain ⟨k,hk⟩:∃ k:Nat,min (l.length:Int) 4=(k:Int):=⟨min l.length 4,by omega⟩;have hk4:k<=4/\k<=l.length:=by omega
 have hk':min ((rR l).length:Int) 4=(k:Int):=by rw [hll]; exact hk
 refine Ft func6 rfl (ln 0 rfl rfl λhcl=>?_);rw [hll] at hcl;refine go tt [.c Ut cb,.c Uu cb,.f rfl,.f rfl,.k cw1,.k cw2,.k co,.r 40 (eI hk')] rfl (by simp [Uw] <;> omega) ?_;refine Ug (S:=Nat×Es) 17 (λL1 s=>(15,.v (.oi (s.1:Int)))::L1) (λs=>enL s.2 ms 4++enM (SE 4 2) ms 4++[.blk 54 (fr T)]) (λs=>k-s.1) (λs=>s.1<=k/\InE l 0 (· < s.1) s.1 s.2) (0,SE 4 2) ⟨Qh _,h0.mono (by decide),rfl,rfl,rfl,Qm _,⟨λx=>⟨λh=>(by cases h),λ⟨j,h,_⟩=>absurd h (We j)⟩⟩⟩ rfl rfl λ⟨i,E⟩ ⟨hi,hI⟩=>?_
 dsimp only at hi hI ⊢;by_cases hr:i<k
 ·obtain ⟨x,hx⟩:=gxE (l:=l) (i:=i) (by omega);obtain ⟨E',e1,e2,e3⟩:=wC (ms:=ms) hI.ok hx (hl x (Qa hx)) (by omega);refine Uc [.T,.x (Gn (f:=rwq) hx),.z 54,.c Ut e3] rfl ?_;exact rd (i+1,E') (by dsimp only; omega) ⟨hr,(hI.put e1 (by omega) (λj h=>by omega) (by omega) (by omega) e2).to λj=>by omega⟩ rfl
 obtain rfl:i=k:=by omega
 obtain ⟨P,p1,p2,_,p3⟩:=pB hI.ok (by decide) hT (by decide);rw [Qc4 hT (by show ¬T<E.q; rw [hI.q]; exact Ki.2 hT0)] at p2 p3;have p3:oG 13 [.one (.ow 0 0),.agg (rl T)] E [.oi 0] P:=p3;obtain ⟨_,_,pM,pq,_⟩:=TO p2;have pM:P.M=E.M:=pM;have pq:P.q=T:=pq;have hz:-9223372036854775808<=Int.tmod u 7/\Int.tmod u 7<=9223372036854775807:=by
  have h1:=Int.tmod_lt_of_pos u (show (0:Int)<7 by decide);have h2:=Int.lt_tmod_of_pos u (show (0:Int)<7 by decide);omega
 have st:=dH (x:=Int.tmod u 7) (y:=3) hz (by decide);have hst:=LR (x:=Int.tmod u 7) (y:=3) hz (by decide);obtain ⟨F1,f1,f2,f3⟩:=Qtc h0 (id:=0) hst.n (hst.c.mono (by decide) (by decide)) rfl (Prod.eta ((SE 4 2).m.ins ⟨If (Int.tmod u 7) 3,0⟩)).symm;have hF1:(F1.np=4/\F1.nd=2/\F1.q=0)/\∀ x∈F1.M,x.id=0:=by
  obtain ⟨a1,a2,a3,a4,_⟩:=TO f2;rw [a1,a2,a3,a4];unfold Em.ins
  split
  ·refine ⟨⟨rfl,rfl,rfl⟩,λx hx=>?_⟩;rcases FU hx with rfl | hx
   ·rfl
   ·cases hx
  ·exact ⟨⟨rfl,rfl,rfl⟩,λx hx=>by cases hx⟩
 have c12:=Qqf (n:=1) (d:=2) (by decide) (by decide);obtain ⟨H,hH⟩:∃ H:Rat,H=Gx 1 2:=⟨_,rfl⟩;have hHq:Qs 7 H:=by rw [hH]; exact LU (Ek (by decide)) (Ek (by decide)) (by decide)
 have hH0:0<=H/\H<=1:=by
  rw [hH];constructor <;> decide +kernel
 rw [<-hH] at c12;have cm:=sL (a:=T) (b:=H) (h7.mono (by decide)) (hHq.mono (by decide));obtain ⟨U,hU⟩:=nmE (T*H);have hUe:U=Gx (Nz n 40) (2*(1+Nz d 5)):=by
  rw [hU,hH,hTe,Et (by omega),Et (by omega),Et (by omega),<-QY,<-QY,<-QY,Xm];have h1:((1+Nz d 5:Int):Rat)≠0:=λh=>by
   have h':((1+Nz d 5:Int):Rat)=((0:Int):Rat):=h;rw [Rat.intCast_inj] at h';omega
  have h2:((2:Int):Rat)≠0:=by decide
  rw [X3,X3,X3,Rat.inv_mul_rev,show ((1:Int):Rat)=1 from rfl];grind
 have hUq:Qs 128 U:=by rw [hUe]; exact (LU (Ek (by omega)) (Ek (by omega)) (by decide)).mono (by decide)
 have hU0:0<=U:=by rw [hU]; exact Yq hT0 hH0.1
 have hUT:U<=T:=by
  have:=Zu hH0.2 hT0;rw [hU]; grind
 rw [<-hU] at cm;have cu:=Qee (q:=U) (hUq.mono (by decide));obtain ⟨F2,g1,g2,_,g3⟩:=pB f1 (by decide) hUq (by decide);rw [Qc4 hUq (by show ¬U<F1.q; rw [hF1.1.2.2]; exact Ki.2 hU0)] at g2 g3;have g3:oG 13 [.one (.ow 0 0),.agg (rl U)] F1 [.oi 0] F2:=g3;obtain ⟨b1',b2',b3',b4',_⟩:=TO g2;have b1':F2.np=4:=by rw [b1']; exact hF1.1.1
 have b2':F2.nd=2:=by rw [b2']; exact hF1.1.2.1
 have b3':F2.M=F1.M:=b3';have b4':F2.q=U:=b4';obtain ⟨F3,k1,k2,k3⟩:=Qta g1 (id:=0) rfl (Prod.eta (F2.m.del 0)).symm;have hF3:F3.np=4/\F3.nd=2/\F3.q=U/\F3.M=[]:=by
  obtain ⟨a1,a2,a3,a4,_⟩:=TO k2;rw [a1,a2,a3,a4];unfold Em.del;have hall:∀ x∈F2.M,x.id=0:=by rw [b3']; exact hF1.2
  split
  ·rename_i hh;refine ⟨b1',b2',b4',?_⟩;show F2.M.take (Tr F2.M 0)++F2.M.drop (Tr F2.M 0+1)=[];have hs:=g1.m.m.so;cases hM:F2.M with
   | nil=>rfl
   |
    cons y M =>
    rw [hM] at hall hs;have hy:=hall y (by simp);have hM0:M=[]:=by
     cases M with
     | nil=>rfl
     |
      cons z M =>
      have h1:=hall z (by simp);have h2:=(Q9.1 hs).1 z (by simp);omega
    subst hM0;have hp:=Qum (M:=[y]) (i:=0) (p:=y) hs rfl;rw [hy] at hp;rw [hp]; rfl
  ·rename_i hh;refine ⟨b1',b2',b4',?_⟩;show F2.M=[];cases hM:F2.M with
   | nil=>rfl
   |
    cons y M =>
    have hy:=hall y (by rw [hM]; simp);exact absurd ((xP g1.m.m.so).2 ⟨y,by rw [hM]; simp,hy⟩) hh
 obtain ⟨r,hr0⟩:∃ r:Nat,Nz u (max (i:Int) 1)=(r:Int):=by
  have:=YB (v:=u) (n:=max (i:Int) 1) (by omega);exact ⟨(Nz u (max (i:Int) 1)).toNat,by omega⟩
 have hrk:=YB (v:=u) (n:=max (i:Int) 1) (by omega);have cw3:=Dq (v:=u) (n:=max (i:Int) 1) hu (by omega);rw [hr0] at hrk cw3;refine Ub [.F,.k ct,.c Ut p3,.f rfl,.k st,.c Uu f3,.k c12,.k cm,.k cu,.c Uu g3,.c Uu k3] rfl ?_ (by simp [Uw]);refine Ug (S:=Nat×Es) 17 (λL1 s=>(16,.v (.oi (s.1:Int)))::L1) (λs=>enL P ms 4++enM s.2 ms 4++[.blk 54 (fr T)]) (λs=>i-s.1) (λs=>s.1<=i/\InE l U (λj=>∃ m,m<s.1/\rot r i m=j) s.1 s.2) (0,F3) ⟨Qh _,k1.mono (by decide),hF3.1,hF3.2.1,hF3.2.2.1,by rw [hF3.2.2.2]; exact Qm _,⟨λx=>by rw [hF3.2.2.2]; exact ⟨λh=>(by cases h),λ⟨j,⟨m,h,_⟩,_⟩=>absurd h (We m)⟩⟩⟩ rfl rfl λ⟨j,F⟩ ⟨hj,hJ⟩=>?_
 dsimp only at hj hJ ⊢;by_cases hs:j<i
 ·have hrl:r<i:=by omega
  have hlt:=bY hrl hs;obtain ⟨x,hx⟩:=gxE (l:=l) (i:=rot r i j) (by omega);obtain ⟨F',e1,e2,e3⟩:=wC (ms:=ms) hJ.ok hx (hl x (Qa hx)) (by omega);have hrem:Int.tmod ((j:Int)+(r:Int)) (i:Int)=((rot r i j:Nat):Int):=by
   rw [J5 (by omega)];unfold rot
   split
   ·rw [Int.emod_eq_of_lt (by omega) (by omega)]; omega
   ·have e:(j:Int)+(r:Int)=((j:Int)+(r:Int)-(i:Int))+(i:Int):=by omega
    rw [e,Int.add_emod_right,Int.emod_eq_of_lt (by omega) (by omega)]; omega
  refine Uc [.T,.k cw3,.r 90 (eI hrem),.x (Gn (f:=rwq) hx),.z 99,.c Uu e3] rfl ?_;refine rd (j+1,F') (by dsimp only; omega) ⟨hs,(hJ.put e1 (by omega) (λm ⟨a,ha,hb⟩=>by have:=bY hrl (show a<i by omega); omega) (by omega) (λ⟨a,ha,hb⟩=>by have:=Qo0 hrl (by omega) hs hb; omega) e2).to λm=>?_⟩ rfl;constructor
  ·rintro (⟨a,ha,hb⟩ | e)
   ·exact ⟨a,by omega,hb⟩
   ·exact ⟨j,by omega,e.symm⟩
  ·rintro ⟨a,ha,hb⟩
   by_cases hae:a=j
   ·subst hae; exact .inr hb.symm
   ·exact .inl ⟨a,by omega,hb⟩
 obtain rfl:j=i:=by omega
 obtain ⟨Q,x1,x2,_,x3⟩:=pB hJ.ok (by decide) hT (by decide);rw [Qc4 hT (by show ¬T<F.q; rw [hJ.q]; exact Ki.2 hUT)] at x2 x3;have x3:oG 13 [.one (.ow 0 0),.agg (rl T)] F [.oi 0] Q:=x3;obtain ⟨_,_,qM,qq,_⟩:=TO x2;have qM:Q.M=F.M:=qM;have qq:Q.q=T:=qq;have hEF:F.M=E.M:=Qgx hJ.h hI.h (λm=>⟨λ⟨a,ha,hb⟩=>by have:=bY (show r<j by omega) ha; omega,λh=>Qux (show r<j by omega) h⟩) hJ.ok.m.m.so hI.ok.m.m.so;have hMM:Q.M=P.M:=by rw [qM,pM,hEF]
 have csa:=Qtf (E:=P) (F:=Q) p1 hMM (by rw [qq,pq]);have cC1:=wL p1;have cC2:=wL x1;rw [hMM,qq,<-pq] at cC2;obtain ⟨hcp,hcn⟩:=Qfb p1;have csc:=Qd8 hcp hcn;refine Ub [.F,.k ct,.c Uu x3,.f rfl] rfl ?_;exact Ud [.lo,.c [0,1,2,3,4,5,6,8,9,10,11,12,13,14] csa,.g 112 true rfl,.lo,.c Ut cC1,.lo,.c Uu cC2,.k csc,.g 121 true (by simp),.k Qa1] rfl
end Orr
namespace Orr
open Go Go.Proofs Tryz
variable {H:Type} {enc:TypeId×Value->H} {w:World} {base:Nat} {spare:Nat->Bool} {held:Bool}
theorem Ab {α:Type} {l:List α} {n i:Nat} (h:l.length=n) (hi:i<n):∃ x,l[i]? = some x:=⟨l[i]'(by omega),Qe (by omega)⟩
end Orr
namespace Orr
open Go Go.Proofs Tryz Go.ChangeShapes Go.WideShapes Go.ChangeAt Go.RowKit Go.WideElems
theorem Qmt {w:World} {a:Addr} {v:Value} (h:w.cell? a=some v):a.spot=none/\a.block<w.heap.size:=by
 simp only [World.cell?] at h
 split at h
 ·rename_i c t fr hc
  split at h
  ·cases h
  ·rename_i hs;refine ⟨by cases e:a.spot with | none=>rfl | some _=>simp [e] at hs,?_⟩;exact (Array.getElem?_eq_some_iff.1 hc).1
 ·cases h
theorem Qk6 {a:Addr} (h:a.spot=none) (n m:Nat):(a.add n).add m=⟨a.block,a.off+n+m,none⟩:=by
 obtain ⟨b,o,s⟩:=a;simp only at h;subst h;simp only [Addr.add]
 split
 ·rename_i h; subst h
  split
  ·rename_i h; subst h; simp
  ·simp
 ·split
  ·rename_i h; subst h; simp
  ·simp
def fr0 (w:World):Fr:=⟨λb=>b<w.heap.size,λ_=>False,w,λ_=>False,λ_=>none⟩
theorem EU (w:World):HS (fr0 w) (ob []) (nw []) (λ_=>none) (λ_=>False) w where
 size:=Qm _
 kept:=λb hb=>⟨hb,rfl,Iff.rfl⟩
 ids:=λi h=>h.elim
 nj:=λi h=>by rw [jH] at h; cases h
 io:=⟨rfl,rfl⟩
 blk:=λi=>by rw [jH]; trivial
 nk:=λi g c m h _=>by rw [jH] at h; cases h
 inj:=λi j g c m c' m' h _ _ _=>by rw [jH] at h; cases h
 mlt:=λb h=>h.elim
 m0:=λb _ h=>h.elim
 un:=λi _=>⟨rfl,rfl⟩
 uj:=λi _ h=>h.elim
theorem Qo4 {w w':World} {bl:Nat->OB} {U:Nat->Prop} {E:Bm} {M:Nat->Prop} (h:HS (fr0 w) bl U E M w') {p:MemPlace} (hp:p.block<w.heap.size):w.sameAt w' p:=by
 cases p with
 | cell b off=>simp only [World.sameAt,World.cell?]; rw [(h.kept b hp).2.1]; rfl
 | map b=>exact (h.kept b hp).2.1
theorem Qnn {w w':World} {bl:Nat->OB} {U:Nat->Prop} {E:Bm} {M:Nat->Prop} (h:HS (fr0 w) bl U E M w') (may:MemPlace->Prop):w.keptBut w' may:=by
 refine ⟨h.io.1,h.io.2,λi hi=>?_⟩;have e:w'.heap[i]? = w.heap[i]? := (h.kept i hi).2.1;rw [e];cases w.heap[i]? with
 | none=>rfl
 | some o=>cases o <;> simp
theorem JF {H:Type} {P:Program} {e:TypeId}:∀ {l:List (DataW H)} {i:Nat} {d:DataW H},l[i]? = some d->∀ n∈d.weights P e,n∈DataW.weightsAll P e l
 | [],i,d,h,_,_=>by simp at h
 |
  x::l,0,d,h,n,hn=>by
  simp at h; subst h;simp only [DataW.weightsAll,Qr]; exact .inl hn
 |
  x::l,i+1,d,h,n,hn=>by
  simp only [DataW.weightsAll,Qr];exact .inr (JF (i:=i) (by simpa using h) n hn)
theorem Iu {H:Type} {P:Program} {t:TypeId} {fs:Array Field} {parts:List (DataW H)} (hu:P.underlying t=some (.struct fs)) (hz:((DataW.agg parts).weights P t).all (· <= reachBytes)=true) {i:Nat} {f:Field} {d:DataW H} (hf:fs[i]? = some f) (hd:parts[i]? = some d) :
 (d.weights P f.type).all (· <= reachBytes)=true:=by
 rw [Jr] at hz ⊢;intro n hn;refine hz n ?_;simp only [DataW.weights,hu];exact DataW.weights_mem_each (j:=i) (by rw [Zd]; simp [hf]) hd n hn
variable {H:Type} {enc:TypeId×Value->H} {w:World}
abbrev O0:Nat->Prop:=λ_=>False
def Els (w:World) (cs:List Value) (ls:Up):Prop:=cs.length=ls.length/\∀ (j:Nat) (u:LV),ls[j]? = some u->∃ v,cs[j]? = some v/\LRep w O0 v u
theorem FR {α:Type} {rw_:α->Up} {Ok:α->Prop} {t e sz:Nat} (hu:prog.underlying t=some (.slice e)) (hc:prog.cellsOf e=sz) (hsz:0<sz) (hb:1<=prog.bytesOf e) (hw:∀ z,(rw_ z).length=sz)
 (elem:∀ fuel cs x,DataW.trod enc prog w 0 (λ_=>true) true fuel e cs=some x->(x.1.weights prog e).all (· <= reachBytes)=true->∃ z,Ok z/\Els w cs (rw_ z))
 {fuel:Nat} {cs:List Value} {x:DataW H×List MemPlace} (h:DataW.trod enc prog w 0 (λ_=>true) true fuel t cs=some x) (hz:(x.1.weights prog t).all (· <= reachBytes)=true) :
 ∃ (v:Value) (l:List α),cs=[v]/\(∀ z∈l,Ok z)/\l.length<2^47/\LRep w O0 v (.row (l.map rw_)):=by
 rcases Go.Deep.open_slice hu h with ⟨rfl,_⟩ | ⟨a',len,cap,m,n,D,Pl,rfl,_,hlc,hcap,hm,rfl,hr⟩
 ·refine ⟨_,[],rfl,by simp,Nat.two_pow_pos 47,?_⟩;exact LRep.row none 0 0 0 0 [] (λ_ _=>.bool true) (Qm _) (by decide) (by simp) (by simp) (by simp) (by simp)
 ·simp only [if_true] at hm;subst hm;rw [Jr] at hz;have hlen:len<2^47:=by
   have h0:=hz ((len+(m-len))*prog.bytesOf e) (by simp [DataW.weights,hu]);have h1:len<=(len+(m-len))*prog.bytesOf e:=by
    have:=Zh (Kv len (m-len)) hb;omega
   have h2:(len+(m-len))*prog.bytesOf e<=reachBytes:=by simpa using h0
   exact Z3 (Qc h1 h2) reachBytes_lt
  have hel:∀ i,i<len->((D i).weights prog e).all (· <= reachBytes)=true:=λi hi=>by
   rw [Jr];intro k hk;refine hz k ?_;simp only [DataW.weights,hu];refine Qg _ (Qr.2 (.inl (JF (i:=i) ?_ k hk)));rw [Zd,Xz hi]; rfl
  have hone:∀ i,i<len->∃ z cs',Ok z/\Els w cs' (rw_ z)/\∀ j,j<sz->w.cell? ((a'.add (i*sz)).add j)=cs'[j]? := λi hi=>by
   obtain ⟨cs',hcs,htr⟩:=hr i (by omega);rw [hc] at hcs;obtain ⟨_,hl,hcell⟩:=World.cells?_some hcs;obtain ⟨z,hz1,hz2⟩:=elem _ _ _ htr (hel i hi);refine ⟨z,cs',hz1,hz2,λj hj=>?_⟩;rw [hcell j (by omega)]
  have hspot:0<len->a'.spot=none/\a'.block<w.heap.size:=λh0=>by
   obtain ⟨z,cs',_,⟨hl,_⟩,h3⟩:=hone 0 h0;have h4:=h3 0 hsz;have:(a'.add (0*sz)).add 0=a':=by simp [Addr.add]
   rw [this,Qe (by rw [hl,hw]; exact hsz)] at h4;exact Qmt h4
  obtain ⟨l,hll,hl⟩:∃ l:List α,l.length=len/\∀ i z,l[i]? = some z->Ok z/\∃ cs',Els w cs' (rw_ z)/\∀ j,j<sz->w.cell? ((a'.add (i*sz)).add j)=cs'[j]? := by
   have:∀ k,k<=len->∃ l:List α,l.length=k/\∀ i z,l[i]? = some z->Ok z/\∃ cs',Els w cs' (rw_ z)/\∀ j,j<sz->w.cell? ((a'.add (i*sz)).add j)=cs'[j]? := by
    intro k
    induction k with
    | zero=>intro _; exact ⟨[],rfl,λi z h=>by simp at h⟩
    |
     succ k ih =>
     intro hk;obtain ⟨l,h1,h2⟩:=ih (by omega);obtain ⟨z,cs',h3,h4,h5⟩:=hone k (by omega);refine ⟨l++[z],by simp [h1],λi y hy=>?_⟩;rcases Zb i l.length with hi | hi
     ·rw [Zm hi] at hy; exact h2 i y hy
     ·rw [Xg hi] at hy;have:i-l.length=0:=by
       rcases Q3 (i-l.length) with h | h
       ·exact h
       ·rw [Qw (by rw [Vs]; exact h)] at hy; cases hy
      rw [this] at hy;simp at hy;subst hy;have:i=k:=by omega
      subst this;exact ⟨h3,cs',h4,h5⟩
   exact this len (Qm _)
  refine ⟨_,l,rfl,λz hz=>?_,by rw [hll]; exact hlen,?_⟩
  ·obtain ⟨i,hi⟩:=Zj.1 hz;exact (hl i z hi).1
  ·have key:LRep w O0 (.slice (some a') (l.map rw_).length m) (.row (l.map rw_)):=by
    have hgl:∀ i c,(l.map rw_)[i]? = some c->∃ z,l[i]? = some z/\c=rw_ z/\i<len:=λi c h=>by
     rw [Zd] at h;cases e:l[i]? with
     | none=>rw [e] at h; cases h
     | some z=>rw [e] at h; simp at h; exact ⟨z,rfl,h.symm,by have:=(Qf.1 e).1; omega⟩
    have hcl:∀ i c,(l.map rw_)[i]? = some c->∃ cs':List Value,Els w cs' c/\∀ j,j<sz->w.cell? ⟨a'.block,a'.off+i*sz+j,none⟩=cs'[j]? := λi c h=>by
     obtain ⟨z,hz,rfl,hi⟩:=hgl i c h;obtain ⟨_,cs',h1,h2⟩:=hl i z hz;refine ⟨cs',h1,λj hj=>?_⟩;rw [<-h2 j hj,Qk6 (hspot (by omega)).1]
    refine LRep.row (some a') m sz a'.block a'.off (l.map rw_) (λi j=>(w.cell? ⟨a'.block,a'.off+i*sz+j,none⟩).getD (.bool true)) (by rw [Q7]; omega) ?_ ?_ ?_ ?_ ?_
    ·have:maxLen=2^63-1:=by rfl
     omega
    ·intro c hc2;obtain ⟨z,_,rfl⟩:=Za.1 hc2;exact hw z
    ·intro h0;rw [Q7,hll] at h0;obtain ⟨hs,hb⟩:=hspot h0;refine ⟨?_,hb,by simp [O0]⟩;obtain ⟨b,o,s⟩:=a';simp only at hs;rw [hs]
    ·intro i c hi j hj;obtain ⟨z,_,rfl,_⟩:=hgl i c hi;obtain ⟨cs',⟨h1,_⟩,h2⟩:=hcl i _ hi;have hjs:j<sz:=by rw [<-hw z]; exact hj
     rw [h2 j hjs,Qe (by rw [h1]; exact hj)]; rfl
    ·intro i c hi j u hu2;obtain ⟨z,_,rfl,_⟩:=hgl i c hi;obtain ⟨cs',⟨h1,h3⟩,h2⟩:=hcl i _ hi;obtain ⟨v,hv,hr2⟩:=h3 j u hu2;have hjs:j<sz:=by rw [<-hw z]; exact (Qf.1 hu2).1
     show LRep w O0 ((w.cell? ⟨a'.block,a'.off+i*sz+j,none⟩).getD (.bool true)) u;rw [h2 j hjs,hv]; exact hr2
   rw [Q7,hll] at key;exact key
abbrev Qx4 (x:Nat):Up:=[.int .u32 (x:Int)]
theorem Qj7:∀ fuel cs x,DataW.trod enc prog w 0 (λ_=>true) true fuel 113 cs=some x->(x.1.weights prog 113).all (· <= reachBytes)=true->∃ z:Nat,z<4294967296/\Els w cs (Qx4 z):=by
 intro fuel cs x h _;obtain ⟨n,rfl,_,hwf⟩:=DataW.trod_int underlying113 h;have hn:0<=n/\n<4294967296:=by
  have:0<=n/\n<=4294967295:=by simpa [Lit.wf,IntKind.min,IntKind.max,IntKind.signed,IntKind.bits] using hwf
  omega
 refine ⟨n.toNat,by omega,rfl,λj u hu=>?_⟩
 match j,hu with
 |
  0,hu =>
  simp at hu; subst hu;refine ⟨_,rfl,?_⟩;rw [show max n 0=n by omega];exact .int _ _
 | j+1,hu=>simp at hu
set_option maxRecDepth 20000 in
theorem CG:∀ fuel cs x,DataW.trod enc prog w 0 (λ_=>true) true fuel 34 cs=some x->(x.1.weights prog 34).all (· <= reachBytes)=true->∃ z:RawInt,z.Ok/\Els w cs (Ip z):=by
 intro fuel cs x h hz;obtain ⟨xs,n,_,rfl,hl,hxs,hf⟩:=DataW.trod_struct underlying34 h;have hl:cs.length=2:=hl
 match cs,hl with
 |
  [v0,v1],_ =>
  obtain ⟨z0,hz0⟩:=Ab (i:=0) hxs (by decide);obtain ⟨z1,hz1⟩:=Ab (i:=1) hxs (by decide);have h0:=hf 0 _ rfl;have h1:=hf 1 _ rfl;rw [hz0] at h0; rw [hz1] at h1;obtain ⟨b,e0,_⟩:=DataW.trod_bool underlying4 h0;have f0:v0=.bool b:=(List.cons.inj (show [v0]=[Value.bool b] from e0)).1;have hw1:=Iu underlying34 hz (i:=1) rfl (d:=z1.1) (by rw [Zd,hz1]; rfl);obtain ⟨v,l,e1,hlo,_,hrep⟩:=FR (sz:=1) (Ok:=λu:Nat=>u<4294967296) (rw_:=Qx4) underlying32 (by kernel_rfl) (by decide) (of_decide_eq_true (by kernel_rfl)) (λ_=>rfl) Qj7 h1 hw1;have f1:v1=v:=(List.cons.inj (show [v1]=[v] from e1)).1;subst f0 f1;refine ⟨⟨b,l⟩,⟨hlo⟩,rfl,λj u hu=>?_⟩
  match j,hu with
  | 0,hu=>simp at hu; subst hu; exact ⟨_,rfl,.bool _⟩
  | 1,hu=>simp at hu; subst hu; exact ⟨_,rfl,hrep⟩
  | j+2,hu=>simp at hu
set_option maxRecDepth 20000 in
theorem nT:∀ fuel cs x,DataW.trod enc prog w 0 (λ_=>true) true fuel 38 cs=some x->(x.1.weights prog 38).all (· <= reachBytes)=true->∃ z:RawPt,z.Ok/\Els w cs (rwq z):=by
 intro fuel cs x h hz;obtain ⟨xs,n,_,rfl,hl,hxs,hf⟩:=DataW.trod_struct underlying38 h;have hl:cs.length=5:=hl
 match cs,hl with
 |
  [v0,v1,v2,v3,v4],_ =>
  obtain ⟨z0,hz0⟩:=Ab (i:=0) hxs (by decide);obtain ⟨z1,hz1⟩:=Ab (i:=1) hxs (by decide);have h0:=hf 0 _ rfl;have h1:=hf 1 _ rfl;rw [hz0] at h0; rw [hz1] at h1;obtain ⟨id,e4,_,hwf⟩:=DataW.trod_int underlying3 h1;have f4:v4=.int .i64 id:=(List.cons.inj (show [v4]=[Value.int .i64 id] from e4)).1;have hw0:=Iu underlying38 hz (i:=0) rfl (d:=z0.1) (by rw [Zd,hz0]; rfl);obtain ⟨ys,n2,_,e5,_,hys,hg⟩:=DataW.trod_struct underlying36 h0;rw [e5] at hw0;obtain ⟨y0,hy0⟩:=Ab (i:=0) hys (by decide);obtain ⟨y1,hy1⟩:=Ab (i:=1) hys (by decide);obtain ⟨y2,hy2⟩:=Ab (i:=2) hys (by decide);have g0:=hg 0 _ rfl;have g1:=hg 1 _ rfl;have g2:=hg 2 _ rfl;rw [hy0] at g0; rw [hy1] at g1; rw [hy2] at g2;have w0:=Iu underlying36 hw0 (i:=0) rfl (d:=y0.1) (by rw [Zd,hy0]; rfl);have w1:=Iu underlying36 hw0 (i:=1) rfl (d:=y1.1) (by rw [Zd,hy1]; rfl);have w2:=Iu underlying36 hw0 (i:=2) rfl (d:=y2.1) (by rw [Zd,hy2]; rfl);obtain ⟨u0,lx,e0,hx,_,rx⟩:=FR (sz:=2) (Ok:=RawInt.Ok) (rw_:=Ip) underlying31 (by kernel_rfl) (by decide) (of_decide_eq_true (by kernel_rfl)) (λ_=>rfl) CG g0 w0;obtain ⟨u1,ly,e1,hy,_,ry⟩:=FR (sz:=2) (Ok:=RawInt.Ok) (rw_:=Ip) underlying31 (by kernel_rfl) (by decide) (of_decide_eq_true (by kernel_rfl)) (λ_=>rfl) CG g1 w1;obtain ⟨d,hd,hde⟩:=CG _ _ _ g2 w2;have f0:v0=u0:=(List.cons.inj (show [v0]=[u0] from e0)).1;have f1:v1=u1:=(List.cons.inj (show [v1]=[u1] from e1)).1;have hde2:Els w [v2,v3] (Ip d):=hde;subst f0 f1 f4;obtain ⟨q2,hq2,r2⟩:=hde2.2 0 _ rfl;obtain ⟨q3,hq3,r3⟩:=hde2.2 1 _ rfl;simp at hq2 hq3;subst hq2 hq3;refine ⟨⟨lx,ly,d,id⟩,⟨hx,hy,hd,by simpa [Lit.wf,IntKind.min,IntKind.max,IntKind.signed,IntKind.bits] using hwf⟩,rfl,λj u hu=>?_⟩
  match j,hu with
  | 0,hu=>simp [rwq] at hu; subst hu; exact ⟨_,rfl,rx⟩
  | 1,hu=>simp [rwq] at hu; subst hu; exact ⟨_,rfl,ry⟩
  | 2,hu=>simp [rwq] at hu; subst hu; exact ⟨_,rfl,r2⟩
  | 3,hu=>simp [rwq] at hu; subst hu; exact ⟨_,rfl,r3⟩
  | 4,hu=>simp [rwq] at hu; subst hu; exact ⟨_,rfl,.int _ _⟩
  | j+5,hu=>simp [rwq] at hu
end Orr
namespace Orr
open Go Go.Proofs Tryz Go.ChangeShapes Go.WideShapes Go.ChangeAt Go.RowKit Go.WideElems
variable {H:Type} {enc:TypeId×Value->H} {w:World}
end Orr
namespace Orr
open Go Go.Proofs Tryz Go.ChangeShapes Go.WideShapes Go.ChangeAt Go.RowKit Go.WideElems
set_option maxRecDepth 10000
def AX (t:TypeId) (R:TV->Prop):Prop:=∀ {H:Type} {enc:TypeId×Value->H} {W:World} {base:Nat} {v:Value} {d:DataW H} {p:List MemPlace},Value.okWide prog W .any base t v->DataW.Trod enc prog W 0 (λ_=>true) true t v d p->(d.weights prog t).all (· <= reachBytes)=true->∃ u,R u/\TRep W (λ_=>False) (λ_=>none) v u
section
variable {H:Type} {enc:TypeId×Value->H} {W W':World} {base:Nat}
theorem rY:∀ {ps:List (TypeId×(TV->Prop))} {args:List Value} {ds:List (DataW H)} {p:List MemPlace},DataW.TrodAll enc prog W 0 (λ_=>true) true (ps.map (·.1)) args ds p ->
 (∀ (j:Nat) t v,(ps.map (·.1))[j]? = some t->args[j]? = some v->Value.okWide prog W .any base t v)->(∀ (j:Nat) t d,(ps.map (·.1))[j]? = some t->ds[j]? = some d->(d.weights prog t).all (· ≤ reachBytes)=true)->(∀ q∈ps,AX q.1 q.2) ->
 ∃ us,F2 (λu (q:TypeId×(TV->Prop))=>q.2 u) us ps/\F2 (TRep W (λ_=>False) (λ_=>none)) args us/\ds.length=ps.length
 |
  [],args,ds,p,h,_,_,_=>by
  obtain ⟨rfl,rfl,rfl⟩:=trodAll_nil h;exact ⟨[],.nil,.nil,rfl⟩
 |
  q::ps,args,ds,p,h,hv,hw,hr=>by
  obtain ⟨v,vs,d,ds',p1,p2,rfl,rfl,rfl,h1,h2⟩:=trodAll_cons h;obtain ⟨u,r1,r2⟩:=hr q (Qy ..) (hv 0 q.1 v rfl rfl) h1 (hw 0 q.1 d rfl rfl);obtain ⟨us,s1,s2,s3⟩:=rY h2 (λj t v h h'=>hv (j+1) t v (by simpa using h) (by simpa using h')) (λj t d h h'=>hw (j+1) t d (by simpa using h) (by simpa using h')) λq hq=>hr q (Qg _ hq)
  exact ⟨u::us,.cons r1 s1,.cons r2 s2,by simp [s3]⟩
theorem rL {sp':Nat->Bool} (hl:laidOutB prog=true):∀ {ps:List (TypeId×(TV->Prop))} {args:List Value} {ds:List (DataW H)} {p:List MemPlace},DataW.TrodAll enc prog W 0 (λ_=>true) true (ps.map (·.1)) args ds p ->
 (∀ q∈ps,prog.readableRec q.1=true/\q.1<prog.types.size)->(∀ x∈p,W.sameAt W' x)->(∀ x∈p,sp' x.block=true)->DataW.TrodAll enc prog W' 0 sp' true (ps.map (·.1)) args ds p
 |
  [],args,ds,p,h,_,_,_=>by
  obtain ⟨rfl,rfl,rfl⟩:=trodAll_nil h;exact trodAll_mk0
 |
  q::ps,args,ds,p,h,hr,hs,hb=>by
  obtain ⟨v,vs,d,ds',p1,p2,rfl,rfl,rfl,h1,h2⟩:=trodAll_cons h;obtain ⟨r1,r2⟩:=hr q (Qy ..);exact trodAll_cons_mk (Trod_stays hl r1 r2 h1 (λx hx=>hs x (Qr.2 (.inl hx))) λx hx=>hb x (Qr.2 (.inl hx))) (rL hl h2 (λq hq=>hr q (Qg _ hq)) (λx hx=>hs x (Qr.2 (.inr hx))) λx hx=>hb x (Qr.2 (.inr hx)))
end
theorem Qg9 {ps:List (TypeId×(TV->Prop))} {f:FuncId} {fn:Func} {s:ChangeSpec} (hp:fn.params=(ps.map (·.1)).toArray) (hr:fn.resultTypes = #[4]) (hv:s.vars=[])
 (hs:∀ (H:Type) (ds:List (DataW H)),ds.length=ps.length->s.fn H ds={ results:=[.lit (.bool true)],args:=ds })
 (hlaid:laidOutB prog=true) (hrec:∀ q∈ps,prog.readableRec q.1=true/\q.1<prog.types.size) (hrd:∀ q∈ps,AX q.1 q.2)
 (law:∀ us:Us,F2 (λu (q:TypeId×(TV->Prop))=>q.2 u) us ps->EF prog f us [.one (.bool true)])
 {H:Type} {enc:TypeId×Value->H} {W:World} {base:Nat} {args:Array Value} {ds gs:List (DataW H)} {Tg:List MemPlace} {fresh handsOn:Bool}
 (hval:∀ (j:Nat) t v,fn.params[j]? = some t->args[j]? = some v->Value.okWide prog W .any base t v)
 (hW:DataW.Whole enc prog fn.params.toList s.vars false W args.toList ds gs Tg)
 (hz:(DataW.weightsEach prog (fn.params.toList++s.plain.varTypes prog) (ds++gs)).all (· <= reachBytes)=true) :
 Calls prog f args W λe W'=>∃ v,e=.returned v/\s.post enc prog fn false fresh handsOn false W args v W':=by
 have hW':=hW;obtain ⟨p,q,hA0,hV,rfl,hfz,hnd⟩:=hW;have hA:DataW.TrodAll enc prog W 0 (λ_=>true) true fn.params.toList args.toList ds p:=hA0;rw [hv] at hV;obtain ⟨rfl,rfl⟩:=trodVars_none hV;have hlt:=hW'.lt;rw [hp] at hA hval hz;have hA:DataW.TrodAll enc prog W 0 (λ_=>true) true (ps.map (·.1)) args.toList ds p:=by simpa using hA
 obtain ⟨us,r1,r2,r3⟩:=rY (base:=base) hA (λj t v h h'=>hval j t v (by simpa using h) (by simpa using h')) (λj t d h h'=>by
  rw [Jr] at hz ⊢;intro k hk;have hj:j<(ps.map (·.1)).length:=(Qf.1 h).1;have hj2:j<ds.length:=(Qf.1 h').1;exact hz k (DataW.weights_mem_each (j:=j) (by rw [Zm (by simpa using hj)]; simpa using h) (by rw [Zm hj2]; exact h') k hk)) hrd
 have hcall:=(law us r1).2 (fr0 W) (λ_=>none) (λ_=>False) W args.toList (EU W) r2;have ea:args.toList.toArray=args:=by simp
 rw [ea] at hcall;refine hcall.mono λe W' ⟨v,u,Bo,E',M',he,⟨hu,hBo⟩,_,hm,har⟩=>?_
 subst hu;obtain rfl:v=.bool true:=by
  have h:LRep _ _ v (.bool true):=har;cases h;rfl
 refine ⟨_,he,?_⟩;refine ⟨ds,[],_,[],p,[],hW',?_,?_,?_,Qnn hm _,λh=>by cases h⟩
 ·rw [hr,Zx,hs H ds r3];exact trodAll_cons_mk (shut_bool underlying4 true) trodAll_mk0
 ·rw [hp,Zx,hs H ds r3];have hb:∀ x∈p,x.block<W.heap.size:=λx hx=>hlt x (by simp [hx])
  have:=rL (sp':=λb=>decide (b<W.heap.size)) hlaid hA hrec (λx hx=>Qo4 hm (hb x hx)) λx hx=>by simpa using hb x hx
  simpa using this
 ·rw [hv,Zx,hs H ds r3];rfl
abbrev Qkx (u:TV):Prop:=∃ n:Int,(-9223372036854775808<=n/\n<=9223372036854775807)/\u=.oi n
abbrev Qv2 (u:TV):Prop:=∃ zs:List RawPt,(∀ z∈zs,z.Ok)/\u=.one (.row (rR zs))
theorem RG:AX 3 Qkx:=λ{H enc W base v d p} hv h _=>by
 obtain ⟨n,rfl,rfl,rfl,w1⟩:=open_int underlying3 hv h;exact ⟨_,⟨n,by simpa [Lit.wf,IntKind.min,IntKind.max,IntKind.signed,IntKind.bits] using w1,rfl⟩,show XRep W (λ_=>False) (λ_=>none) (.int .i64 n) (.int .i64 n) from (LRep.int .i64 n).x⟩
theorem Qb8 {α:Type} {rw_:α->Up} {Ok:α->Prop} {t e sz:Nat} (hu:prog.underlying t=some (.slice e)) (hc:prog.cellsOf e=sz) (hsz:0<sz) (hb:1<=prog.bytesOf e) (hw:∀ z,(rw_ z).length=sz)
 (elem:∀ {H:Type} {enc:TypeId×Value->H} {w:World} fuel cs x,DataW.trod enc prog w 0 (λ_=>true) true fuel e cs=some x->(x.1.weights prog e).all (· ≤ reachBytes)=true->∃ z,Ok z/\Els w cs (rw_ z)):AX t λu=>∃ l:List α,(∀ z∈l,Ok z)/\u=.one (.row (l.map rw_)):=λ{H enc W base v d p} hv h hz=>by
 obtain ⟨a,len,cap,rfl⟩:=okWide_slice hu hv;obtain ⟨fu,h⟩:=h;obtain ⟨v,l,e0,hok,_,hrep⟩:=FR hu hc hsz hb hw (λfuel cs x h h'=>elem fuel cs x h h') h hz;have f0:Value.slice a len cap=v:=(List.cons.inj (show [Value.slice a len cap]=[v] from e0)).1;subst f0;exact ⟨_,⟨l,hok,rfl⟩,show XRep W (λ_=>False) (λ_=>none) _ (.row (l.map rw_)) from hrep.x⟩
theorem Qb7:AX 74 Qv2:=Qb8 (sz:=5) (Ok:=RawPt.Ok) (rw_:=rwq) underlying74 (by kernel_rfl) (by decide) (of_decide_eq_true (by kernel_rfl)) (λ_=>rfl) λfuel cs x=>nT fuel cs x
end Orr
