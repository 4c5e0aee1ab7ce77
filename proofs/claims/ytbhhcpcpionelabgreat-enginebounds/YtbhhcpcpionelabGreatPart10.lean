/- MD2 MD3 MD4 MD5 MD6 X22 SD2 H4 En2 X20 X21 En3 EnZ En4 EnO EnQ W24 EnBd EnP EnR RawO EnA EnE EnU EnV BndE EnT RatZ EnB EnG EnC WB24 ReadN LastN LastR LastS ArgR ArgO -/
import Derived.Test.YtbhhcpcpionelabGreatPart09
import Derived.Test.YtbhhcpcpionelabGreatPart00
import Derived.Test.YtbhhcpcpionelabGreatPart08
import Derived.Test.YtbhhcpcpionelabGreatPart07
import Derived.Deep.Slices
import Derived.ProofKit
import Derived.OpenShut
import Derived.WideKeyArgs
import Derived.SizedLaws
set_option linter.all false
namespace Orr
open Go Go.Proofs Tryz Orq
set_option maxRecDepth 10000
def fJ (T:Ni) (s:Int) (n:Ul) (F:Ni) (k:Nat):Ni:=(List.range k).foldl (I2 T s n) F
theorem mE (T:Ni) (s:Int) (n:Ul) (F:Ni) (k:Nat):fJ T s n F (k+1)=I2 T s n (fJ T s n F k) k:=by unfold fJ; rw [List.range_succ,List.foldl_append]; rfl
theorem mL (T:Ni) (s:Int) (n:Ul) (F:Ni):fJ T s n F 4=OV T s n F:=rfl
set_option maxHeartbeats 4000000 in
theorem Qtu {F T:Ni} {s n0 n1 n2 n3:Int} (hT:kN T) (hs:-1<=s/\s<=1):Uz prog 171 [.one (.omap 0),.one (.omap 1),.oi s,.agg [.int .i64 n0,.int .i64 n1,.int .i64 n2,.int .i64 n3]] [.mpb F,.mpb T] [] [.mpb (OV T s [n0,n1,n2,n3] F),.mpb T]:=by
 have hm:Qly T:=λk=>(hT k).1
 have hb:=λ(k:Ul) (x:Int) (hx:-1<=x/\x<=1)=>Qck (hT k).2 hx
 rw [<-mL];obtain ⟨f,hf⟩:=nmE (fJ T s [n0,n1,n2,n3] F);have f0:F=f 0:=by rw [hf]; rfl
 have fs:∀ k,f (k+1)=I2 T s [n0,n1,n2,n3] (f k) k:=λk=>by rw [hf]; exact mE ..
 rw [<-hf];rw [f0];clear hf f0;refine Fw func171 rfl ?_;refine Uc [] rfl ?_;refine Uh (S:=Nat) 3 (λL1 k=>(14,.v (.oi k))::L1) (λk=>[.mpb (f k),.mpb T,.blk 132 [.int .i64 n0,.int .i64 n1,.int .i64 n2,.int .i64 n3]]) (λk=>4-k) (λk=>k<=4) 0 (by decide) rfl rfl λk hk=>?_
 rcases (show k=0\/k=1\/k=2\/k=3\/k=4 by omega) with rfl | rfl | rfl | rfl | rfl
 ·have e1:=fs 0;have e2:I2 T s [n0,n1,n2,n3] (f 0) 0=if ZW T [n1,n2,n3]*(-s)>0 then Lp (f 0) [n1,n2,n3] (.bool true) else f 0:=rfl
  rw [e2] at e1;refine Uc [.t rfl] rfl ?_;refine Uh (S:=Nat) 4 (λL1 i=>(18,.v (.oi i))::(10,.v (.oi (if i<=0 then (i:Int) else (i:Int)-1)))::L1) (λi=>[.mpb (f 0),.mpb T,.blk 132 [.int .i64 n0,.int .i64 n1,.int .i64 n2,.int .i64 n3],.blk 69 [.int .i64 (if 2<=i then n1 else 0),.int .i64 (if 3<=i then n2 else 0),.int .i64 (if 4<=i then n3 else 0)]]) (λi=>4-i) (λi=>i<=4) 0 (by decide) rfl rfl λi hi=>?_
  rcases (show i=0\/i=1\/i=2\/i=3\/i=4 by omega) with rfl | rfl | rfl | rfl | rfl
  ·refine Uc [.t rfl,.i 0,.f rfl] rfl ?_ (by simp [Uw]);exact rd 1 (by omega) (by omega) rfl
  ·refine Uc [.t rfl,.i 1,.t rfl,.i 0] rfl ?_ (by simp [Uw]);exact rd 2 (by omega) (by omega) rfl
  ·refine Uc [.t rfl,.i 2,.t rfl,.i 1] rfl ?_ (by simp [Uw]);exact rd 3 (by omega) (by omega) rfl
  ·refine Uc [.t rfl,.i 3,.t rfl,.i 2] rfl ?_ (by simp [Uw]);exact rd 4 (by omega) (by omega) rfl
  ·have hbb:=hb [n1,n2,n3] (-s) (by omega);by_cases hc:ZW T [n1,n2,n3]*(-s)>0
   ·rw [if_pos hc] at e1;refine go tt [.f rfl,.t rfl,.t (decide_eq_true hc)] rfl (by simp only [Uw]; first | exact ⟨⟨by omega,by omega⟩,hbb,hm,⟨by omega,by omega⟩,by decide,by omega,by omega⟩ | exact ⟨⟨by omega,by omega⟩,hbb,hm,by decide,by omega,by omega⟩) ?_;exact rd 1 (by omega) (by omega) (by rw [e1]; rfl)
   ·rw [if_neg hc] at e1;refine go tt [.f rfl,.t rfl,.f (decide_eq_false hc)] rfl (by simp only [Uw]; first | exact ⟨⟨by omega,by omega⟩,hbb,hm,⟨by omega,by omega⟩,by decide,by omega,by omega⟩ | exact ⟨⟨by omega,by omega⟩,hbb,hm,by decide,by omega,by omega⟩) ?_;exact rd 1 (by omega) (by omega) (by rw [e1]; rfl)
 ·have e1:=fs 1;have e2:I2 T s [n0,n1,n2,n3] (f 1) 1=if ZW T [n0,n2,n3]*s>0 then Lp (f 1) [n0,n2,n3] (.bool true) else f 1:=rfl
  rw [e2] at e1;refine Uc [.t rfl] rfl ?_;refine Uh (S:=Nat) 4 (λL1 i=>(18,.v (.oi i))::(10,.v (.oi (if i<=1 then (i:Int) else (i:Int)-1)))::L1) (λi=>[.mpb (f 1),.mpb T,.blk 132 [.int .i64 n0,.int .i64 n1,.int .i64 n2,.int .i64 n3],.blk 69 [.int .i64 (if 1<=i then n0 else 0),.int .i64 (if 3<=i then n2 else 0),.int .i64 (if 4<=i then n3 else 0)]]) (λi=>4-i) (λi=>i<=4) 0 (by decide) rfl rfl λi hi=>?_
  rcases (show i=0\/i=1\/i=2\/i=3\/i=4 by omega) with rfl | rfl | rfl | rfl | rfl
  ·refine Uc [.t rfl,.i 0,.t rfl,.i 0] rfl ?_ (by simp [Uw]);exact rd 1 (by omega) (by omega) rfl
  ·refine Uc [.t rfl,.i 1,.f rfl] rfl ?_ (by simp [Uw]);exact rd 2 (by omega) (by omega) rfl
  ·refine Uc [.t rfl,.i 2,.t rfl,.i 1] rfl ?_ (by simp [Uw]);exact rd 3 (by omega) (by omega) rfl
  ·refine Uc [.t rfl,.i 3,.t rfl,.i 2] rfl ?_ (by simp [Uw]);exact rd 4 (by omega) (by omega) rfl
  ·have hbb:=hb [n0,n2,n3] s (by omega);by_cases hc:ZW T [n0,n2,n3]*s>0
   ·rw [if_pos hc] at e1;refine go tt [.f rfl,.f rfl,.t (decide_eq_true hc)] rfl (by simp only [Uw]; first | exact ⟨⟨by omega,by omega⟩,hbb,hm,⟨by omega,by omega⟩,by decide,by omega,by omega⟩ | exact ⟨⟨by omega,by omega⟩,hbb,hm,by decide,by omega,by omega⟩) ?_;exact rd 2 (by omega) (by omega) (by rw [e1]; rfl)
   ·rw [if_neg hc] at e1;refine go tt [.f rfl,.f rfl,.f (decide_eq_false hc)] rfl (by simp only [Uw]; first | exact ⟨⟨by omega,by omega⟩,hbb,hm,⟨by omega,by omega⟩,by decide,by omega,by omega⟩ | exact ⟨⟨by omega,by omega⟩,hbb,hm,by decide,by omega,by omega⟩) ?_;exact rd 2 (by omega) (by omega) (by rw [e1]; rfl)
 ·have e1:=fs 2;have e2:I2 T s [n0,n1,n2,n3] (f 2) 2=if ZW T [n0,n1,n3]*(-s)>0 then Lp (f 2) [n0,n1,n3] (.bool true) else f 2:=rfl
  rw [e2] at e1;refine Uc [.t rfl] rfl ?_;refine Uh (S:=Nat) 4 (λL1 i=>(18,.v (.oi i))::(10,.v (.oi (if i<=2 then (i:Int) else (i:Int)-1)))::L1) (λi=>[.mpb (f 2),.mpb T,.blk 132 [.int .i64 n0,.int .i64 n1,.int .i64 n2,.int .i64 n3],.blk 69 [.int .i64 (if 1<=i then n0 else 0),.int .i64 (if 2<=i then n1 else 0),.int .i64 (if 4<=i then n3 else 0)]]) (λi=>4-i) (λi=>i<=4) 0 (by decide) rfl rfl λi hi=>?_
  rcases (show i=0\/i=1\/i=2\/i=3\/i=4 by omega) with rfl | rfl | rfl | rfl | rfl
  ·refine Uc [.t rfl,.i 0,.t rfl,.i 0] rfl ?_ (by simp [Uw]);exact rd 1 (by omega) (by omega) rfl
  ·refine Uc [.t rfl,.i 1,.t rfl,.i 1] rfl ?_ (by simp [Uw]);exact rd 2 (by omega) (by omega) rfl
  ·refine Uc [.t rfl,.i 2,.f rfl] rfl ?_ (by simp [Uw]);exact rd 3 (by omega) (by omega) rfl
  ·refine Uc [.t rfl,.i 3,.t rfl,.i 2] rfl ?_ (by simp [Uw]);exact rd 4 (by omega) (by omega) rfl
  ·have hbb:=hb [n0,n1,n3] (-s) (by omega);by_cases hc:ZW T [n0,n1,n3]*(-s)>0
   ·rw [if_pos hc] at e1;refine go tt [.f rfl,.t rfl,.t (decide_eq_true hc)] rfl (by simp only [Uw]; first | exact ⟨⟨by omega,by omega⟩,hbb,hm,⟨by omega,by omega⟩,by decide,by omega,by omega⟩ | exact ⟨⟨by omega,by omega⟩,hbb,hm,by decide,by omega,by omega⟩) ?_;exact rd 3 (by omega) (by omega) (by rw [e1]; rfl)
   ·rw [if_neg hc] at e1;refine go tt [.f rfl,.t rfl,.f (decide_eq_false hc)] rfl (by simp only [Uw]; first | exact ⟨⟨by omega,by omega⟩,hbb,hm,⟨by omega,by omega⟩,by decide,by omega,by omega⟩ | exact ⟨⟨by omega,by omega⟩,hbb,hm,by decide,by omega,by omega⟩) ?_;exact rd 3 (by omega) (by omega) (by rw [e1]; rfl)
 ·have e1:=fs 3;have e2:I2 T s [n0,n1,n2,n3] (f 3) 3=if ZW T [n0,n1,n2]*s>0 then Lp (f 3) [n0,n1,n2] (.bool true) else f 3:=rfl
  rw [e2] at e1;refine Uc [.t rfl] rfl ?_;refine Uh (S:=Nat) 4 (λL1 i=>(18,.v (.oi i))::(10,.v (.oi (if i<=3 then (i:Int) else (i:Int)-1)))::L1) (λi=>[.mpb (f 3),.mpb T,.blk 132 [.int .i64 n0,.int .i64 n1,.int .i64 n2,.int .i64 n3],.blk 69 [.int .i64 (if 1<=i then n0 else 0),.int .i64 (if 2<=i then n1 else 0),.int .i64 (if 3<=i then n2 else 0)]]) (λi=>4-i) (λi=>i<=4) 0 (by decide) rfl rfl λi hi=>?_
  rcases (show i=0\/i=1\/i=2\/i=3\/i=4 by omega) with rfl | rfl | rfl | rfl | rfl
  ·refine Uc [.t rfl,.i 0,.t rfl,.i 0] rfl ?_ (by simp [Uw]);exact rd 1 (by omega) (by omega) rfl
  ·refine Uc [.t rfl,.i 1,.t rfl,.i 1] rfl ?_ (by simp [Uw]);exact rd 2 (by omega) (by omega) rfl
  ·refine Uc [.t rfl,.i 2,.t rfl,.i 2] rfl ?_ (by simp [Uw]);exact rd 3 (by omega) (by omega) rfl
  ·refine Uc [.t rfl,.i 3,.f rfl] rfl ?_ (by simp [Uw]);exact rd 4 (by omega) (by omega) rfl
  ·have hbb:=hb [n0,n1,n2] s (by omega);by_cases hc:ZW T [n0,n1,n2]*s>0
   ·rw [if_pos hc] at e1;refine go tt [.f rfl,.f rfl,.t (decide_eq_true hc)] rfl (by simp only [Uw]; first | exact ⟨⟨by omega,by omega⟩,hbb,hm,⟨by omega,by omega⟩,by decide,by omega,by omega⟩ | exact ⟨⟨by omega,by omega⟩,hbb,hm,by decide,by omega,by omega⟩) ?_;exact rd 4 (by omega) (by omega) (by rw [e1]; rfl)
   ·rw [if_neg hc] at e1;refine go tt [.f rfl,.f rfl,.f (decide_eq_false hc)] rfl (by simp only [Uw]; first | exact ⟨⟨by omega,by omega⟩,hbb,hm,⟨by omega,by omega⟩,by decide,by omega,by omega⟩ | exact ⟨⟨by omega,by omega⟩,hbb,hm,by decide,by omega,by omega⟩) ?_;exact rd 4 (by omega) (by omega) (by rw [e1]; rfl)
 ·exact Ug [] [0,1] [.f rfl] rfl
set_option maxHeartbeats 8000000 in
theorem IV {l:List Pt} {a:Tm} {c:Cr} {r1:Ur} (hl:∀ p∈l,Sc p.c) (hn:l.length≤6) (ha:Va a):Uz prog 131 [.one (.ow 0 0),.agg (ta a)] [.blk 205 (Hn c (Uv l) r1)] [.one (.row (Fg (NH l a)))] [.blk 205 (Hn c (Uv l) (pR l a))]:=by
 have hwl:=As l;have cw:=pA (l:=l) (Qap hl) (by omega);have hgb:=Qhp a;unfold pR NH gU gG;obtain ⟨sg',hsg⟩:∃ s,s=Fl a:=⟨_,rfl⟩;obtain ⟨W,hW⟩:=nmE (Rj l);have hWs:∀ p∈W,Sc p.c:=λp hp=>hl p (Mf (by rw [<-hW]; exact hp))
 have mR:=λ{x y z:Pt} (hx:x∈W) (hy:y∈W) (hz:z∈W)=>lV (t:=a) (hWs x hx) (hWs y hy) (hWs z hz) ha
 have mC:=λ{x y z u:Pt} (hx:x∈W) (hy:y∈W) (hz:z∈W) (hu:u∈W)=>Qms (t:=a) (hWs x hx) (hWs y hy) (hWs z hz) (hWs u hu) ha
 rw [<-hW] at cw hwl ⊢;rw [<-hsg] at hgb mR mC ⊢;have hW6:W.length<=6:=by omega
 have hTi:=λps=>Qcb hgb ps
 have hcp:(W.map U5).length=W.length:=by simp
 have hcp2:=Gu W;have hdr:∀ i,(Uv W).drop i=Uv (W.drop i):=λi=>by unfold Uv; rw [List.map_drop]
 have hel:∀ z∈Uv W,z.length=5:=λz hz=>by obtain ⟨p,_,rfl⟩:=Q6.1 hz; rfl
 have s7:∀ x:Ct,∀ y∈[Lm x],y.length=7:=λx y hy=>by rw [Qk.1 hy]; rfl
 have s3:∀ x:P3,∀ y∈[trL x],y.length=3:=λx y hy=>by rw [Qk.1 hy]; rfl
 obtain ⟨T,hT⟩:=nmE (Aq (ZF sg' (Hl W)));obtain ⟨G,hG⟩:=nmE (I5 T (VV sg' (Al W)));have hTI:kN T:=by rw [hT]; exact hTi _
 have hTm:Qly T:=λk=>(hTI k).1
 have hGB:Qdr G:=λk=>by rw [hG]; exact pH _ _ _ k
 rw [<-hT,<-hG];have e0:(Fg (((Ch 0 W).map (PG sg'))))=[]:=rfl;refine Fw func131 rfl ?_;refine Uc [.k cw,.o 6 136 7] rfl ?_;refine Uh (S:=Nat) 4 (λL1 i=>(42,.v (.oi i))::(6,.v (.one (.orow 2 7 none)))::L1) (λi=>[.blk 205 (Hn c (Uv l) r1),.blk 189 (ta a),.row false 136 7 (Fg ((Ch i W).map (PG sg'))),.mpb (Aq (ZF sg' (Ch i W)))]) (λi=>W.length-i) (λi=>i<=W.length) 0 (Qh _) rfl rfl λi hi=>?_
 by_cases hlt:i<W.length
 ·obtain ⟨x,hx⟩:=gxE (l:=W) (i:=i) hlt;have xm:=Qa hx;obtain ⟨V,hV⟩:=nmE (W.drop (i+1));have hVl:V.length=W.length-(i+1):=by rw [hV,Q9]
  have hVm:∀ p∈V,p∈W:=λp hp=>by rw [hV] at hp; exact Q0 hp
  have eV:(Uv W).drop (i+1)=Uv V:=by rw [hdr,<-hV]
  rw [<-LG W x i];refine go tt [.T,.x (Tr hx),.r 49 (eI (b:=((i+1:Nat):Int)) (by omega)),.i (i+1),.r 50 (UU eV)] rfl (by simp only [Uw]; (repeat' apply And.intro) <;> first | omega | exact hel) ?_;have hVr:=Gu V;refine Uh (S:=Nat) 5 (λL1 j=>(52,.v (.oi j))::(6,.v (.one (.orow 2 7 none)))::L1) (λj=>[.blk 205 (Hn c (Uv l) r1),.blk 189 (ta a),.row false 136 7 (Fg ((p3j W x i j).map (PG sg'))),.mpb (Aq (ZF sg' (p3j W x i j))),.blk 38 (U5 x)]) (λj=>V.length-j) (λj=>j<=V.length) 0 (Qh _) rfl rfl λj hj=>?_
  by_cases hltj:j<V.length
  ·obtain ⟨y,hy⟩:=gxE (l:=V) (i:=j) hltj;have ym:=hVm y (Qa hy);have hy':(W.drop (i+1))[j]? = some y:=by rw [<-hV]; exact hy
   obtain ⟨U,hU⟩:=nmE (V.drop (j+1));have hUl:U.length=V.length-(j+1):=by rw [hU,Q9]
   have hUm:∀ p∈U,p∈W:=λp hp=>by rw [hU] at hp; exact hVm p (Q0 hp)
   have hUW:U=(W.drop (i+1)).drop (j+1):=by rw [hU,hV]
   have eU:(Uv W).drop (i+j+2)=Uv U:=by rw [hdr,hU,hV,Ju]; congr 2; omega
   have hUr:=Gu U;rw [<-LR W x y i j];refine go tt [.T,.x (Tr hy),.r 61 (eI (b:=((i+j+2:Nat):Int)) (by omega)),.i (i+j+2),.r 62 (UU eU)] rfl (by simp only [Uw]; (repeat' apply And.intro) <;> first | omega | exact hel) ?_;refine Uh (S:=Nat) 6 (λL1 k=>(64,.v (.oi k))::(6,.v (.one (.orow 2 7 none)))::L1) (λk=>[.blk 205 (Hn c (Uv l) r1),.blk 189 (ta a),.row false 136 7 (Fg ((qT W x y i j k).map (PG sg'))),.mpb (Aq (ZF sg' (qT W x y i j k))),.blk 38 (U5 x),.blk 38 (U5 y)]) (λk=>U.length-k) (λk=>k<=U.length) 0 (Qh _) rfl rfl λk hk=>?_
   by_cases hltk:k<U.length
   ·obtain ⟨z,hz⟩:=gxE (l:=U) (i:=k) hltk;have zm:=hUm z (Qa hz);have hlen:=iD hW6 (k:=k) hx hy';have en:=LH (x:=x) (y:=y) (by rw [<-hUW]; exact hz);have et:=dH sg' (qT W x y i j k) (x,y,z);rw [<-en] at et;refine go tt [.T,.x (Tr hz),.k (mR xm ym zm),.s (sz:=7) (s7 _)] rfl (by simp [Uw,Nk] <;> omega) ?_;exact rd (k+1) (by omega) hltk (by rw [et,en,Yf]; simp [Fg]; rfl)
   ·have e:=yD (x:=x) (k:=k) hy' (by rw [<-hUW]; omega);rw [e];refine go tt [.F] rfl (by simp [Uw] <;> omega) ?_;exact rd (j+1) (by omega) hltj rfl
  ·have e:=yC (x:=x) (j:=j) hx (by rw [<-hV]; omega);rw [e];refine go tt [.F] rfl (by simp [Uw] <;> omega) ?_;exact rd (i+1) (by omega) hlt rfl
 rw [Qai (show i=W.length by omega),<-hT];have hiW:¬i<W.length:=hlt;clear hlt;obtain ⟨C3,hC3⟩:=nmE ((Hl W).map (PG sg'));have hC3l:C3.length<=20:=by rw [hC3,Q8]; exact (YP hW6).1
 rw [<-hC3];refine Uc [.F] rfl ?_;have eC:Fg C3=Fg (C3++(Db 0 W).map (HU sg')):=by rw [show Db 0 W=[] from rfl,Jb,Zv]
 rw [eC];refine Uh (S:=Nat) 5 (λL1 i=>(97,.v (.oi i))::(6,.v (.one (.orow 2 7 none)))::L1) (λi=>[.blk 205 (Hn c (Uv l) r1),.blk 189 (ta a),.row false 136 7 (Fg (C3++(Db i W).map (HU sg'))),.mpb T,.mpb (I5 T (VV sg' (Db i W)))]) (λi=>W.length-i) (λi=>i<=W.length) 0 (Qh _) rfl rfl λi hi=>?_
 by_cases hlt:i<W.length
 ·obtain ⟨x,hx⟩:=gxE (l:=W) (i:=i) hlt;have xm:=Qa hx;obtain ⟨V,hV⟩:=nmE (W.drop (i+1));have hVl:V.length=W.length-(i+1):=by rw [hV,Q9]
  have hVm:∀ p∈V,p∈W:=λp hp=>by rw [hV] at hp; exact Q0 hp
  have eV:(Uv W).drop (i+1)=Uv V:=by rw [hdr,<-hV]
  have hVr:=Gu V;rw [<-Qi7 W x i];refine go tt [.T,.x (Tr hx),.r 104 (eI (b:=((i+1:Nat):Int)) (by omega)),.i (i+1),.r 105 (UU eV)] rfl (by simp only [Uw]; (repeat' apply And.intro) <;> first | omega | exact hel) ?_;refine Uh (S:=Nat) 6 (λL1 j=>(107,.v (.oi j))::(6,.v (.one (.orow 2 7 none)))::L1) (λj=>[.blk 205 (Hn c (Uv l) r1),.blk 189 (ta a),.row false 136 7 (Fg (C3++(p4j W x i j).map (HU sg'))),.mpb T,.mpb (I5 T (VV sg' (p4j W x i j))),.blk 38 (U5 x)]) (λj=>V.length-j) (λj=>j<=V.length) 0 (Qh _) rfl rfl λj hj=>?_
  by_cases hltj:j<V.length
  ·obtain ⟨y,hy⟩:=gxE (l:=V) (i:=j) hltj;have ym:=hVm y (Qa hy);have hy':(W.drop (i+1))[j]? = some y:=by rw [<-hV]; exact hy
   obtain ⟨U,hU⟩:=nmE (V.drop (j+1));have hUl:U.length=V.length-(j+1):=by rw [hU,Q9]
   have hUm:∀ p∈U,p∈W:=λp hp=>by rw [hU] at hp; exact hVm p (Q0 hp)
   have hUW:U=(W.drop (i+1)).drop (j+1):=by rw [hU,hV]
   have eU:(Uv W).drop (i+j+2)=Uv U:=by rw [hdr,hU,hV,Ju]; congr 2; omega
   have hUr:=Gu U;rw [<-Qi8 W x y i j];refine go tt [.T,.x (Tr hy),.r 116 (eI (b:=((i+j+2:Nat):Int)) (by omega)),.i (i+j+2),.r 117 (UU eU)] rfl (by simp only [Uw]; (repeat' apply And.intro) <;> first | omega | exact hel) ?_;refine Uh (S:=Nat) 7 (λL1 k=>(119,.v (.oi k))::(6,.v (.one (.orow 2 7 none)))::L1) (λk=>[.blk 205 (Hn c (Uv l) r1),.blk 189 (ta a),.row false 136 7 (Fg (C3++(p4k W x y i j k).map (HU sg'))),.mpb T,.mpb (I5 T (VV sg' (p4k W x y i j k))),.blk 38 (U5 x),.blk 38 (U5 y)]) (λk=>U.length-k) (λk=>k<=U.length) 0 (Qh _) rfl rfl λk hk=>?_
   by_cases hltk:k<U.length
   ·obtain ⟨z,hz⟩:=gxE (l:=U) (i:=k) hltk;have zm:=hUm z (Qa hz);have hz':((W.drop (i+1)).drop (j+1))[k]? = some z:=by rw [<-hUW]; exact hz
    obtain ⟨R,hR⟩:=nmE (U.drop (k+1));have hRl:R.length=U.length-(k+1):=by rw [hR,Q9]
    have hRm:∀ p∈R,p∈W:=λp hp=>by rw [hR] at hp; exact hUm p (Q0 hp)
    have hRW:R=((W.drop (i+1)).drop (j+1)).drop (k+1):=by rw [hR,hUW]
    have eR:(Uv W).drop (i+j+k+3)=Uv R:=by rw [hdr,hRW,Ju,Ju]; congr 2; omega
    have hRr:=Gu R;rw [<-Qja W x y z i j k];refine go tt [.T,.x (Tr hz),.r 130 (eI (b:=((i+j+k+3:Nat):Int)) (by omega)),.i (i+j+k+3),.r 131 (UU eR)] rfl (by simp only [Uw]; (repeat' apply And.intro) <;> first | omega | exact hel) ?_;refine Uh (S:=Nat) 8 (λL1 m=>(133,.v (.oi m))::(6,.v (.one (.orow 2 7 none)))::L1) (λm=>[.blk 205 (Hn c (Uv l) r1),.blk 189 (ta a),.row false 136 7 (Fg (C3++(p4m W x y z i j k m).map (HU sg'))),.mpb T,.mpb (I5 T (VV sg' (p4m W x y z i j k m))),.blk 38 (U5 x),.blk 38 (U5 y),.blk 38 (U5 z)]) (λm=>R.length-m) (λm=>m<=R.length) 0 (Qh _) rfl rfl λm hm=>?_
    by_cases hltm:m<R.length
    ·obtain ⟨u,hu⟩:=gxE (l:=R) (i:=m) hltm;have um:=hRm u (Qa hu);have hlen:=Qpe hW6 (m:=m) hx hy' hz';have en:=Qi9 (x:=x) (y:=y) (z:=z) (by rw [<-hRW]; exact hu);have et:=nQ sg' T (p4m W x y z i j k m) (x,y,z,u);rw [<-en] at et;have cf:=Qtu (F:=I5 T (VV sg' (p4m W x y z i j k m))) (s:=(qK sg' x y z u).want) (n0:=x.id) (n1:=y.id) (n2:=z.id) (n3:=u.id) hTI (hgb _);refine go tt [.T,.x (Tr hu),.k (mC xm ym zm um),.s (sz:=7) (s7 _),.c [4,3] cf] rfl (by simp [Uw,Nk] <;> omega) ?_;exact rd (m+1) (by omega) hltm (by rw [et,en,Yf,<-Ze]; simp [Fg]; rfl)
    ·have e:=Qpd (x:=x) (y:=y) (m:=m) hz' (by rw [<-hRW]; omega);rw [e];refine go tt [.F] rfl (by simp [Uw] <;> omega) ?_;exact rd (k+1) (by omega) hltk rfl
   ·have e:=Qpc (x:=x) (k:=k) hy' (by rw [<-hUW]; omega);rw [e];refine go tt [.F] rfl (by simp [Uw] <;> omega) ?_;exact rd (j+1) (by omega) hltj rfl
  ·have e:=Qpb (x:=x) (j:=j) hx (by rw [<-hV]; omega);rw [e];refine go tt [.F] rfl (by simp [Uw] <;> omega) ?_;exact rd (i+1) (by omega) hlt rfl
 rw [Qpt (show i=W.length by omega),<-hG];obtain ⟨C4,hC4⟩:=nmE (C3++(Al W).map (HU sg'));rw [<-hC4];refine Uc [.F] rfl ?_;refine ozM 0 13 69 3 rfl rfl ?_;have eT:([]:Ur)=WG ((Ch 0 W).filter (jL T G)):=rfl;rw [eT];refine Uh (S:=Nat) 6 (λL1 i=>(174,.v (.oi i))::L1) (λi=>[.blk 205 [.bool true,pl c.now.p,sg c.now.lo.num,mg c.now.lo.num,sg (c.now.lo.den:Int),mg (c.now.lo.den:Int),sg c.now.hi.num,mg c.now.hi.num,sg (c.now.hi.den:Int),mg (c.now.hi.den:Int),.row (Co c.l),.int .i64 c.ev,.row (Uv l),.orow 5 3 none],.blk 189 (ta a),.row false 136 7 (Fg C4),.mpb T,.mpb G,.row false 69 3 (WG ((Ch i W).filter (jL T G)))]) (λi=>W.length-i) (λi=>i<=W.length) 0 (Qh _) rfl rfl λi hi=>?_
 by_cases hlt:i<W.length
 ·obtain ⟨x,hx⟩:=gxE (l:=W) (i:=i) hlt;obtain ⟨V,hV⟩:=nmE (W.drop (i+1));have hVl:V.length=W.length-(i+1):=by rw [hV,Q9]
  have eV:(Uv W).drop (i+1)=Uv V:=by rw [hdr,<-hV]
  have hVr:=Gu V;rw [<-LG W x i];refine go tt [.T,.x (Tr hx),.r 181 (eI (b:=((i+1:Nat):Int)) (by omega)),.i (i+1),.r 182 (UU eV)] rfl (by simp only [Uw]; (repeat' apply And.intro) <;> first | omega | exact hel) ?_;refine Uh (S:=Nat) 7 (λL1 j=>(184,.v (.oi j))::L1) (λj=>[.blk 205 [.bool true,pl c.now.p,sg c.now.lo.num,mg c.now.lo.num,sg (c.now.lo.den:Int),mg (c.now.lo.den:Int),sg c.now.hi.num,mg c.now.hi.num,sg (c.now.hi.den:Int),mg (c.now.hi.den:Int),.row (Co c.l),.int .i64 c.ev,.row (Uv l),.orow 5 3 none],.blk 189 (ta a),.row false 136 7 (Fg C4),.mpb T,.mpb G,.row false 69 3 (WG ((p3j W x i j).filter (jL T G))),.blk 38 (U5 x)]) (λj=>V.length-j) (λj=>j<=V.length) 0 (Qh _) rfl rfl λj hj=>?_
  by_cases hltj:j<V.length
  ·obtain ⟨y,hy⟩:=gxE (l:=V) (i:=j) hltj;have hy':(W.drop (i+1))[j]? = some y:=by rw [<-hV]; exact hy
   obtain ⟨U,hU⟩:=nmE (V.drop (j+1));have hUl:U.length=V.length-(j+1):=by rw [hU,Q9]
   have hUW:U=(W.drop (i+1)).drop (j+1):=by rw [hU,hV]
   have eU:(Uv W).drop (i+j+2)=Uv U:=by rw [hdr,hU,hV,Ju]; congr 2; omega
   have hUr:=Gu U;rw [<-LR W x y i j];refine go tt [.T,.x (Tr hy),.r 193 (eI (b:=((i+j+2:Nat):Int)) (by omega)),.i (i+j+2),.r 194 (UU eU)] rfl (by simp only [Uw]; (repeat' apply And.intro) <;> first | omega | exact hel) ?_;refine Uh (S:=Nat) 8 (λL1 k=>(196,.v (.oi k))::L1) (λk=>[.blk 205 [.bool true,pl c.now.p,sg c.now.lo.num,mg c.now.lo.num,sg (c.now.lo.den:Int),mg (c.now.lo.den:Int),sg c.now.hi.num,mg c.now.hi.num,sg (c.now.hi.den:Int),mg (c.now.hi.den:Int),.row (Co c.l),.int .i64 c.ev,.row (Uv l),.orow 5 3 none],.blk 189 (ta a),.row false 136 7 (Fg C4),.mpb T,.mpb G,.row false 69 3 (WG ((qT W x y i j k).filter (jL T G))),.blk 38 (U5 x),.blk 38 (U5 y)]) (λk=>U.length-k) (λk=>k<=U.length) 0 (Qh _) rfl rfl λk hk=>?_
   by_cases hltk:k<U.length
   ·obtain ⟨z,hz⟩:=gxE (l:=U) (i:=k) hltk;have hlen:=iD hW6 (k:=k) hx hy';have en:=LH (x:=x) (y:=y) (by rw [<-hUW]; exact hz);have hfl:=Yy (jL T G) (qT W x y i j k);have htl:=sW ((qT W x y i j k).filter (jL T G));by_cases h1:ZW T [x.id,y.id,z.id]≠0
    ·by_cases h2:NB G [x.id,y.id,z.id]=true
     ·have ef:jL T G (x,y,z)=false:=by unfold jL nF; simp [h2]
      have eF:=Qha (ps:=qT W x y i j k) ef;rw [<-en] at eF;refine go tt [.T,.x (Tr hz),.g 211 true (decide_eq_true h1),.f (by rw [h2]; rfl)] rfl (by simp only [Uw]; (repeat' apply And.intro) <;> first | exact hTm | exact hGB | omega | (simp only [Q4,Jy]; omega)) ?_;exact rd (k+1) (by omega) hltk (by rw [eF]; rfl)
     ·have h2:NB G [x.id,y.id,z.id]=false:=by simpa using h2
      have ef:jL T G (x,y,z)=true:=by unfold jL nF; simp [h2,h1]
      have eF:=Qur (ps:=qT W x y i j k) ef;rw [<-en] at eF;refine go tt [.T,.x (Tr hz),.g 211 true (decide_eq_true h1),.t (by rw [h2]; rfl),.s (sz:=3) (s3 (x,y,z))] rfl (by simp only [Uw]; (repeat' apply And.intro) <;> first | exact hTm | exact hGB | omega | (simp only [Q4,Jy]; omega)) ?_;exact rd (k+1) (by omega) hltk (by rw [eF]; simp [WG]; rfl)
    ·have ef:jL T G (x,y,z)=false:=by unfold jL nF; simp [h1]
     have eF:=Qha (ps:=qT W x y i j k) ef;rw [<-en] at eF;refine go tt [.T,.x (Tr hz),.g 211 false (decide_eq_false h1),.f rfl] rfl (by simp only [Uw]; (repeat' apply And.intro) <;> first | exact hTm | exact hGB | omega | (simp only [Q4,Jy]; omega)) ?_;exact rd (k+1) (by omega) hltk (by rw [eF]; rfl)
   ·have e:=yD (x:=x) (k:=k) hy' (by rw [<-hUW]; omega);rw [e];refine go tt [.F] rfl (by simp [Uw] <;> omega) ?_;exact rd (j+1) (by omega) hltj rfl
  ·have e:=yC (x:=x) (j:=j) hx (by rw [<-hV]; omega);rw [e];refine go tt [.F] rfl (by simp [Uw] <;> omega) ?_;exact rd (i+1) (by omega) hlt rfl
 rw [Qai (show i=W.length by omega)];rw [hC4,hC3];exact Ug [2,5] [0] [.F] rfl
theorem Qxj {T:Nat} {t:Rat} {Bc:Tm->List Ct} {Br:Tm->Ur} {r0:Ur} (ht:Qs 1640000 t) (hB:BuildOk Bc)
 (hb:∀ a c r1,Va a->CrOk c->Uz prog 131 [.one (.ow 0 0),.agg (ta a)] [.blk T (Hn c r0 r1)] [.one (.row (Fg (Bc a)))] [.blk T (Hn c r0 (Br a))])
 {K:Nat} {c c':Cr} {r1 r1':Ur} {n:Int} (hc:CrOk c) (hev:0<=c.ev/\c.ev+K<=1000000000000000000) (h:Ff c.now t<=0) (hg:WS Bc Br t K c r1 0=some (c',r1',n)) :
 Uz prog 366 [.one (.ow 0 0),.agg (rl t),.one (.ofn 131 [.ow 0 0] [])] [.blk T (Hn c r0 r1)] [.oi n,.oi 0] [.blk T (Hn c' r0 r1')]:=by
 have qt:Qb t:=ht.mono (by decide);have c1:=C0 hc.n.tb qt;refine Fw func366 rfl ?_;refine Uc [.c [0] (O8 hc.n),.k c1,.f (by simpa using h)] rfl ?_;refine Uh (S:=Nat×Cr×Ur×Int) 2 (λL1 s=>(8,.v (.oi s.2.2.2))::L1) (λs=>[.blk T (Hn s.2.1 r0 s.2.2.1),.blk 40 (rl t)]) (λs=>s.1) (λs=>CrOk s.2.1/\(0<=s.2.1.ev/\s.2.1.ev+s.1<=1000000000000000000)/\(0<=s.2.2.2/\s.2.2.2+s.1<=1000000000000000000)/\WS Bc Br t s.1 s.2.1 s.2.2.1 s.2.2.2=some (c',r1',n)) (K,c,r1,0) ⟨hc,hev,⟨Int.le_refl 0,by dsimp only; omega⟩,hg⟩ rfl rfl λ⟨k,x,r,m⟩ ⟨j1,j2,j3,j4⟩=>?_
 dsimp only at j1 j2 j3 j4 ⊢;cases k with
 | zero=>cases j4
 |
  succ k =>
  simp only [WS] at j4;obtain ⟨ws,w1,j4⟩:=Qd.1 j4;obtain ⟨o,o1,j4⟩:=Qd.1 j4;have cn:=PC (T:=T) (r0:=r0) (r1:=r) j1 w1 o1;have ca:=VG (Uy t.num) (Uy (t.den:Int)) (Qc ht.1 (by decide)) (Qc ht.2 (by decide)) (by rw [Pa]; exact ht.mono (by decide));rw [Pa] at ca;cases o with
  |
   none =>
   injection j4 with j4; injection j4 with e1 j4; injection j4 with e2 e3;subst e1; subst e2; subst e3;exact Ug [] [0] [.c [0] cn,.g 25 true rfl,.t rfl,.k ca] rfl
  |
   some a =>
   have ha:=LK j1 w1 o1;dsimp only at j4;have cc:=C0 ha.tb qt;by_cases h0:0<Ff a t
   ·rw [if_pos h0] at j4;injection j4 with j4; injection j4 with e1 j4; injection j4 with e2 e3;subst e1; subst e2; subst e3;exact Ug [] [0] [.c [0] cn,.g 25 false rfl,.k cc,.t (by simpa using h0),.k ca] rfl
   ·rw [if_neg h0] at j4;obtain ⟨w2,l1,j4⟩:=Qd.1 j4;have j1':=L9 j1 w1;have cl:=Sy (b:=a) (l:=[]) ha.tb (λt ht=>by cases ht) (by decide) rfl;have cb:=hb a { x with l:=ws } r ha j1';have cy:=WE (T:=T) (r0:=r0) (r1:=Br a) j1' ha (hB.p a ha) (hB.n a ha) l1;have hf:decide (0<Ff a t)=false:=by simpa using h0
    refine Ud [.c [0] cn,.g 25 false rfl,.k cc,.f hf,.k cl,.c [0] cb,.c [0] cy] rfl ?_;exact rd (k,⟨a,w2,x.ev+1⟩,Br a,m+1) (by dsimp only; omega) ⟨lay_ok _ j1' ha (hB.p a ha) (hB.n a ha) l1,by dsimp only; omega,by dsimp only; omega,j4⟩ rfl
theorem Qs9 {t:Rat} {l:List Pt} {K:Nat} {c c':Cr} {r1 r1':Ur} {n:Int} (ht:Qs 1640000 t) (hl:∀ p∈l,Sc p.c) (hn:l.length≤6) (hc:CrOk c) (hev:0≤c.ev/\c.ev+K≤1000000000000000000) (h:Ff c.now t≤0) (hg:WS (NH l) (pR l) t K c r1 0=some (c',r1',n)) :
 Uz prog 403 [.one (.ow 0 0),.agg (rl t)] [.blk 205 (Hn c (Uv l) r1)] [.oi n,.oi 0] [.blk 205 (Hn c' (Uv l) r1')]:=by
 have cg:=Qxj (T:=205) (r0:=Uv l) ht (pZ hl hn) (λa c r1 ha _=>IV (c:=c) (r1:=r1) hl hn ha) hc hev h hg;refine Fw func403 rfl ?_;exact Ug [] [0] [.k (Bu (ht.mono (by decide))),.c [0] cg] rfl
theorem pN {c:Cr} {r0:Ur} {ts:List P3} (ht:ts.length<=1000):Uz prog 65 [.one (.ow 0 0)] [.blk 205 (Hn c r0 (WG ts))] [.one (.row (WG ts))] [.blk 205 (Hn c r0 (WG ts))]:=by
 have hl:=sW ts;have h3:∀ y∈WG ts,y.length=3:=λy hy=>by obtain ⟨m,_,rfl⟩:=Q6.1 hy; rfl
 refine Fw func65 rfl ?_;exact Ug [1] [0] [.s (sz:=3) h3] rfl (by simp [Uw] <;> omega)

theorem ND {c:Cr} {l l':List Pt} {r1:Ur} {ws:List Wt} (hc:CrOk c) (hl:∀ p∈l',Sc p.c) (hn:l'.length≤6) (h:Rz c.l c.now (Fp (NH l' c.now))=some ws) :
 Uz prog 407 [.one (.ow 0 0),.agg [pts l'],.oi 0] [.blk 205 (Hn c (Uv l) r1)] [.oi 0] [.blk 205 (Hn ⟨c.now,ws,c.ev⟩ (Uv l') (pR l' c.now))]:=by
 have hB:=pZ hl hn;have cn:=O8 (T:=205) (c:=c) (r0:=Uv l') (r1:=r1) hc.n;have cb:=IV (c:=c) (r1:=r1) hl hn hc.n;have cg:=JB (T:=205) (r0:=Uv l') (r1:=pR l' c.now) hc hc.n (Ix hc.n) (J3 0) (hB.p _ hc.n) (hB.n _ hc.n) h;refine Fw func407 rfl ?_;exact Ug [] [0] [.f rfl,.c [0] cn,.c [0] cb,.c [0] cg] rfl
theorem Qmn {lx ly:Ur} {px py:Ul} {x y:LV} {d id:Int} {c:Cr} {l:List Pt} {r1:Ur} {ws:List Wt} (hx:IsInts lx px) (hy:IsInts ly py) (hd:Gj x y d) (hk:Cs 4294967294 1073741824 (Crv.mk px py d)) (hll:l.length<=900)
 (he:WQ l ⟨Crv.norm (Crv.mk px py d),id⟩=0) (hc:CrOk c) (hl:∀ p∈put l ⟨Crv.norm (Crv.mk px py d),id⟩,Sc p.c) (hn:(put l ⟨Crv.norm (Crv.mk px py d),id⟩).length≤6) (h:Rz c.l c.now (Fp (NH (put l ⟨Crv.norm (Crv.mk px py d),id⟩) c.now))=some ws) :
 Uz prog 405 [.one (.ow 0 0),.agg [.row lx,.row ly,x,y,.int .i64 id]] [.blk 205 (Hn c (Uv l) r1)] [.oi 0] [.blk 205 (Hn ⟨c.now,ws,c.ev⟩ (Uv (put l ⟨Crv.norm (Crv.mk px py d),id⟩)) (pR (put l ⟨Crv.norm (Crv.mk px py d),id⟩) c.now))]:=by
 have cp:=wR (l:=l) (id:=id) hx hy hd hk (by omega);rw [if_pos he,he] at cp;have cw:=ND (l:=l) (r1:=r1) hc hl hn h;refine Fw func405 rfl ?_;obtain ⟨b,l',rfl,rfl,_⟩:=hd;exact Ug [] [0] [.k cp,.c [0] cw] rfl
theorem Qed {lx ly:Ur} {px py:Ul} {x y:LV} {d id:Int} {c:Cr} {l l':List Pt} {r1:Ur} {ws:List Wt} (hx:IsInts lx px) (hy:IsInts ly py) (hd:Gj x y d) (hk:Cs 4294967294 1073741824 (Crv.mk px py d)) (hll:l.length<=6) (h:has l id=true) (hc:CrOk c)
 (hl':l'=l.set (Ro l id) (Pt.mk (Crv.norm (Crv.mk px py d)) id)) (hs:∀ p∈l',Sc p.c) (hw:Rz c.l c.now (Fp (NH l' c.now))=some ws) :
 Uz prog 406 [.one (.ow 0 0),.agg [.row lx,.row ly,x,y,.int .i64 id]] [.blk 205 (Hn c (Uv l) r1)] [.oi 0] [.blk 205 (Hn ⟨c.now,ws,c.ev⟩ (Uv l') (pR l' c.now))]:=by
 have ct1:=UQ (l:=l) hx hy hd hk (by omega) h;rw [<-hl'] at ct1;have cw:=ND (c:=c) (l:=l) (l':=l') (r1:=r1) hc hs (by rw [hl',Xf]; omega) hw;obtain ⟨b,r,rfl,rfl,_⟩:=hd;refine Fw func406 rfl ?_;exact Ug [] [0] [.k ct1,.c [0] cw] rfl
theorem Qec {id:Int} {c:Cr} {l l':List Pt} {r1:Ur} {ws:List Wt} (hll:l.length<=6) (h:has l id=true) (hc:CrOk c)
 (hl':l'=l.take (Ro l id)++l.drop (Ro l id+1)) (hs:∀ p∈l',Sc p.c) (hw:Rz c.l c.now (Fp (NH l' c.now))=some ws) :
 Uz prog 404 [.one (.ow 0 0),.oi id] [.blk 205 (Hn c (Uv l) r1)] [.oi 0] [.blk 205 (Hn ⟨c.now,ws,c.ev⟩ (Uv l') (pR l' c.now))]:=by
 have ct1:=WI (l:=l) (id:=id) (by omega) h;rw [<-hl'] at ct1;have cw:=ND (c:=c) (l:=l) (l':=l') (r1:=r1) hc hs (by rw [hl',Qu,Qr,Q9]; omega) hw;refine Fw func404 rfl ?_;exact Ug [] [0] [.k ct1,.c [0] cw] rfl
theorem Qm2 {lx ly:Ur} {px py:Ul} {x y:LV} {d id:Int} {c:Cr} {l l':List Pt} {r1:Ur} {ws:List Wt} (hx:IsInts lx px) (hy:IsInts ly py) (hd:Gj x y d) (hk:Cs 4294967294 1073741824 (Crv.mk px py d)) (hll:l.length<=900) (h:has l id=true) (hc:CrOk c)
 (hl':l'=l.set (Ro l id) (Pt.mk (Crv.norm (Crv.mk px py d)) id)) (hs:∀ p∈l',Sc p.c) (hw:Rz c.l c.now (Fp (O2 l' c.now))=some ws) :
 Uz prog 364 [.one (.ow 0 0),.agg [.row lx,.row ly,x,y,.int .i64 id]] [.blk 196 (Hn c (Uv l) r1)] [.oi 0] [.blk 196 (Hn ⟨c.now,ws,c.ev⟩ (Uv l') (IJ l' c.now))]:=by
 have ct1:=UQ (l:=l) hx hy hd hk (by omega) h;rw [<-hl'] at ct1;have cw:=xP (c:=c) (l:=l) (l':=l') (r1:=r1) hc hs (by rw [hl',Xf]; omega) hw;obtain ⟨b,r,rfl,rfl,_⟩:=hd;refine Fw func364 rfl ?_;exact Ug [] [0] [.k ct1,.c [0] cw] rfl
theorem Qm0 {id:Int} {c:Cr} {l l':List Pt} {r1:Ur} {ws:List Wt} (hll:l.length<=900) (h:has l id=true) (hc:CrOk c)
 (hl':l'=l.take (Ro l id)++l.drop (Ro l id+1)) (hs:∀ p∈l',Sc p.c) (hw:Rz c.l c.now (Fp (O2 l' c.now))=some ws) :
 Uz prog 361 [.one (.ow 0 0),.oi id] [.blk 196 (Hn c (Uv l) r1)] [.oi 0] [.blk 196 (Hn ⟨c.now,ws,c.ev⟩ (Uv l') (IJ l' c.now))]:=by
 have ct1:=WI (l:=l) (id:=id) (by omega) h;rw [<-hl'] at ct1;have cw:=xP (c:=c) (l:=l) (l':=l') (r1:=r1) hc hs (by rw [hl',Qu,Qr,Q9]; omega) hw;refine Fw func361 rfl ?_;exact Ug [] [0] [.k ct1,.c [0] cw] rfl
theorem Qxk {T:Nat} {t:Rat} {Bc:Tm->List Ct} {Br:Tm->Ur} {r0:Ur} (ht:Qs 1640000 t) (hB:BuildOk Bc)
 (hb:∀ a c r1,Va a->CrOk c->Uz prog 129 [.one (.ow 0 0),.agg (ta a)] [.blk T (Hn c r0 r1)] [.one (.row (Fg (Bc a)))] [.blk T (Hn c r0 (Br a))])
 {K:Nat} {c c':Cr} {r1 r1':Ur} {n:Int} (hc:CrOk c) (hev:0<=c.ev/\c.ev+K<=1000000000000000000) (h:Ff c.now t<=0) (hg:WS Bc Br t K c r1 0=some (c',r1',n)) :
 Uz prog 366 [.one (.ow 0 0),.agg (rl t),.one (.ofn 129 [.ow 0 0] [])] [.blk T (Hn c r0 r1)] [.oi n,.oi 0] [.blk T (Hn c' r0 r1')]:=by
 have qt:Qb t:=ht.mono (by decide);have c1:=C0 hc.n.tb qt;refine Fw func366 rfl ?_;refine Uc [.c [0] (O8 hc.n),.k c1,.f (by simpa using h)] rfl ?_;refine Uh (S:=Nat×Cr×Ur×Int) 2 (λL1 s=>(8,.v (.oi s.2.2.2))::L1) (λs=>[.blk T (Hn s.2.1 r0 s.2.2.1),.blk 40 (rl t)]) (λs=>s.1) (λs=>CrOk s.2.1/\(0<=s.2.1.ev/\s.2.1.ev+s.1<=1000000000000000000)/\(0<=s.2.2.2/\s.2.2.2+s.1<=1000000000000000000)/\WS Bc Br t s.1 s.2.1 s.2.2.1 s.2.2.2=some (c',r1',n)) (K,c,r1,0) ⟨hc,hev,⟨Int.le_refl 0,by dsimp only; omega⟩,hg⟩ rfl rfl λ⟨k,x,r,m⟩ ⟨j1,j2,j3,j4⟩=>?_
 dsimp only at j1 j2 j3 j4 ⊢;cases k with
 | zero=>cases j4
 |
  succ k =>
  simp only [WS] at j4;obtain ⟨ws,w1,j4⟩:=Qd.1 j4;obtain ⟨o,o1,j4⟩:=Qd.1 j4;have cn:=PC (T:=T) (r0:=r0) (r1:=r) j1 w1 o1;have ca:=VG (Uy t.num) (Uy (t.den:Int)) (Qc ht.1 (by decide)) (Qc ht.2 (by decide)) (by rw [Pa]; exact ht.mono (by decide));rw [Pa] at ca;cases o with
  |
   none =>
   injection j4 with j4; injection j4 with e1 j4; injection j4 with e2 e3;subst e1; subst e2; subst e3;exact Ug [] [0] [.c [0] cn,.g 25 true rfl,.t rfl,.k ca] rfl
  |
   some a =>
   have ha:=LK j1 w1 o1;dsimp only at j4;have cc:=C0 ha.tb qt;by_cases h0:0<Ff a t
   ·rw [if_pos h0] at j4;injection j4 with j4; injection j4 with e1 j4; injection j4 with e2 e3;subst e1; subst e2; subst e3;exact Ug [] [0] [.c [0] cn,.g 25 false rfl,.k cc,.t (by simpa using h0),.k ca] rfl
   ·rw [if_neg h0] at j4;obtain ⟨w2,l1,j4⟩:=Qd.1 j4;have j1':=L9 j1 w1;have cl:=Sy (b:=a) (l:=[]) ha.tb (λt ht=>by cases ht) (by decide) rfl;have cb:=hb a { x with l:=ws } r ha j1';have cy:=WE (T:=T) (r0:=r0) (r1:=Br a) j1' ha (hB.p a ha) (hB.n a ha) l1;have hf:decide (0<Ff a t)=false:=by simpa using h0
    refine Ud [.c [0] cn,.g 25 false rfl,.k cc,.f hf,.k cl,.c [0] cb,.c [0] cy] rfl ?_;exact rd (k,⟨a,w2,x.ev+1⟩,Br a,m+1) (by dsimp only; omega) ⟨lay_ok _ j1' ha (hB.p a ha) (hB.n a ha) l1,by dsimp only; omega,by dsimp only; omega,j4⟩ rfl
def Qw9 (l:List Pt) (a:Tm):Cr:=⟨a,(Fp (GO l a)).map fresh,0⟩
theorem Qtb {t:Rat} {l:List Pt} {K:Nat} {c c':Cr} {r1 r1':Ur} {n:Int} (ht:Qs 1640000 t) (hl:∀ p∈l,Sc p.c) (hn:l.length≤10) (hc:CrOk c) (hev:0≤c.ev/\c.ev+K≤1000000000000000000) (h:Ff c.now t≤0) (hg:WS (GO l) (brH l) t K c r1 0=some (c',r1',n)) :
 Uz prog 393 [.one (.ow 0 0),.agg (rl t)] [.blk 201 (Hn c (Uv l) r1)] [.oi n,.oi 0] [.blk 201 (Hn c' (Uv l) r1')]:=by
 have cg:=Qxk (T:=201) (r0:=Uv l) ht (pX hl hn) (λa c r1 ha _=>IK (c:=c) (r1:=r1) hl hn ha) hc hev h hg;refine Fw func393 rfl ?_;exact Ug [] [0] [.k (Bu (ht.mono (by decide))),.c [0] cg] rfl
theorem Qtc {c:Cr} {l s:List Pt} (hs:s.length<=1000000):Uz prog 64 [.one (.ow 0 0)] [.blk 201 (Hn c (Uv l) (Uv s))] [.one (ids (s.map (·.id)))] [.blk 201 (Hn c (Uv l) (Uv s))]:=by
 have hcl:=Gu s;refine Fw func64 rfl ?_;refine Uc [.o 3 3 1] rfl ?_;refine Uh (S:=Nat) 2 (λL1 i=>(11,.v (.oi i))::(3,.v (.one (.orow 1 1 none)))::L1) (λi=>[.blk 201 (Hn c (Uv l) (Uv s)),.row false 3 1 (((s.take i).map (·.id)).map λ(z:Int)=>[LV.int .i64 z])]) (λi=>s.length-i) (λi=>i<=s.length) 0 (Qh _) rfl rfl λi hi=>?_
 by_cases hlt:i<s.length
 ·obtain ⟨p,hp⟩:=gxE (l:=s) (i:=i) hlt;have hg:(((s.take (i+1)).map (·.id)).map λ(z:Int)=>[LV.int .i64 z])=(((s.take i).map (·.id)).map λ(z:Int)=>[LV.int .i64 z])++[[.int .i64 p.id]]:=by
   rw [Z3,hp]; simp
  refine Ud [.t (by simp [hcl]; omega),.x (Sp hp),.s (sz:=1) (l:=[[.int .i64 p.id]]) (λc hc=>by rw [Qk.1 hc]; rfl)] rfl ?_;exact rd (i+1) (by omega) hlt (by rw [hg]; rfl)
 ·obtain rfl:i=s.length:=by omega
  rw [Q7];exact Ug [1] [0] [.f (by simp [hcl])] rfl
abbrev CS (k:Nat) (np nd:Int) (M:List Pt) (q:Rat) (s t h p d:Cr):Us:=[.blk 90 (enR k q),tB np nd M,bS s M q,bT t M q,bH h M q,bP p M q,bD d M q]
abbrev Qz5 (k:Nat):Uq:=[.oif 84 (k+2) 0,.oif 85 (k+3) 0,.oif 86 (k+4) 0,.oif 87 (k+5) 0,.oif 88 (k+6) 0]
theorem wS {np nd:Int} {Mt M:List Pt} {q:Rat} {s t h p d:Cr}:Uz prog 47 [.one (.ow 0 0)] [.blk 90 (enR 0 q),tB np nd Mt,bS s M q,bT t M q,bH h M q,bP p M q,bD d M q] [.agg (Qz5 0)] [.blk 90 (enR 0 q),tB np nd Mt,bS s M q,bT t M q,bH h M q,bP p M q,bD d M q]:=by
 refine Fw func47 rfl ?_;exact Ug [] [0,1,2,3,4,5,6] [] rfl
abbrev zM (k i:Nat) (a b:OB):OB:=match Nat.blt k i with
 | true=>b
 | false=>a
theorem Qem {np nd id:Int} {M M':List Pt} {q:Rat} {s t h p d s' t' h' p' d':Cr} {lx ly l3:Ur} {bn:Bool} {e1 e2 e3 e4 e5:Int}
 (ht:Uz prog 70 [.one (.ow 0 0),.agg [.row lx,.row ly,.bool bn,.row l3,.int .i64 id]] [tB np nd M] [.oi 0] [tB np nd M'])
 (h1:Uz prog 363 [.one (.ow 0 0),.agg [.row lx,.row ly,.bool bn,.row l3,.int .i64 id]] [bS s M q] [.oi e1] [bS s' M' q])
 (h2:Uz prog 390 [.one (.ow 0 0),.agg [.row lx,.row ly,.bool bn,.row l3,.int .i64 id]] [bT t M q] [.oi e2] [bT t' M' q])
 (h3:Uz prog 395 [.one (.ow 0 0),.agg [.row lx,.row ly,.bool bn,.row l3,.int .i64 id]] [bH h M q] [.oi e3] [bH h' M' q])
 (h4:Uz prog 400 [.one (.ow 0 0),.agg [.row lx,.row ly,.bool bn,.row l3,.int .i64 id]] [bP p M q] [.oi e4] [bP p' M' q])
 (h5:Uz prog 405 [.one (.ow 0 0),.agg [.row lx,.row ly,.bool bn,.row l3,.int .i64 id]] [bD d M q] [.oi e5] [bD d' M' q]) :
 Uz prog 27 [.one (.ow 0 0),.oi id,.agg [.row lx,.row ly,.bool bn,.row l3]] (CS 0 np nd M q s t h p d) [.oi 0] (CS 0 np nd M' q s' t' h' p' d'):=by
 refine Fw func27 rfl ?_;refine Uc [.c [1] ht,.f rfl,.c Uu wS] rfl ?_;refine Uh (S:=Nat) 9 (λL1 i=>(25,.v (.oi i))::L1) (λi=>[.blk 90 (enR 0 q),tB np nd M',zM 0 i (bS s M q) (bS s' M' q),zM 1 i (bT t M q) (bT t' M' q),zM 2 i (bH h M q) (bH h' M' q),zM 3 i (bP p M q) (bP p' M' q),zM 4 i (bD d M q) (bD d' M' q),.blk 36 [.row lx,.row ly,.bool bn,.row l3],.blk 38 [.row lx,.row ly,.bool bn,.row l3,.int .i64 id]]) (λi=>5-i) (λi=>i<=5) 0 (by decide) rfl rfl λi hi=>?_
 rcases (show i=0\/i=1\/i=2\/i=3\/i=4\/i=5 by omega) with rfl | rfl | rfl | rfl | rfl | rfl
 ·exact go tt [.t rfl,.i 0,.c [2] h1] rfl (by simp [Uw]) (rd 1 (by omega) (by omega) rfl)
 ·exact go tt [.t rfl,.i 1,.c [3] h2] rfl (by simp [Uw]) (rd 2 (by omega) (by omega) rfl)
 ·exact go tt [.t rfl,.i 2,.c [4] h3] rfl (by simp [Uw]) (rd 3 (by omega) (by omega) rfl)
 ·exact go tt [.t rfl,.i 3,.c [5] h4] rfl (by simp [Uw]) (rd 4 (by omega) (by omega) rfl)
 ·exact go tt [.t rfl,.i 4,.c [6] h5] rfl (by simp [Uw]) (rd 5 (by omega) (by omega) rfl)
 ·exact Ug [] [0,1,2,3,4,5,6] [.f rfl] rfl
theorem Qa6 {np nd id:Int} {M:List Pt} {q:Rat} {s t h p d:Cr} {lx ly l3:Ur} {bn:Bool} {e:Int} (he:e≠0)
 (ht:Uz prog 70 [.one (.ow 0 0),.agg [.row lx,.row ly,.bool bn,.row l3,.int .i64 id]] [tB np nd M] [.oi e] [tB np nd M]) :
 Uz prog 27 [.one (.ow 0 0),.oi id,.agg [.row lx,.row ly,.bool bn,.row l3]] (CS 0 np nd M q s t h p d) [.oi e] (CS 0 np nd M q s t h p d):=by
 refine Fw func27 rfl ?_;exact Ug [] [0,1,2,3,4,5,6] [.c [1] ht,.t (by simpa using he)] rfl
theorem Qe0 {np nd id:Int} {M M':List Pt} {q:Rat} {s t h p d s' t' h' p' d':Cr} {lx ly l3:Ur} {bn:Bool} {e1 e2 e3 e4 e5:Int}
 (ht:Uz prog 83 [.one (.ow 0 0),.agg [.row lx,.row ly,.bool bn,.row l3,.int .i64 id]] [tB np nd M] [.oi 0] [tB np nd M'])
 (h1:Uz prog 364 [.one (.ow 0 0),.agg [.row lx,.row ly,.bool bn,.row l3,.int .i64 id]] [bS s M q] [.oi e1] [bS s' M' q])
 (h2:Uz prog 391 [.one (.ow 0 0),.agg [.row lx,.row ly,.bool bn,.row l3,.int .i64 id]] [bT t M q] [.oi e2] [bT t' M' q])
 (h3:Uz prog 396 [.one (.ow 0 0),.agg [.row lx,.row ly,.bool bn,.row l3,.int .i64 id]] [bH h M q] [.oi e3] [bH h' M' q])
 (h4:Uz prog 401 [.one (.ow 0 0),.agg [.row lx,.row ly,.bool bn,.row l3,.int .i64 id]] [bP p M q] [.oi e4] [bP p' M' q])
 (h5:Uz prog 406 [.one (.ow 0 0),.agg [.row lx,.row ly,.bool bn,.row l3,.int .i64 id]] [bD d M q] [.oi e5] [bD d' M' q]) :
 Uz prog 38 [.one (.ow 0 0),.oi id,.agg [.row lx,.row ly,.bool bn,.row l3]] (CS 0 np nd M q s t h p d) [.oi 0] (CS 0 np nd M' q s' t' h' p' d'):=by
 refine Fw func38 rfl ?_;refine Uc [.c [1] ht,.f rfl,.c Uu wS] rfl ?_;refine Uh (S:=Nat) 9 (λL1 i=>(25,.v (.oi i))::L1) (λi=>[.blk 90 (enR 0 q),tB np nd M',zM 0 i (bS s M q) (bS s' M' q),zM 1 i (bT t M q) (bT t' M' q),zM 2 i (bH h M q) (bH h' M' q),zM 3 i (bP p M q) (bP p' M' q),zM 4 i (bD d M q) (bD d' M' q),.blk 36 [.row lx,.row ly,.bool bn,.row l3],.blk 38 [.row lx,.row ly,.bool bn,.row l3,.int .i64 id]]) (λi=>5-i) (λi=>i<=5) 0 (by decide) rfl rfl λi hi=>?_
 rcases (show i=0\/i=1\/i=2\/i=3\/i=4\/i=5 by omega) with rfl | rfl | rfl | rfl | rfl | rfl
 ·exact go tt [.t rfl,.i 0,.c [2] h1] rfl (by simp [Uw]) (rd 1 (by omega) (by omega) rfl)
 ·exact go tt [.t rfl,.i 1,.c [3] h2] rfl (by simp [Uw]) (rd 2 (by omega) (by omega) rfl)
 ·exact go tt [.t rfl,.i 2,.c [4] h3] rfl (by simp [Uw]) (rd 3 (by omega) (by omega) rfl)
 ·exact go tt [.t rfl,.i 3,.c [5] h4] rfl (by simp [Uw]) (rd 4 (by omega) (by omega) rfl)
 ·exact go tt [.t rfl,.i 4,.c [6] h5] rfl (by simp [Uw]) (rd 5 (by omega) (by omega) rfl)
 ·exact Ug [] [0,1,2,3,4,5,6] [.f rfl] rfl
theorem Qa8 {np nd id:Int} {M:List Pt} {q:Rat} {s t h p d:Cr} {lx ly l3:Ur} {bn:Bool} {e:Int} (he:e≠0)
 (ht:Uz prog 83 [.one (.ow 0 0),.agg [.row lx,.row ly,.bool bn,.row l3,.int .i64 id]] [tB np nd M] [.oi e] [tB np nd M]) :
 Uz prog 38 [.one (.ow 0 0),.oi id,.agg [.row lx,.row ly,.bool bn,.row l3]] (CS 0 np nd M q s t h p d) [.oi e] (CS 0 np nd M q s t h p d):=by
 refine Fw func38 rfl ?_;exact Ug [] [0,1,2,3,4,5,6] [.c [1] ht,.t (by simpa using he)] rfl
theorem Qee {np nd id:Int} {M M':List Pt} {q:Rat} {s t h p d s' t' h' p' d':Cr} {e1 e2 e3 e4 e5:Int}
 (ht:Uz prog 73 [.one (.ow 0 0),.oi id] [tB np nd M] [.oi 0] [tB np nd M'])
 (h1:Uz prog 361 [.one (.ow 0 0),.oi id] [bS s M q] [.oi e1] [bS s' M' q])
 (h2:Uz prog 389 [.one (.ow 0 0),.oi id] [bT t M q] [.oi e2] [bT t' M' q])
 (h3:Uz prog 394 [.one (.ow 0 0),.oi id] [bH h M q] [.oi e3] [bH h' M' q])
 (h4:Uz prog 399 [.one (.ow 0 0),.oi id] [bP p M q] [.oi e4] [bP p' M' q])
 (h5:Uz prog 404 [.one (.ow 0 0),.oi id] [bD d M q] [.oi e5] [bD d' M' q]) :
 Uz prog 30 [.one (.ow 0 0),.oi id] (CS 0 np nd M q s t h p d) [.oi 0] (CS 0 np nd M' q s' t' h' p' d'):=by
 refine Fw func30 rfl ?_;refine Uc [.c [1] ht,.f rfl,.c Uu wS] rfl ?_;refine Uh (S:=Nat) 7 (λL1 i=>(19,.v (.oi i))::L1) (λi=>[.blk 90 (enR 0 q),tB np nd M',zM 0 i (bS s M q) (bS s' M' q),zM 1 i (bT t M q) (bT t' M' q),zM 2 i (bH h M q) (bH h' M' q),zM 3 i (bP p M q) (bP p' M' q),zM 4 i (bD d M q) (bD d' M' q)]) (λi=>5-i) (λi=>i<=5) 0 (by decide) rfl rfl λi hi=>?_
 rcases (show i=0\/i=1\/i=2\/i=3\/i=4\/i=5 by omega) with rfl | rfl | rfl | rfl | rfl | rfl
 ·exact go tt [.t rfl,.i 0,.c [2] h1] rfl (by simp [Uw]) (rd 1 (by omega) (by omega) rfl)
 ·exact go tt [.t rfl,.i 1,.c [3] h2] rfl (by simp [Uw]) (rd 2 (by omega) (by omega) rfl)
 ·exact go tt [.t rfl,.i 2,.c [4] h3] rfl (by simp [Uw]) (rd 3 (by omega) (by omega) rfl)
 ·exact go tt [.t rfl,.i 3,.c [5] h4] rfl (by simp [Uw]) (rd 4 (by omega) (by omega) rfl)
 ·exact go tt [.t rfl,.i 4,.c [6] h5] rfl (by simp [Uw]) (rd 5 (by omega) (by omega) rfl)
 ·exact Ug [] [0,1,2,3,4,5,6] [.f rfl] rfl
theorem Qa2 {np nd id:Int} {M:List Pt} {q:Rat} {s t h p d:Cr} {e:Int} (he:e≠0)
 (ht:Uz prog 73 [.one (.ow 0 0),.oi id] [tB np nd M] [.oi e] [tB np nd M]) :
 Uz prog 30 [.one (.ow 0 0),.oi id] (CS 0 np nd M q s t h p d) [.oi e] (CS 0 np nd M q s t h p d):=by
 refine Fw func30 rfl ?_;exact Ug [] [0,1,2,3,4,5,6] [.c [1] ht,.t (by simpa using he)] rfl
theorem Qa1 {np nd:Int} {M:List Pt} {q r:Rat} {s t h p d s' t' h' p' d':Cr} {x0 x1 x2 x3:LV} {a b n1 n2 n3 n4 n5:Int} (ha:Gj x0 x1 a) (hb:Gj x2 x3 b) (sa:U9 a<=4294967295) (sb:U9 b<=4294967295) (hr:Ha a b=r) (hs:Qs 128 r) (hq:Qs 128 q) (hqr:q<=r)
 (h1:Uz prog 359 [.one (.ow 0 0),.agg (rl r)] [bS s M q] [.oi n1,.oi 0] [bS s' M r])
 (h2:Uz prog 388 [.one (.ow 0 0),.agg (rl r)] [bT t M q] [.oi n2,.oi 0] [bT t' M r])
 (h3:Uz prog 393 [.one (.ow 0 0),.agg (rl r)] [bH h M q] [.oi n3,.oi 0] [bH h' M r])
 (h4:Uz prog 398 [.one (.ow 0 0),.agg (rl r)] [bP p M q] [.oi n4,.oi 0] [bP p' M r])
 (h5:Uz prog 403 [.one (.ow 0 0),.agg (rl r)] [bD d M q] [.oi n5,.oi 0] [bD d' M r]) :
 Uz prog 13 [.one (.ow 0 0),.agg [x0,x1,x2,x3]] (CS 0 np nd M q s t h p d) [.oi 0] (CS 0 np nd M r s' t' h' p' d'):=by
 have cm:=BG ha hb sa sb;rw [hr] at cm;obtain ⟨b1,r1,rfl,rfl,_⟩:=ha;obtain ⟨b2,r2,rfl,rfl,_⟩:=hb;have cc:=C5 (a:=r) (b:=q) (hs.mono (by decide)) (hq.mono (by decide));have l1:=RF.2 hs.1;have l2:(Fy r.den).length<=4:=by simpa using RF.2 hs.2
 have hc:¬Hd r q<0:=λh=>absurd (Nf.1 h) (Wx.2 hqr)
 refine Fw func13 rfl ?_;refine Uc [.k cm,.f (by simp [lml]; omega),.f (by simp [lml]; omega),.k cc,.f (by simpa using hc),.c Uu wS] rfl ?_;refine Uh (S:=Nat) 8 (λL1 i=>(32,.v (.oi i))::L1) (λi=>[.blk 90 (enR 0 q),tB np nd M,zM 0 i (bS s M q) (bS s' M r),zM 1 i (bT t M q) (bT t' M r),zM 2 i (bH h M q) (bH h' M r),zM 3 i (bP p M q) (bP p' M r),zM 4 i (bD d M q) (bD d' M r),.blk 40 (rl r)]) (λi=>5-i) (λi=>i<=5) 0 (by decide) rfl rfl λi hi=>?_
 rcases (show i=0\/i=1\/i=2\/i=3\/i=4\/i=5 by omega) with rfl | rfl | rfl | rfl | rfl | rfl
 ·exact go tt [.t rfl,.i 0,.c [2] h1] rfl (by simp [Uw]) (rd 1 (by omega) (by omega) rfl)
 ·exact go tt [.t rfl,.i 1,.c [3] h2] rfl (by simp [Uw]) (rd 2 (by omega) (by omega) rfl)
 ·exact go tt [.t rfl,.i 2,.c [4] h3] rfl (by simp [Uw]) (rd 3 (by omega) (by omega) rfl)
 ·exact go tt [.t rfl,.i 3,.c [5] h4] rfl (by simp [Uw]) (rd 4 (by omega) (by omega) rfl)
 ·exact go tt [.t rfl,.i 4,.c [6] h5] rfl (by simp [Uw]) (rd 5 (by omega) (by omega) rfl)
 ·exact Ug [] [0,1,2,3,4,5,6] [.f rfl] rfl
theorem xG {np nd:Int} {M:List Pt} {q r:Rat} {s t h p d:Cr} {x0 x1 x2 x3:LV} {a b:Int} (ha:Gj x0 x1 a) (hb:Gj x2 x3 b) (sa:U9 a<=4294967295) (sb:U9 b<=4294967295) (hr:Ha a b=r) (hs:¬Qs 128 r) :
 Uz prog 13 [.one (.ow 0 0),.agg [x0,x1,x2,x3]] (CS 0 np nd M q s t h p d) [.oi 1] (CS 0 np nd M q s t h p d):=by
 have cm:=BG ha hb sa sb;rw [hr] at cm;obtain ⟨b1,r1,rfl,rfl,_⟩:=ha;obtain ⟨b2,r2,rfl,rfl,_⟩:=hb;refine Fw func13 rfl ?_;by_cases h1:U9 r.num<=128
 ·have h2:¬U9 (r.den:Int)<=128:=λh=>hs ⟨h1,h⟩
  have l1:=RF.2 h1;have l2:=mt RF.1 h2;exact Ug [] [0,1,2,3,4,5,6] [.k cm,.f (by simp [lml]; omega),.t (by simp [lml] at l2 ⊢; omega)] rfl
 ·have l1:=mt RF.1 h1;exact Ug [] [0,1,2,3,4,5,6] [.k cm,.t (by simp [lml]; omega),.t rfl] rfl
theorem AT {np nd:Int} {M:List Pt} {q r:Rat} {s t h p d:Cr} {x0 x1 x2 x3:LV} {a b:Int} (ha:Gj x0 x1 a) (hb:Gj x2 x3 b) (sa:U9 a<=4294967295) (sb:U9 b<=4294967295) (hr:Ha a b=r) (hs:Qs 128 r) (hq:Qs 128 q) (hqr:r<q) :
 Uz prog 13 [.one (.ow 0 0),.agg [x0,x1,x2,x3]] (CS 0 np nd M q s t h p d) [.oi 8] (CS 0 np nd M q s t h p d):=by
 have cm:=BG ha hb sa sb;rw [hr] at cm;obtain ⟨b1,r1,rfl,rfl,_⟩:=ha;obtain ⟨b2,r2,rfl,rfl,_⟩:=hb;have cc:=C5 (a:=r) (b:=q) (hs.mono (by decide)) (hq.mono (by decide));have l1:=RF.2 hs.1;have l2:(Fy r.den).length<=4:=by simpa using RF.2 hs.2
 have hc:Hd r q<0:=Nf.2 hqr;refine Fw func13 rfl ?_;exact Ug [] [0,1,2,3,4,5,6] [.k cm,.f (by simp [lml]; omega),.f (by simp [lml]; omega),.k cc,.t (by simpa using hc)] rfl
theorem NE {c:Cr} {l l':List Pt} {r1:Ur} {ws:List Wt} (hc:CrOk c) (hl:∀ p∈l',Sc p.c) (hn:l'.length≤10) (h:Rz c.l c.now (Fp (GO l' c.now))=some ws) :
 Uz prog 397 [.one (.ow 0 0),.agg [pts l'],.oi 0] [.blk 201 (Hn c (Uv l) r1)] [.oi 0] [.blk 201 (Hn ⟨c.now,ws,c.ev⟩ (Uv l') (brH l' c.now))]:=by
 have hB:=pX hl hn;have cn:=O8 (T:=201) (c:=c) (r0:=Uv l') (r1:=r1) hc.n;have cb:=IK (c:=c) (r1:=r1) hl hn hc.n;have cg:=JB (T:=201) (r0:=Uv l') (r1:=brH l' c.now) hc hc.n (Ix hc.n) (J3 0) (hB.p _ hc.n) (hB.n _ hc.n) h;refine Fw func397 rfl ?_;exact Ug [] [0] [.f rfl,.c [0] cn,.c [0] cb,.c [0] cg] rfl
theorem Qmp {lx ly:Ur} {px py:Ul} {x y:LV} {d id:Int} {c:Cr} {l:List Pt} {r1:Ur} {ws:List Wt} (hx:IsInts lx px) (hy:IsInts ly py) (hd:Gj x y d) (hk:Cs 4294967294 1073741824 (Crv.mk px py d)) (hll:l.length<=900)
 (he:WQ l ⟨Crv.norm (Crv.mk px py d),id⟩=0) (hc:CrOk c) (hl:∀ p∈put l ⟨Crv.norm (Crv.mk px py d),id⟩,Sc p.c) (hn:(put l ⟨Crv.norm (Crv.mk px py d),id⟩).length≤10) (h:Rz c.l c.now (Fp (GO (put l ⟨Crv.norm (Crv.mk px py d),id⟩) c.now))=some ws) :
 Uz prog 395 [.one (.ow 0 0),.agg [.row lx,.row ly,x,y,.int .i64 id]] [.blk 201 (Hn c (Uv l) r1)] [.oi 0] [.blk 201 (Hn ⟨c.now,ws,c.ev⟩ (Uv (put l ⟨Crv.norm (Crv.mk px py d),id⟩)) (brH (put l ⟨Crv.norm (Crv.mk px py d),id⟩) c.now))]:=by
 have cp:=wR (l:=l) (id:=id) hx hy hd hk (by omega);rw [if_pos he,he] at cp;have cw:=NE (l:=l) (r1:=r1) hc hl hn h;refine Fw func395 rfl ?_;obtain ⟨b,l',rfl,rfl,_⟩:=hd;exact Ug [] [0] [.k cp,.c [0] cw] rfl
theorem Qek {lx ly:Ur} {px py:Ul} {x y:LV} {d id:Int} {c:Cr} {l l':List Pt} {r1:Ur} {ws:List Wt} (hx:IsInts lx px) (hy:IsInts ly py) (hd:Gj x y d) (hk:Cs 4294967294 1073741824 (Crv.mk px py d)) (hll:l.length<=10) (h:has l id=true) (hc:CrOk c)
 (hl':l'=l.set (Ro l id) (Pt.mk (Crv.norm (Crv.mk px py d)) id)) (hs:∀ p∈l',Sc p.c) (hw:Rz c.l c.now (Fp (GO l' c.now))=some ws) :
 Uz prog 396 [.one (.ow 0 0),.agg [.row lx,.row ly,x,y,.int .i64 id]] [.blk 201 (Hn c (Uv l) r1)] [.oi 0] [.blk 201 (Hn ⟨c.now,ws,c.ev⟩ (Uv l') (brH l' c.now))]:=by
 have ct1:=UQ (l:=l) hx hy hd hk (by omega) h;rw [<-hl'] at ct1;have cw:=NE (c:=c) (l:=l) (l':=l') (r1:=r1) hc hs (by rw [hl',Xf]; omega) hw;obtain ⟨b,r,rfl,rfl,_⟩:=hd;refine Fw func396 rfl ?_;exact Ug [] [0] [.k ct1,.c [0] cw] rfl
theorem Qej {id:Int} {c:Cr} {l l':List Pt} {r1:Ur} {ws:List Wt} (hll:l.length<=10) (h:has l id=true) (hc:CrOk c)
 (hl':l'=l.take (Ro l id)++l.drop (Ro l id+1)) (hs:∀ p∈l',Sc p.c) (hw:Rz c.l c.now (Fp (GO l' c.now))=some ws) :
 Uz prog 394 [.one (.ow 0 0),.oi id] [.blk 201 (Hn c (Uv l) r1)] [.oi 0] [.blk 201 (Hn ⟨c.now,ws,c.ev⟩ (Uv l') (brH l' c.now))]:=by
 have ct1:=WI (l:=l) (id:=id) (by omega) h;rw [<-hl'] at ct1;have cw:=NE (c:=c) (l:=l) (l':=l') (r1:=r1) hc hs (by rw [hl',Qu,Qr,Q9]; omega) hw;refine Fw func394 rfl ?_;exact Ug [] [0] [.k ct1,.c [0] cw] rfl
theorem BQ {c:Cr} {l l':List Pt} {r1:Ur} {ws:List Wt} (hc:CrOk c) (hl:∀ p∈l',Sc p.c) (hn:l'.length≤10) (h:Rz c.l c.now (Fp (IX l' c.now))=some ws) :
 Uz prog 402 [.one (.ow 0 0),.agg [pts l'],.oi 0] [.blk 203 (Hn c (Uv l) r1)] [.oi 0] [.blk 203 (Hn ⟨c.now,ws,c.ev⟩ (Uv l') (brP l' c.now))]:=by
 have hB:=Qd3 hl hn;have cn:=O8 (T:=203) (c:=c) (r0:=Uv l') (r1:=r1) hc.n;have cb:=IW (c:=c) (r1:=r1) hl hn hc.n;have cg:=JB (T:=203) (r0:=Uv l') (r1:=brP l' c.now) hc hc.n (Ix hc.n) (J3 0) (hB.p _ hc.n) (hB.n _ hc.n) h;refine Fw func402 rfl ?_;exact Ug [] [0] [.f rfl,.c [0] cn,.c [0] cb,.c [0] cg] rfl
theorem Qmx {lx ly:Ur} {px py:Ul} {x y:LV} {d id:Int} {c:Cr} {l:List Pt} {r1:Ur} {ws:List Wt} (hx:IsInts lx px) (hy:IsInts ly py) (hd:Gj x y d) (hk:Cs 4294967294 1073741824 (Crv.mk px py d)) (hll:l.length<=900)
 (he:WQ l ⟨Crv.norm (Crv.mk px py d),id⟩=0) (hc:CrOk c) (hl:∀ p∈put l ⟨Crv.norm (Crv.mk px py d),id⟩,Sc p.c) (hn:(put l ⟨Crv.norm (Crv.mk px py d),id⟩).length≤10) (h:Rz c.l c.now (Fp (IX (put l ⟨Crv.norm (Crv.mk px py d),id⟩) c.now))=some ws) :
 Uz prog 400 [.one (.ow 0 0),.agg [.row lx,.row ly,x,y,.int .i64 id]] [.blk 203 (Hn c (Uv l) r1)] [.oi 0] [.blk 203 (Hn ⟨c.now,ws,c.ev⟩ (Uv (put l ⟨Crv.norm (Crv.mk px py d),id⟩)) (brP (put l ⟨Crv.norm (Crv.mk px py d),id⟩) c.now))]:=by
 have cp:=wR (l:=l) (id:=id) hx hy hd hk (by omega);rw [if_pos he,he] at cp;have cw:=BQ (l:=l) (r1:=r1) hc hl hn h;refine Fw func400 rfl ?_;obtain ⟨b,l',rfl,rfl,_⟩:=hd;exact Ug [] [0] [.k cp,.c [0] cw] rfl
theorem Qex {lx ly:Ur} {px py:Ul} {x y:LV} {d id:Int} {c:Cr} {l l':List Pt} {r1:Ur} {ws:List Wt} (hx:IsInts lx px) (hy:IsInts ly py) (hd:Gj x y d) (hk:Cs 4294967294 1073741824 (Crv.mk px py d)) (hll:l.length<=10) (h:has l id=true) (hc:CrOk c)
 (hl':l'=l.set (Ro l id) (Pt.mk (Crv.norm (Crv.mk px py d)) id)) (hs:∀ p∈l',Sc p.c) (hw:Rz c.l c.now (Fp (IX l' c.now))=some ws) :
 Uz prog 401 [.one (.ow 0 0),.agg [.row lx,.row ly,x,y,.int .i64 id]] [.blk 203 (Hn c (Uv l) r1)] [.oi 0] [.blk 203 (Hn ⟨c.now,ws,c.ev⟩ (Uv l') (brP l' c.now))]:=by
 have ct1:=UQ (l:=l) hx hy hd hk (by omega) h;rw [<-hl'] at ct1;have cw:=BQ (c:=c) (l:=l) (l':=l') (r1:=r1) hc hs (by rw [hl',Xf]; omega) hw;obtain ⟨b,r,rfl,rfl,_⟩:=hd;refine Fw func401 rfl ?_;exact Ug [] [0] [.k ct1,.c [0] cw] rfl
theorem Qew {id:Int} {c:Cr} {l l':List Pt} {r1:Ur} {ws:List Wt} (hll:l.length<=10) (h:has l id=true) (hc:CrOk c)
 (hl':l'=l.take (Ro l id)++l.drop (Ro l id+1)) (hs:∀ p∈l',Sc p.c) (hw:Rz c.l c.now (Fp (IX l' c.now))=some ws) :
 Uz prog 399 [.one (.ow 0 0),.oi id] [.blk 203 (Hn c (Uv l) r1)] [.oi 0] [.blk 203 (Hn ⟨c.now,ws,c.ev⟩ (Uv l') (brP l' c.now))]:=by
 have ct1:=WI (l:=l) (id:=id) (by omega) h;rw [<-hl'] at ct1;have cw:=BQ (c:=c) (l:=l) (l':=l') (r1:=r1) hc hs (by rw [hl',Qu,Qr,Q9]; omega) hw;refine Fw func399 rfl ?_;exact Ug [] [0] [.k ct1,.c [0] cw] rfl
abbrev anw (S W H P:List Pt) (T:List P3):Uq:=[ids (S.map (·.id)),ids (W.map (·.id)),ids (H.map (·.id)),ids (P.map (·.id)),.row (WG T)]
theorem Qm8 {np nd:Int} {M S W H P:List Pt} {T:List P3} {r2:Ur} {q:Rat} {s t h p d:Cr} (hS:S.length<=1000000) (hH:H.length<=1000000) (hT:T.length<=1000) (hW:W=[]\/∃ w,W=[w]) (hP:P=[]\/∃ a b,P=[a,b]) :
 Uz prog 21 [.one (.ow 0 0)] [.blk 90 (enR 0 q),tB np nd M,.blk 196 (Hn s (Uv M) (Uv S)),.blk 199 (To t (Uv M) (W.map U5,r2)),.blk 201 (Hn h (Uv M) (Uv H)),.blk 203 (Hn p (Uv M) (Uv P)),.blk 205 (Hn d (Uv M) (WG T))]
  [.agg (anw S W H P T)] [.blk 90 (enR 0 q),tB np nd M,.blk 196 (Hn s (Uv M) (Uv S)),.blk 199 (To t (Uv M) (W.map U5,r2)),.blk 201 (Hn h (Uv M) (Uv H)),.blk 203 (Hn p (Uv M) (Uv P)),.blk 205 (Hn d (Uv M) (WG T))]:=by
 have c1:=Qtn (c:=s) (l:=M) hS;have c2:=Qtc (c:=h) (l:=M) hH;have c3:=pN (c:=d) (r0:=Uv M) hT;rcases hW with rfl | ⟨w,rfl⟩
 ·have c4:=Qfb (c:=t) (r0:=Uv M) (r2:=r2);rcases hP with rfl | ⟨a,b,rfl⟩
  ·have c5:=wH (c:=p) (r0:=Uv M);refine Fw func21 rfl ?_;exact Ug [] [0,1,2,3,4,5,6] [.c [2] c1,.c [4] c2,.c [6] c3,.c [3] c4,.f rfl,.c [5] c5,.f rfl] rfl
  ·have c5:=lU (c:=p) (r0:=Uv M) (a:=a) (b:=b);refine Fw func21 rfl ?_;exact Ug [] [0,1,2,3,4,5,6] [.c [2] c1,.c [4] c2,.c [6] c3,.c [3] c4,.f rfl,.c [5] c5,.t rfl] rfl
 ·have c4:=Qnb (c:=t) (r0:=Uv M) (r2:=r2) (w:=w);rcases hP with rfl | ⟨a,b,rfl⟩
  ·have c5:=wH (c:=p) (r0:=Uv M);refine Fw func21 rfl ?_;exact Ug [] [0,1,2,3,4,5,6] [.c [2] c1,.c [4] c2,.c [6] c3,.c [3] c4,.t rfl,.c [5] c5,.f rfl] rfl
  ·have c5:=lU (c:=p) (r0:=Uv M) (a:=a) (b:=b);refine Fw func21 rfl ?_;exact Ug [] [0,1,2,3,4,5,6] [.c [2] c1,.c [4] c2,.c [6] c3,.c [3] c4,.t rfl,.c [5] c5,.t rfl] rfl
abbrev Qsv (M:List Pt) (q:Rat):Uq:=anw (Sf (tq q) M) (Bm (Fl (tq q)) M).1 (Pd M (tq q)) (XB (Fl (tq q)) M) (gG (Fl (tq q)) M)
theorem Qqt (sg:Ul->Int) (M:List Pt):(Bm sg M).1=[]\/∃ w,(Bm sg M).1=[w]:=by
 by_cases h:0<M.length
 ·obtain ⟨a,ha,_⟩:=M7 sg M.length M (Ql _) h;exact .inr ⟨a,ha⟩
 ·obtain rfl:=Qj (by omega:M.length=0);exact .inl rfl
theorem Qix (sg:Ul->Int) (M:List Pt):XB sg M=[]\/∃ a b,XB sg M=[a,b]:=by
 match M with
 | []=>exact .inl rfl
 | [_]=>exact .inl rfl
 | _::_::_=>exact .inr ⟨_,_,rfl⟩
theorem Qe8 {np nd:Int} {M:List Pt} {q:Rat} {s t h p d:Cr} (hM:M.length<=6):Uz prog 21 [.one (.ow 0 0)] (CS 0 np nd M q s t h p d) [.agg (Qsv M q)] (CS 0 np nd M q s t h p d) :=
 Qm8 (by rw [Cd]; omega) (by have:=HG M (tq q); omega) (by have:=Qci (Fl (tq q)) hM; omega) (Qqt _ _) (Qix _ _)
abbrev Qke (k i:Nat) (e:Int):LV:=match Nat.blt k i with
 | true=>.int .i64 e
 | false=>.int .i64 0
theorem wK {np nd:Int} {M:List Pt} {q:Rat} {s t h p d:Cr}:Uz prog 11 [.one (.ow 0 0)] (CS 0 np nd M q s t h p d) [.agg [.int .i64 s.ev,.int .i64 t.ev,.int .i64 h.ev,.int .i64 p.ev,.int .i64 d.ev]] (CS 0 np nd M q s t h p d):=by
 refine Fw func11 rfl ?_;refine Uc [.c Uu wS] rfl ?_;refine Uh (S:=Nat) 9 (λL1 i=>(8,.v (.oi i))::L1) (λi=>[.blk 90 (enR 0 q),tB np nd M,bS s M q,bT t M q,bH h M q,bP p M q,bD d M q,.blk 46 [.int .i64 0,.int .i64 0,.int .i64 0,.int .i64 0,.int .i64 0],.blk 46 [Qke 0 i s.ev,Qke 1 i t.ev,Qke 2 i h.ev,Qke 3 i p.ev,Qke 4 i d.ev]]) (λi=>5-i) (λi=>i<=5) 0 (by decide) rfl rfl λi hi=>?_
 rcases (show i=0\/i=1\/i=2\/i=3\/i=4\/i=5 by omega) with rfl | rfl | rfl | rfl | rfl | rfl
 ·exact go tt [.t rfl,.i 0,.c [2] JC,.i 0] rfl (by simp [Uw]) (rd 1 (by omega) (by omega) rfl)
 ·exact go tt [.t rfl,.i 1,.c [3] Qbc,.i 1] rfl (by simp [Uw]) (rd 2 (by omega) (by omega) rfl)
 ·exact go tt [.t rfl,.i 2,.c [4] JC,.i 2] rfl (by simp [Uw]) (rd 3 (by omega) (by omega) rfl)
 ·exact go tt [.t rfl,.i 3,.c [5] JC,.i 3] rfl (by simp [Uw]) (rd 4 (by omega) (by omega) rfl)
 ·exact go tt [.t rfl,.i 4,.c [6] JC,.i 4] rfl (by simp [Uw]) (rd 5 (by omega) (by omega) rfl)
 ·exact Ug [] [0,1,2,3,4,5,6] [.f rfl] rfl
theorem Qq6:∀ p∈([]:List Pt),Sc p.c:=λ_ h=>by cases h
theorem Qlp:∀ x∈([]:List Ct),Cp x.p:=λ_ h=>by cases h
theorem sN:Ui 124 [.one (.row [])] [.agg [.row []],.oi 0]:=by
 refine Fw func124 rfl ?_;refine Uc [.f rfl] rfl ?_;refine nlb 1 rfl rfl rfl ?_;refine Uh (S:=Unit) 2 (λL1 _=>(14,.v (.oi 0))::L1) (λ_=>[.blk 194 [.nils],.blk 194 [.row []]]) (λ_=>0) (λ_=>True) () trivial rfl rfl λ_ _=>?_
 exact Ue [.f rfl] rfl
abbrev zT (r0 r1 r2:LV):OB:=.blk 199 [.bool false,.nils,.bool false,.nils,.bool false,.nils,.bool false,.nils,.bool false,.nils,.nils,.int .i64 0,r0,r1,r2]
theorem Qq4 {a:Tm}:Uz prog 162 [.one (.ow 0 0),.agg (ta a),.one (.row [])] [zT (.row []) .nils (.orow 1 10 none),.row false 252 10 []] [.one (.row [])] [zT (.row []) .nils (.orow 1 10 none),.row false 252 10 []]:=by
 refine Fw func162 rfl ?_;exact Ug [] [0,1] [.t rfl] rfl
theorem Qln {a:Tm}:Uz prog 128 [.one (.ow 0 0),.agg (ta a)] [zT (.row []) .nils .nils] [.one (.row [])] [zT (.row []) (.row []) (.row [])]:=by
 refine Fw func128 rfl ?_;refine Uc [] rfl ?_;refine oz 0 14 252 10 rfl rfl ?_;refine Uc [.k (Ii (l:=[])),.c [0,2] (Qq4 (a:=a)),.o 5 136 7] rfl ?_;refine Uh (S:=Unit) 4 (λL1 _=>(29,.v (.oi 0))::(5,.v (.one (.orow 3 7 none)))::L1) (λ_=>[zT (.row []) (.row []) (.orow 2 10 none),.blk 189 (ta a),.row false 252 10 [],.row false 136 7 []]) (λ_=>0) (λ_=>True) () trivial rfl rfl λ_ _=>?_
 exact Ug [2,3] [0] [.f rfl] rfl
theorem Qlo:Ui 165 [.agg [.row []]] [.one (.row [])]:=pA (l:=[]) (λ_ h=>by cases h) (by decide)
theorem Qsn {a:Tm} (ha:Va a):Ui 159 [.agg (ta a),.one (.row [])] [.one (.row [])]:=wT (l:=[]) Qq6 (by decide) ha
theorem Qll {a:Tm} (ha:Va a):Uz prog 129 [.one (.ow 0 0),.agg (ta a)] [.blk 201 (mU (.row []) .nils)] [.one (.row [])] [.blk 201 (mU (.row []) (.row []))]:=by
 have cn:Ui 164 [.agg (ta a),.one (.row [])] [.one (.row [])]:=lC (R:=[]) Qq6 (by decide) ha;have cc:Uz prog 161 [.agg (ta a),.one (.row [])] [] [.one (.orow 0 7 none)] [.row false 136 7 []]:=TB (l:=[]) Qq6 (by decide) ha;refine Fw func129 rfl ?_;exact Ug [2] [0] [.k Qlo,.k (Qsn ha),.k cn,.k (Ii (l:=[])),.k (Qsn ha),.c [2] cc,.t rfl] rfl
theorem Qlm {a:Tm}:Uz prog 130 [.one (.ow 0 0),.agg (ta a)] [.blk 203 (mU (.row []) .nils)] [.one (.row [])] [.blk 203 (mU (.row []) (.row []))]:=by
 refine Fw func130 rfl ?_;refine Uc [.k (Ii (l:=[]))] rfl ?_;refine nlc 0 13 rfl rfl rfl ?_;exact Ug [] [0] [.t rfl] rfl
theorem Qlk {a:Tm}:Uz prog 131 [.one (.ow 0 0),.agg (ta a)] [.blk 205 (mU (.row []) .nils)] [.one (.row [])] [.blk 205 (mU (.row []) (.row []))]:=by
 refine Fw func131 rfl ?_;refine Uc [.k Qlo,.o 6 136 7] rfl ?_;refine Uh (S:=Unit) 4 (λL1 _=>(42,.v (.oi 0))::(6,.v (.one (.orow 2 7 none)))::L1) (λ_=>[.blk 205 (mU (.row []) .nils),.blk 189 (ta a),.row false 136 7 [],.mpb (Aq (ZF (Fl a) []))]) (λ_=>0) (λ_=>True) () trivial rfl rfl λ_ _=>?_
 refine Uc [.f rfl] rfl ?_;refine Uh (S:=Unit) 5 (λL1 _=>(97,.v (.oi 0))::(6,.v (.one (.orow 2 7 none)))::L1) (λ_=>[.blk 205 (mU (.row []) .nils),.blk 189 (ta a),.row false 136 7 [],.mpb (Aq (ZF (Fl a) [])),.mpb (I5 (Aq (ZF (Fl a) [])) (VV (Fl a) []))]) (λ_=>0) (λ_=>True) () trivial rfl rfl λ_ _=>?_
 refine Uc [.f rfl] rfl ?_;refine ozM 0 13 69 3 rfl rfl ?_;refine Uh (S:=Unit) 6 (λL1 _=>(174,.v (.oi 0))::L1) (λ_=>[.blk 205 [.bool false,.nils,.bool false,.nils,.bool false,.nils,.bool false,.nils,.bool false,.nils,.nils,.int .i64 0,.row [],.orow 5 3 none],.blk 189 (ta a),.row false 136 7 [],.mpb (Aq (ZF (Fl a) [])),.mpb (I5 (Aq (ZF (Fl a) [])) (VV (Fl a) [])),.row false 69 3 []]) (λ_=>0) (λ_=>True) () trivial rfl rfl λ_ _=>?_
 exact Ug [2,5] [0] [.f rfl] rfl
section
variable {x y x' y':LV} {n d:Int} (h1:Gj x y n) (h2:Gj x' y' d) (bn:U9 n<=4294967295) (bd:U9 d<=4294967295) (ht:Qs 1640000 (Ha n d))
include h1 h2 bn bd ht
theorem Qq3:Uz prog 87 [.agg [x,y,x',y'],.one (.row [])] [] [.one (.ow 0 0),.oi 0] [.blk 196 (Hn ⟨tq (Ha n d),[],0⟩ [] [])]:=by
 have co:=VG h1 h2 bn bd (ht.mono (by decide));have cb:Uz prog 127 [.one (.ow 0 0),.agg (ta (tq (Ha n d)))] [.blk 196 (mU (.row []) .nils)] [.one (.row [])] [.blk 196 (mU (.row []) (.row []))]:=Qa9 (l:=[]) Qq6 (by decide) (GG ht);have cg:=JM (T:=196) (r0:=[]) (r1:=[]) (GG ht) Qlp (by decide);obtain ⟨b,l1,rfl,rfl,_⟩:=h1;obtain ⟨b',l2,rfl,rfl,_⟩:=h2;refine Fw func87 rfl ?_;exact Ug [] [2] [.k sN,.f rfl,.k co,.c [2] cb,.c [2] cg] rfl
theorem Qq5:Uz prog 88 [.agg [x,y,x',y'],.one (.row [])] [] [.one (.ow 0 0),.oi 0] [.blk 199 (To ⟨tq (Ha n d),[],0⟩ [] ([],[]))]:=by
 have co:=VG h1 h2 bn bd (ht.mono (by decide));have cg:=Qba (T:=199) (r0:=[]) (r1:=([],[])) (GG ht) Qlp (by decide);obtain ⟨b,l1,rfl,rfl,_⟩:=h1;obtain ⟨b',l2,rfl,rfl,_⟩:=h2;refine Fw func88 rfl ?_;exact Ug [] [2] [.k sN,.f rfl,.k co,.c [2] (Qln (a:=tq (Ha n d))),.c [2] cg] rfl
theorem Qq1:Uz prog 89 [.agg [x,y,x',y'],.one (.row [])] [] [.one (.ow 0 0),.oi 0] [.blk 201 (Hn ⟨tq (Ha n d),[],0⟩ [] [])]:=by
 have co:=VG h1 h2 bn bd (ht.mono (by decide));have cg:=JM (T:=201) (r0:=[]) (r1:=[]) (GG ht) Qlp (by decide);obtain ⟨b,l1,rfl,rfl,_⟩:=h1;obtain ⟨b',l2,rfl,rfl,_⟩:=h2;refine Fw func89 rfl ?_;exact Ug [] [2] [.k sN,.f rfl,.k co,.c [2] (Qll (GG ht)),.c [2] cg] rfl
theorem Qq2:Uz prog 90 [.agg [x,y,x',y'],.one (.row [])] [] [.one (.ow 0 0),.oi 0] [.blk 203 (Hn ⟨tq (Ha n d),[],0⟩ [] [])]:=by
 have co:=VG h1 h2 bn bd (ht.mono (by decide));have cg:=JM (T:=203) (r0:=[]) (r1:=[]) (GG ht) Qlp (by decide);obtain ⟨b,l1,rfl,rfl,_⟩:=h1;obtain ⟨b',l2,rfl,rfl,_⟩:=h2;refine Fw func90 rfl ?_;exact Ug [] [2] [.k sN,.f rfl,.k co,.c [2] (Qlm (a:=tq (Ha n d))),.c [2] cg] rfl
theorem Qq0:Uz prog 91 [.agg [x,y,x',y'],.one (.row [])] [] [.one (.ow 0 0),.oi 0] [.blk 205 (Hn ⟨tq (Ha n d),[],0⟩ [] [])]:=by
 have co:=VG h1 h2 bn bd (ht.mono (by decide));have cg:=JM (T:=205) (r0:=[]) (r1:=[]) (GG ht) Qlp (by decide);obtain ⟨b,l1,rfl,rfl,_⟩:=h1;obtain ⟨b',l2,rfl,rfl,_⟩:=h2;refine Fw func91 rfl ?_;exact Ug [] [2] [.k sN,.f rfl,.k co,.c [2] (Qlk (a:=tq (Ha n d))),.c [2] cg] rfl
end
end Orr
namespace Orr
open Go Go.Proofs Tryz Orq
set_option maxRecDepth 10000
theorem Qt5 {np nd:Int} (h1:1<=np/\np<=6) (h2:0<=nd/\nd<=2):Uz prog 85 [.oi np,.oi nd] [] [.one (.ow 0 0),.oi 0] [.blk 139 [.int .i64 np,.int .i64 nd,.nils]]:=by
 refine Fw func85 rfl ?_;exact Ug [] [0] [.F,.f (by simp; omega),.f (by simp; omega),.f (by simp; omega)] rfl
theorem Qta {np nd:Int} (h1:1<=np/\np<=6) (h2:0<=nd/\nd<=2):Uz prog 41 [.oi np,.oi nd] [] [.one (.ow 0 0),.oi 0] (CS 0 np nd [] 0 (Qmc [] (tq 0)) (Qxb [] (tq 0)) (Qw9 [] (tq 0)) (Qxa [] (tq 0)) (Qw8 [] (tq 0))):=by
 have ez:Ha (0:Rat).num ((0:Rat).den:Int)=0:=by decide
 have hq:Qs 1640000 (Ha (0:Rat).num ((0:Rat).den:Int)):=by rw [ez]; exact ⟨by decide,by decide⟩
 have i1:=Uy (0:Rat).num;have i2:=Uy ((0:Rat).den:Int);have c1:=Qq3 i1 i2 (by decide) (by decide) hq;have c2:=Qq5 i1 i2 (by decide) (by decide) hq;have c3:=Qq1 i1 i2 (by decide) (by decide) hq;have c4:=Qq2 i1 i2 (by decide) (by decide) hq;have c5:=Qq0 i1 i2 (by decide) (by decide) hq;rw [ez] at c1 c2 c3 c4 c5;have ci:=Qt1 (n:=0) (by decide);rw [show ((0:Int):Rat)=0 from rfl,D5] at ci;refine Fw func41 rfl ?_;refine Uc [.c [0] (Qt5 h1 h2),.f rfl] rfl ?_;refine nlc 0 2 rfl rfl rfl ?_;exact Ug [] [1,0,2,3,4,5,6] [.k ci,.c [2] c1,.c [3] c2,.c [4] c3,.c [5] c4,.c [6] c5] rfl
def Em.ins (A:Em) (p:Pt):Em×Int:=(if Nb A.np A.nd A.M p=0 then { A with M:=put A.M p } else A,Nb A.np A.nd A.M p)
def Em.rep (A:Em) (p:Pt):Em×Int:=(if My A.nd A.M p=0 then { A with M:=A.M.set (Ro A.M p.id) p } else A,My A.nd A.M p)
def Em.del (A:Em) (id:Int):Em×Int:=if has A.M id=true then ({ A with M:=A.M.take (Ro A.M id)++A.M.drop (Ro A.M id+1) },0) else (A,5)
open Classical in
noncomputable def Em.adv (A:Em) (t:Rat):Em×Int:=if Qs 128 t then (if t<A.q then (A,8) else ({ A with q:=t,s:=A.s+(cnt (O2 A.M) A.q t:Nat),t:=A.t+(cnt (PZ A.M) A.q t:Nat),h:=A.h+(cnt (GO A.M) A.q t:Nat),p:=A.p+(cnt (IX A.M) A.q t:Nat),d:=A.d+(cnt (NH A.M) A.q t:Nat) },0)) else (A,1)
theorem Qse {np nd:Int} {k:Crv} (hn:JR k) (hnd:nd<=2) (h1:QL k=true) (h2:¬nd<Ex k):Sc k:=by
 obtain ⟨s1,s2,s3⟩:=ES.1 h1;unfold Ex at h2;exact ⟨hn,s1,s2,s3,by omega,by omega⟩
theorem Qin {p:Pt} (h:XG p=true):(0<=p.id/\p.id<=1048576)/\QL p.c=true:=by
 simp only [XG,Zo,decide_eq_true_iff] at h;exact ⟨⟨h.1,h.2.1⟩,h.2.2⟩
theorem dZ {M:List Pt} (hs:Nc M) {p:Pt} (h:has M p.id=true):Nc (M.set (Ro M p.id) p):=by
 have hl:=YG h;have hid:∀ (x:Pt),M[Ro M p.id]? = some x->x.id=p.id:=λx hx=>by
  simp only [has,hx] at h; exact of_decide_eq_true h
 unfold Nc;rw [Yb];intro i j hi hj hij;rw [Xf] at hi hj;have hx:=Qe hi;have hy:=Qe hj;have hlt:=Qyu hs hij hx hy;rw [List.getElem_set,List.getElem_set]
 split
 ·rename_i e; subst e;rw [if_neg (by omega)];have:=hid _ hx;omega
 ·split
  ·rename_i e; subst e;have:=hid _ hy;omega
  ·exact hlt
theorem XH {M:List Pt} {i:Nat} {p x:Pt} (h:x∈M.set i p):x=p\/x∈M:=by
 rcases Jp h with h | h
 ·exact .inr h
 ·exact .inl h
theorem DO {M:List Pt} {i:Nat} {x:Pt} (h:x∈M.take i++M.drop (i+1)):x∈M:=by
 rcases Qq.1 h with h | h
 ·exact Qo h
 ·exact Q0 h
theorem tI {M:List Pt} (hs:Nc M) (i:Nat):Nc (M.take i++M.drop (i+1)):=by
 have h:=hs;unfold Nc at h ⊢;rw [<-Zi i M,X2] at h;refine X2.2 ⟨h.1,?_,λx hx y hy=>h.2.2 x hx y ?_⟩
 ·have:M.drop (i+1)=(M.drop i).drop 1:=by rw [Ju]
  rw [this]; exact h.2.1.sublist (List.drop_sublist _ _)
 ·have:M.drop (i+1)=(M.drop i).drop 1:=by rw [Ju]
  rw [this] at hy; exact Q0 hy
abbrev EnD (f:Nat) (args:Ut) (E:Es) (res:Ut) (E':Es):Prop:=Uz prog f args (enB 0 E) res (enB 0 E')
theorem CG {E:Es} {b:Int} (h:EOk b E) {lx ly:Ur} {px py:Ul} {x y:LV} {d id:Int} (hx:IsInts lx px) (hy:IsInts ly py) (hd:Gj x y d) (hk:Cs 4294967294 1073741824 (Crv.mk px py d)) :
 ∃ E',EOk b E'/\E'.m=(E.m.ins ⟨Crv.norm (Crv.mk px py d),id⟩).1/\EnD 27 [.one (.ow 0 0),.oi id,.agg [.row lx,.row ly,x,y]] E [.one (.int .i64 (E.m.ins ⟨Crv.norm (Crv.mk px py d),id⟩).2)] E':=by
 have hM:=h.m.m;have hl6:=hM.ln;have ct:=Qt6 (np:=E.np) (nd:=E.nd) (l:=E.M) (id:=id) hx hy hd hk (by omega);obtain ⟨p,hp⟩:=nmE (Pt.mk (Crv.norm (Crv.mk px py d)) id);have hpn:JR p.c:=by rw [hp]; exact Crv.nml _
 by_cases e:Nb E.np E.nd E.M p=0
 ·have e0:XG p=true/\has E.M p.id=false/\¬E.nd<Ex p.c/\¬E.np<=(E.M.length:Int):=by
   unfold Nb at e;by_cases a1:XG p=false
   ·rw [if_pos a1] at e; cases e
   rw [if_neg a1] at e;by_cases a2:has E.M p.id=true
   ·rw [if_pos a2] at e; cases e
   rw [if_neg a2] at e;by_cases a3:E.nd<Ex p.c
   ·rw [if_pos a3] at e; cases e
   rw [if_neg a3] at e;by_cases a4:E.np<=(E.M.length:Int)
   ·rw [if_pos a4] at e; cases e
   exact ⟨by simpa using a1,by simpa using a2,a3,a4⟩
  obtain ⟨f1,f2,f3,f4⟩:=e0;obtain ⟨g1,g2⟩:=Qin f1;have hsc:=Qse (np:=E.np) hpn h.nd.2 g2 f3;have hpl:(put E.M p).length<=6:=by rw [oR]; have:=h.np.2; omega
  have hM':MOk (put E.M p):=⟨λz hz=>by rcases MB hz with rfl | hz; exact hsc; exact hM.sc z hz,hpl,EV hM.so f2⟩;have hME:MEn E.np E.nd (put E.M p):=⟨hM',by rw [oR]; have:=h.np.2; omega,λz hz=>by rcases MB hz with rfl | hz; omega; exact h.m.deg z hz,λz hz=>by rcases MB hz with rfl | hz; exact g1; exact h.m.id z hz⟩;have hpe:WQ E.M p=0:=by unfold WQ; rw [if_neg (by rw [f2]; decide),if_neg (by have:=h.np.2; omega)]
  rw [hp] at e hpe hM' hME hpl;rw [e,if_pos rfl] at ct;obtain ⟨w1,l1,a1⟩:=h.s.again okS hM';obtain ⟨w2,l2,a2⟩:=h.t.again okT hM';obtain ⟨w3,l3,a3⟩:=h.h.again okH hM';obtain ⟨w4,l4,a4⟩:=h.p.again okP hM';obtain ⟨w5,l5,a5⟩:=h.d.again okD hM';have c1:=Qto (c:=E.s) (l:=E.M) (r1:=IJ E.M (tq E.q)) hx hy hd hk (by omega) hpe h.s.st.inv.ok hM'.sc (by omega) l1;have c2:=Qna (c:=E.t) (l:=E.M) (r1:=pT E.M (tq E.q)) hx hy hd hk (by omega) hpe h.t.st.inv.ok hM'.sc (by omega) l2;have c3:=Qmp (c:=E.h) (l:=E.M) (r1:=brH E.M (tq E.q)) hx hy hd hk (by omega) hpe h.h.st.inv.ok hM'.sc (by omega) l3;have c4:=Qmx (c:=E.p) (l:=E.M) (r1:=brP E.M (tq E.q)) hx hy hd hk (by omega) hpe h.p.st.inv.ok hM'.sc (by omega) l4;have c5:=Qmn (c:=E.d) (l:=E.M) (r1:=pR E.M (tq E.q)) hx hy hd hk (by omega) hpe h.d.st.inv.ok hM'.sc (by omega) l5;rw [h.s.now] at c1;rw [h.t.now] at c2;rw [h.h.now] at c3;rw [h.p.now] at c4;rw [h.d.now] at c5;obtain ⟨b1,r,rfl,rfl,_⟩:=hd;refine ⟨⟨E.np,E.nd,put E.M ⟨Crv.norm (Crv.mk px py d),id⟩,E.q,⟨tq E.q,w1,E.s.ev⟩,⟨tq E.q,w2,E.t.ev⟩,⟨tq E.q,w3,E.h.ev⟩,⟨tq E.q,w4,E.p.ev⟩,⟨tq E.q,w5,E.d.ev⟩⟩,⟨h.np,h.nd,hME,h.q,a1,a2,a3,a4,a5,h.es,h.et,h.eh,h.ep,h.ed⟩,?_,?_⟩
  ·unfold Em.ins;show _=if Nb E.np E.nd E.M _=0 then _ else _
   rw [if_pos e]; rfl
  ·have e2:(E.m.ins ⟨Crv.norm (Crv.mk px py d),id⟩).2=0:=e;rw [e2];exact Qem ct c1 c2 c3 c4 c5
 ·rw [hp] at e;rw [if_neg e] at ct;obtain ⟨b1,r,rfl,rfl,_⟩:=hd;refine ⟨E,h,?_,Qa6 e ct⟩;unfold Em.ins;show _=if Nb E.np E.nd E.M _=0 then _ else _
  rw [if_neg e]
theorem Qg0 {E:Es} {b:Int} (h:EOk b E) {lx ly:Ur} {px py:Ul} {x y:LV} {d id:Int} (hx:IsInts lx px) (hy:IsInts ly py) (hd:Gj x y d) (hk:Cs 4294967294 1073741824 (Crv.mk px py d)) :
 ∃ E',EOk b E'/\E'.m=(E.m.rep ⟨Crv.norm (Crv.mk px py d),id⟩).1/\EnD 38 [.one (.ow 0 0),.oi id,.agg [.row lx,.row ly,x,y]] E [.one (.int .i64 (E.m.rep ⟨Crv.norm (Crv.mk px py d),id⟩).2)] E':=by
 have hM:=h.m.m;have hl6:=hM.ln;have ct:=Qnp (np:=E.np) (nd:=E.nd) (l:=E.M) (id:=id) hx hy hd hk (by omega);obtain ⟨p,hp⟩:=nmE (Pt.mk (Crv.norm (Crv.mk px py d)) id);have hpn:JR p.c:=by rw [hp]; exact Crv.nml _
 have hpi:p.id=id:=by rw [hp]
 by_cases e:My E.nd E.M p=0
 ·have e0:XG p=true/\has E.M p.id=true/\¬E.nd<Ex p.c:=by
   unfold My at e;by_cases a1:XG p=false
   ·rw [if_pos a1] at e; cases e
   rw [if_neg a1] at e;by_cases a2:has E.M p.id=false
   ·rw [if_pos a2] at e; cases e
   rw [if_neg a2] at e;by_cases a3:E.nd<Ex p.c
   ·rw [if_pos a3] at e; cases e
   exact ⟨by simpa using a1,by simpa using a2,a3⟩
  obtain ⟨f1,f2,f3⟩:=e0;obtain ⟨g1,g2⟩:=Qin f1;have hsc:=Qse (np:=E.np) hpn h.nd.2 g2 f3;have hM':MOk (E.M.set (Ro E.M p.id) p):=⟨λz hz=>by rcases XH hz with rfl | hz; exact hsc; exact hM.sc z hz,by rw [Xf]; exact hl6,dZ hM.so f2⟩;have hME:MEn E.np E.nd (E.M.set (Ro E.M p.id) p):=⟨hM',by rw [Xf]; exact h.m.len,λz hz=>by rcases XH hz with rfl | hz; omega; exact h.m.deg z hz,λz hz=>by rcases XH hz with rfl | hz; exact g1; exact h.m.id z hz⟩;rw [hpi] at f2 hM' hME;rw [hp] at e hM' hME;rw [e,if_pos rfl] at ct;obtain ⟨w1,l1,a1⟩:=h.s.again okS hM';obtain ⟨w2,l2,a2⟩:=h.t.again okT hM';obtain ⟨w3,l3,a3⟩:=h.h.again okH hM';obtain ⟨w4,l4,a4⟩:=h.p.again okP hM';obtain ⟨w5,l5,a5⟩:=h.d.again okD hM';have c1:=Qm2 (c:=E.s) (l:=E.M) (r1:=IJ E.M (tq E.q)) hx hy hd hk (by omega) f2 h.s.st.inv.ok rfl hM'.sc l1;have c2:=Qfa (c:=E.t) (l:=E.M) (r1:=pT E.M (tq E.q)) hx hy hd hk (by omega) f2 h.t.st.inv.ok rfl hM'.sc l2;have c3:=Qek (c:=E.h) (l:=E.M) (r1:=brH E.M (tq E.q)) hx hy hd hk (by omega) f2 h.h.st.inv.ok rfl hM'.sc l3;have c4:=Qex (c:=E.p) (l:=E.M) (r1:=brP E.M (tq E.q)) hx hy hd hk (by omega) f2 h.p.st.inv.ok rfl hM'.sc l4;have c5:=Qed (c:=E.d) (l:=E.M) (r1:=pR E.M (tq E.q)) hx hy hd hk (by omega) f2 h.d.st.inv.ok rfl hM'.sc l5;rw [h.s.now] at c1;rw [h.t.now] at c2;rw [h.h.now] at c3;rw [h.p.now] at c4;rw [h.d.now] at c5;obtain ⟨b1,r,rfl,rfl,_⟩:=hd;refine ⟨⟨E.np,E.nd,E.M.set (Ro E.M id) ⟨Crv.norm (Crv.mk px py d),id⟩,E.q,⟨tq E.q,w1,E.s.ev⟩,⟨tq E.q,w2,E.t.ev⟩,⟨tq E.q,w3,E.h.ev⟩,⟨tq E.q,w4,E.p.ev⟩,⟨tq E.q,w5,E.d.ev⟩⟩,⟨h.np,h.nd,hME,h.q,a1,a2,a3,a4,a5,h.es,h.et,h.eh,h.ep,h.ed⟩,?_,?_⟩
  ·unfold Em.rep;show _=if My E.nd E.M _=0 then _ else _
   rw [if_pos e]; rfl
  ·have e2:(E.m.rep ⟨Crv.norm (Crv.mk px py d),id⟩).2=0:=e;rw [e2];exact Qe0 ct c1 c2 c3 c4 c5
 ·rw [hp] at e;rw [if_neg e] at ct;obtain ⟨b1,r,rfl,rfl,_⟩:=hd;refine ⟨E,h,?_,Qa8 e ct⟩;unfold Em.rep;show _=if My E.nd E.M _=0 then _ else _
  rw [if_neg e]
theorem Qgy {E:Es} {b id:Int} (h:EOk b E) :
 ∃ E',EOk b E'/\E'.m=(E.m.del id).1/\EnD 30 [.one (.ow 0 0),.oi id] E [.one (.int .i64 (E.m.del id).2)] E':=by
 have hM:=h.m.m;have hl6:=hM.ln;by_cases f2:has E.M id=true
 ·have ct:=Qno (np:=E.np) (nd:=E.nd) (l:=E.M) (by omega) f2;have hpl:=YG f2;have hgl:=Qht hpl;have hM':MOk (E.M.take (Ro E.M id)++E.M.drop (Ro E.M id+1)):=⟨λz hz=>hM.sc z (DO hz),by omega,tI hM.so _⟩;have hME:MEn E.np E.nd (E.M.take (Ro E.M id)++E.M.drop (Ro E.M id+1)):=⟨hM',by have:=h.m.len; omega,λz hz=>h.m.deg z (DO hz),λz hz=>h.m.id z (DO hz)⟩;obtain ⟨w1,l1,a1⟩:=h.s.again okS hM';obtain ⟨w2,l2,a2⟩:=h.t.again okT hM';obtain ⟨w3,l3,a3⟩:=h.h.again okH hM';obtain ⟨w4,l4,a4⟩:=h.p.again okP hM';obtain ⟨w5,l5,a5⟩:=h.d.again okD hM';have c1:=Qm0 (c:=E.s) (l:=E.M) (r1:=IJ E.M (tq E.q)) (by omega) f2 h.s.st.inv.ok rfl hM'.sc l1;have c2:=Qe9 (c:=E.t) (l:=E.M) (r1:=pT E.M (tq E.q)) (by omega) f2 h.t.st.inv.ok rfl hM'.sc l2;have c3:=Qej (c:=E.h) (l:=E.M) (r1:=brH E.M (tq E.q)) (by omega) f2 h.h.st.inv.ok rfl hM'.sc l3;have c4:=Qew (c:=E.p) (l:=E.M) (r1:=brP E.M (tq E.q)) (by omega) f2 h.p.st.inv.ok rfl hM'.sc l4;have c5:=Qec (c:=E.d) (l:=E.M) (r1:=pR E.M (tq E.q)) (by omega) f2 h.d.st.inv.ok rfl hM'.sc l5;rw [h.s.now] at c1;rw [h.t.now] at c2;rw [h.h.now] at c3;rw [h.p.now] at c4;rw [h.d.now] at c5;have e2:E.m.del id=({ E.m with M:=E.M.take (Ro E.M id)++E.M.drop (Ro E.M id+1) },0):=if_pos f2;rw [e2];exact ⟨⟨E.np,E.nd,E.M.take (Ro E.M id)++E.M.drop (Ro E.M id+1),E.q,⟨tq E.q,w1,E.s.ev⟩,⟨tq E.q,w2,E.t.ev⟩,⟨tq E.q,w3,E.h.ev⟩,⟨tq E.q,w4,E.p.ev⟩,⟨tq E.q,w5,E.d.ev⟩⟩,⟨h.np,h.nd,hME,h.q,a1,a2,a3,a4,a5,h.es,h.et,h.eh,h.ep,h.ed⟩,rfl,Qee ct c1 c2 c3 c4 c5⟩
 ·have e2:E.m.del id=(E.m,5):=if_neg f2;rw [e2];exact ⟨E,h,rfl,Qa2 (show (5:Int)≠0 by decide) (Qf0 (by omega) (by simpa using f2))⟩
theorem IA {E:Es} {b:Int} (h:EOk b E) (hb:b<=900000000000000000) {x0 x1 x2 x3:LV} {n m:Int} {t:Rat} (ha:Gj x0 x1 n) (hc:Gj x2 x3 m) (sa:U9 n<=4294967295) (sb:U9 m<=4294967295) (ht:Ha n m=t) :
 ∃ E',EOk (b+67000000) E'/\E'.m=(E.m.adv t).1/\((E.m.adv t).2≠0->E'=E)/\EnD 13 [.one (.ow 0 0),.agg [x0,x1,x2,x3]] E [.one (.int .i64 (E.m.adv t).2)] E':=by
 have hM:=h.m.m;have hl6:=hM.ln;by_cases hs:Qs 128 t
 ·by_cases hp:t<E.q
  ·have e2:E.m.adv t=(E.m,8):=by unfold Em.adv; rw [if_pos hs]; exact if_pos hp
   rw [e2];exact ⟨E,h.mono (by omega),rfl,λ_=>rfl,AT ha hc sa sb ht hs h.q hp⟩
  ·have hqt:E.q<=t:=Wx.1 hp;have e2:E.m.adv t=(({ E.m with q:=t,s:=E.s.ev+(cnt (O2 E.M) E.q t:Nat),t:=E.t.ev+(cnt (PZ E.M) E.q t:Nat),h:=E.h.ev+(cnt (GO E.M) E.q t:Nat),p:=E.p.ev+(cnt (IX E.M) E.q t:Nat),d:=E.d.ev+(cnt (NH E.M) E.q t:Nat) }:Em),0):=by unfold Em.adv; rw [if_pos hs]; exact if_neg hp
   rw [e2];have hq:Qs 1640000 t:=hs.mono (by decide);obtain ⟨K1,d1,k1,g1,a1,v1,u1,_⟩:=h.s.adv okS hM hq hqt;obtain ⟨K2,d2,k2,g2,a2,v2,u2,_⟩:=h.t.adv okT hM hq hqt;obtain ⟨K3,d3,k3,g3,a3,v3,u3,_⟩:=h.h.adv okH hM hq hqt;obtain ⟨K4,d4,k4,g4,a4,v4,u4,_⟩:=h.p.adv okP hM hq hqt;obtain ⟨K5,d5,k5,g5,a5,v5,u5,_⟩:=h.d.adv okD hM hq hqt;have hcm:∀ {c:Cr},c.now=tq E.q->Ff c.now t<=0:=λ{c} hn=>by
    rw [hn,SI]; exact MJ.2 hqt
   have c1:=Qtm hq hM.sc (by omega) h.s.st.inv.ok (by have:=h.es; omega) (hcm h.s.now) g1;have c2:=Qm9 hq hM.sc (by omega) h.t.st.inv.ok (by have:=h.et; omega) (hcm h.t.now) g2;have c3:=Qtb hq hM.sc (by omega) h.h.st.inv.ok (by have:=h.eh; omega) (hcm h.h.now) g3;have c4:=Qmw hq hM.sc (by omega) h.p.st.inv.ok (by have:=h.ep; omega) (hcm h.p.now) g4;have c5:=Qs9 hq hM.sc (by omega) h.d.st.inv.ok (by have:=h.ed; omega) (hcm h.d.now) g5;refine ⟨⟨E.np,E.nd,E.M,t,d1,d2,d3,d4,d5⟩,⟨h.np,h.nd,h.m,hs,a1,a2,a3,a4,a5,?_,?_,?_,?_,?_⟩,?_,λh=>absurd rfl h,Qa1 ha hc sa sb ht hs h.q hqt c1 c2 c3 c4 c5⟩
   ·have:=h.es; show 0<=d1.ev/\d1.ev<=_; omega
   ·have:=h.et; show 0<=d2.ev/\d2.ev<=_; omega
   ·have:=h.eh; show 0<=d3.ev/\d3.ev<=_; omega
   ·have:=h.ep; show 0<=d4.ev/\d4.ev<=_; omega
   ·have:=h.ed; show 0<=d5.ev/\d5.ev<=_; omega
   ·unfold Es.m;simp only [v1,v2,v3,v4,v5]
 ·have e2:E.m.adv t=(E.m,1):=by unfold Em.adv; exact if_neg hs
  rw [e2];exact ⟨E,h.mono (by omega),rfl,λ_=>rfl,xG ha hc sa sb ht hs⟩
end Orr
namespace Orr
open Go Go.Proofs Tryz Orq
set_option maxRecDepth 10000
abbrev mK (A:Em):Uq:=[.int .i64 A.s,.int .i64 A.t,.int .i64 A.h,.int .i64 A.p,.int .i64 A.d]
theorem uE {E:Es}:EnD 11 [.one (.ow 0 0)] E [.agg (mK E.m)] E:=wK
theorem wQ {b:Int} (h:0<=b):0<=(0:Int)/\(0:Int)<=b:=⟨J3 _,h⟩
def AD (np nd:Int):Es:=⟨np,nd,[],0,Qmc [] (tq 0),Qxb [] (tq 0),Qw9 [] (tq 0),Qxa [] (tq 0),Qw8 [] (tq 0)⟩
theorem YW:MOk []:=⟨λp h=>(by cases h),by decide,List.Pairwise.nil⟩
theorem Qiy {np nd:Int} (h1:1<=np/\np<=6) (h2:0<=nd/\nd<=2):EOk 0 (AD np nd):=by
 have hq:Qs 1640000 (0:Rat):=⟨by decide,by decide⟩;exact ⟨h1,h2,⟨YW,by show ((0:Nat):Int)<=np; omega,λp h=>(by cases h),λp h=>(by cases h)⟩,(show Qs 128 (0:Rat) from ⟨by decide,by decide⟩),At.begin okS YW hq,At.begin okT YW hq,At.begin okH YW hq,At.begin okP YW hq,At.begin okD YW hq,wQ (J3 _),wQ (J3 _),wQ (J3 _),wQ (J3 _),wQ (J3 _)⟩
theorem Qes {np nd:Int} (h1:1<=np/\np<=6) (h2:0<=nd/\nd<=2):Uz prog 41 [.oi np,.oi nd] [] [.one (.ow 0 0),.oi 0] (enB 0 (AD np nd)):=Qta h1 h2
theorem Qwo:(WS (O2 SO) (IJ SO) 3 600 (Qmc SO (tq 0)) (IJ SO (tq 0)) 0).map (λx=>x.2.2)=some 1:=by decide +kernel
theorem Qqu:(Sf (tq 3) SO).map (·.id)=[2,1]:=by decide +kernel
theorem Qiq:MOk SO:=⟨Qza,by decide,by unfold Nc SO; decide⟩
theorem Qwn:cnt (O2 SO) 0 3=1:=by
 have hq:Qs 1640000 (0:Rat):=⟨by decide,by decide⟩;have ht:Qs 1640000 (3:Rat):=⟨by decide,by decide⟩;have S:=okS.st SO Qiq;have hv:=GG hq;have hP:=okS.cp SO Qiq;have hm:=vC hP;have hmu:=Qis ((kS.al SO).flatMap JK) (tq 0);have hl:(Lf SO).length=8:=by rw [kO]; rfl
 have hc:¬Pu (tq 3) (tq 0):=λh'=>by
  have:=(ZS hv.cut).2 h';rw [SI] at this;exact absurd this (by decide +kernel)
 have hl2:(kS.al SO).length=8:=hl;obtain ⟨c',r',E,g1,g2,g3,g4,g5,g6⟩:=Qhs S ht hP (λa _=>okS.al SO a) 599 ⟨tq 0,(Fp (O2 SO (tq 0))).map fresh,0⟩ (IJ SO (tq 0)) 0 (Qc hmu (by omega)) (pW S hv) hc;have h1:=Qwo;have g1:WS (O2 SO) (IJ SO) 3 600 (Qmc SO (tq 0)) (IJ SO (tq 0)) 0=some (c',r',0+((E.length:Nat):Int)):=g1;rw [g1] at h1;have h1:some (0+((E.length:Nat):Int))=some 1:=h1;injection h1 with h1;rw [mW S hv g6];omega
theorem Qi0:Crv.norm (Crv.mk [0,1] [] 0)=run1:=by
 have e:Crv.norm (Crv.mk [0,1] [] 1)=Crv.norm (Crv.mk [0,1] [] 0):=by simp only [Crv.norm,Crv.g,Crv.d']; rfl
 rw [<-e]; exact Crv.norm_of LY
theorem Qxx:Ui 53 [.one (.row [[.bool false,.row []],[.bool false,.row [[.int .u32 1]]]]),.one (.row [])] [.agg (cl run1)]:=by
 have i01:IsInts [[.bool false,.row []],[.bool false,.row [[.int .u32 1]]]] [0,1]:=by
  refine ⟨⟨_,_,rfl,false,[],rfl,rfl,(λx hx=>by cases hx),rfl⟩,⟨_,_,rfl,false,[1],rfl,rfl,(λx hx=>by rw [Qk.1 hx]; decide),rfl⟩,trivial⟩
 have h:=Qrl (lx:=[[.bool false,.row []],[.bool false,.row [[.int .u32 1]]]]) (ly:=[]) (px:=[0,1]) (py:=[]) i01 trivial ⟨Ux cs_run1.x (by decide),VL,by show U9 0<=_; decide,by show 2<=1073741824; decide,by show 0<=1073741824; decide⟩;rw [Qi0] at h; exact h
theorem Qpm:Nb 2 1 [] ⟨run1,1⟩=0:=by decide +kernel
theorem Qpn:Nb 2 1 [⟨run1,1⟩] ⟨Oy 1 0,2⟩=0:=by decide +kernel
theorem Qwq:∃ E1 E2:Es,EOk 0 E2/\E2.m=⟨2,1,SO,0,0,0,0,0,0⟩/\EnD 27 [.one (.ow 0 0),.oi 1,.agg (cl run1)] (AD 2 1) [.oi 0] E1/\EnD 27 [.one (.ow 0 0),.oi 2,.agg (cl (Oy 1 0))] E1 [.oi 0] E2:=by
 have h0:=Qiy (np:=2) (nd:=1) (by decide) (by decide);have hst:=tM (x:=1) (y:=0) (by decide) (by decide);have e1:Crv.norm (Crv.mk run1.x run1.y run1.d)=run1:=Crv.norm_of LY;have e2:Crv.norm (Crv.mk (Oy 1 0).x (Oy 1 0).y (Oy 1 0).d)=Oy 1 0:=Crv.norm_of hst.n;obtain ⟨E1,a1,a2,a3⟩:=CG h0 (id:=1) (Gv run1.x) (Gv run1.y) (Uy run1.d) (cs_run1.up (by decide) (by decide));rw [e1] at a2 a3;have i1:(AD 2 1).m.ins ⟨run1,1⟩=((⟨2,1,[⟨run1,1⟩],0,0,0,0,0,0⟩:Em),0):=by
  unfold Em.ins;rw [show Nb (AD 2 1).m.np (AD 2 1).m.nd (AD 2 1).m.M ⟨run1,1⟩=0 from Qpm,if_pos rfl]; rfl
 rw [i1] at a2 a3;obtain ⟨E2,b1,b2,b3⟩:=CG a1 (id:=2) (Gv (Oy 1 0).x) (Gv (Oy 1 0).y) (Uy (Oy 1 0).d) (hst.c.mono (by decide) (by decide));rw [e2,a2] at b2 b3;have i2:((⟨2,1,[⟨run1,1⟩],0,0,0,0,0,0⟩:Em),(0:Int)).1.ins ⟨Oy 1 0,2⟩=((⟨2,1,SO,0,0,0,0,0,0⟩:Em),0):=by
  unfold Em.ins;dsimp only;rw [Qpn,if_pos rfl]; rfl
 rw [i2] at b2 b3;exact ⟨E1,E2,b1,b2,a3,b3⟩
theorem Qr5 {E:Es} {A:Em} (h:E.m=A):E.np=A.np/\E.nd=A.nd/\E.M=A.M/\E.q=A.q/\E.s.ev=A.s/\E.t.ev=A.t/\E.h.ev=A.h/\E.p.ev=A.p/\E.d.ev=A.d:=by subst h; exact ⟨rfl,rfl,rfl,rfl,rfl,rfl,rfl,rfl,rfl⟩
theorem NW {A:Em} {t:Rat} (h1:Qs 128 t) (h2:¬t<A.q):A.adv t=(({ A with q:=t,s:=A.s+(cnt (O2 A.M) A.q t:Nat),t:=A.t+(cnt (PZ A.M) A.q t:Nat),h:=A.h+(cnt (GO A.M) A.q t:Nat),p:=A.p+(cnt (IX A.M) A.q t:Nat),d:=A.d+(cnt (NH A.M) A.q t:Nat) }:Em),0):=by
 unfold Em.adv; rw [if_pos h1]; exact if_neg h2
theorem Qbs:Ui 16 [] [.one (.bool true)]:=by
 obtain ⟨E1,E2,h2,m2,i1,i2⟩:=Qwq;have ht:Qs 128 (3:Rat):=⟨by decide,by decide⟩;obtain ⟨E3,h3,m3,_,a3⟩:=IA h2 (by decide) (Uy (3:Rat).num) (Uy ((3:Rat).den:Int)) (by decide) (by decide) (Pa 3);rw [m2,NW ht (by show ¬(3:Rat)<0; decide)] at m3 a3;obtain ⟨_,_,e1,e2,e3,_⟩:=Qr5 m2;obtain ⟨_,_,f1,f2,f3,_⟩:=Qr5 m3;dsimp only at e1 e2 e3 f1 f2 f3;rw [Qwn] at f3;have t2:=Qe8 (np:=E2.np) (nd:=E2.nd) (M:=E2.M) (q:=E2.q) (s:=E2.s) (t:=E2.t) (h:=E2.h) (p:=E2.p) (d:=E2.d) h2.m.m.ln;have t3:=Qe8 (np:=E3.np) (nd:=E3.nd) (M:=E3.M) (q:=E3.q) (s:=E3.s) (t:=E3.t) (h:=E3.h) (p:=E3.p) (d:=E3.d) h3.m.m.ln;obtain ⟨A2,hA2⟩:=nmE (Qsv E2.M E2.q);obtain ⟨A3,hA3⟩:=nmE (Qsv E3.M E3.q);rw [<-hA2] at t2;rw [<-hA3] at t3;have g2:∃ a b c d,A2=[ids [1,2],.row a,.row b,.row c,.row d]:=by
  rw [hA2,e1,e2];show ∃ a b c d,[ids ((Sf (tq 0) SO).map (·.id)),_,_,_,_]=_;rw [Qwp];exact ⟨_,_,_,_,rfl⟩
 have g3:∃ a b c d,A3=[ids [2,1],.row a,.row b,.row c,.row d]:=by
  rw [hA3,f1,f2];show ∃ a b c d,[ids ((Sf (tq 3) SO).map (·.id)),_,_,_,_]=_;rw [Qqu];exact ⟨_,_,_,_,rfl⟩
 obtain ⟨a,b,c,d,rfl⟩:=g2;obtain ⟨a',b',c',d',rfl⟩:=g3;have cs:=Qe4 (a:=[1,2]) (b:=[1,2]) (by decide) (by decide);have cs2:=Qe4 (a:=[2,1]) (b:=[2,1]) (by decide) (by decide);have co:=VI (n:=3) (by decide);have ct:=Qrk (q:=3) ⟨by decide,by decide⟩;have cst:=Qm3 (x:=1) (y:=0) (by decide) (by decide);have ce:=wK (np:=E3.np) (nd:=E3.nd) (M:=E3.M) (q:=E3.q) (s:=E3.s) (t:=E3.t) (h:=E3.h) (p:=E3.p) (d:=E3.d);rw [f3] at ce;refine Fw func16 rfl ?_;exact Ue [.c Uu (Qes (by decide) (by decide)),.f rfl,.f rfl,.z 16,.k Qxx,.c Uu i1,.f rfl,.k cst,.c Uu i2,.f rfl,.c Uu t2,.k co,.k ct,.c Uu a3,.t rfl,.k cs,.t rfl,.c Uu t3,.k cs2,.t rfl,.c Uu ce,.i 0] rfl rfl (by simp [Uw])
def Ik (M:List Pt):Int:=M.foldl (λd p=>max d (Ex p.c)) 0
theorem IP {M:List Pt} {i:Nat} {p:Pt} (h:M[i]? = some p):Ik (M.take (i+1))=max (Ik (M.take i)) (Ex p.c):=by
 unfold Ik; rw [List.take_succ,h,Option.toList_some,List.foldl_append]; rfl
theorem Qn0 {k:Crv} (hk:Cs 128 3 k):0<=Ex k/\Ex k<=2:=by
 have:=hk.lx; have:=hk.ly; unfold Ex; omega
theorem jJ {M:List Pt} (h:∀ p∈M,Sc p.c):∀ i,0≤Ik (M.take i)/\Ik (M.take i)≤2
 | 0=>by unfold Ik; simp
 |
  i+1=>by
  have ih:=jJ h i;cases hi:M[i]? with
  |
   none =>
   rw [Qn (by have:=Xz.1 hi; omega)];rw [Qn (Xz.1 hi)] at ih;exact ih
  |
   some p =>
   rw [IP hi];have:=Qn0 (h p (Qa hi)).c;omega
theorem Qt3 {np nd:Int} {l:List Pt} (hs:∀ p∈l,Sc p.c) (hl:l.length≤1000000):Uz prog 49 [.one (.ow 0 0)] [tB np nd l] [.oi (Ik l)] [tB np nd l]:=by
 have hll:(l.map U5).length=l.length:=by simp
 refine Fw func49 rfl ?_;refine Uc [] rfl ?_;refine lp (S:=Nat) 1 (λL1 i=>(11,.v (.oi i))::(3,.v (.oi (Ik (l.take i))))::L1) (λ_=>[tB np nd l]) (λi=>l.length-i) (λi=>i<=l.length) 0 (Qh _) rfl (λ_ _=>rfl) (by rw [Y7]; rfl) λi hi=>?_
 by_cases h:i<l.length
 ·obtain ⟨p,hp⟩:=gxE (l:=l) (i:=i) h;have hsc:=hs p (Qa hp);have cd:=pI hsc.n (hsc.c.mono (by decide) (by decide));refine Ud [.t (by simp; omega),.x (Tr hp),.k cd] rfl ?_;exact rd (i+1) (by omega) h (by rw [IP hp]; rfl)
 ·obtain rfl:i=l.length:=by omega
  rw [Q7];exact Ug [] [0] [.f (by simp)] rfl
theorem Qd9 {E:Es} {b:Int} (h:EOk b E) {n d:Int} (hn:n=E.M.length) (hd:d=Ik E.M):EnD 12 [.one (.ow 0 0)] E [.agg [.int .i64 (n*n*d),.int .i64 (n*n*d),.int .i64 (2*(n*n*n*d)+n*n*d),.int .i64 (2*(n*n*n*n*d)),.int .i64 (2*(n*n*n*d)+4*(n*n*n*n*d))]] E:=by
 have hl6:=h.m.m.ln;have hb:=jJ h.m.m.sc E.M.length;rw [Q7] at hb;have c1:=Qt4 (np:=E.np) (nd:=E.nd) (l:=E.M);have c2:=Qt3 (np:=E.np) (nd:=E.nd) h.m.m.sc (by omega);rw [<-hn] at c1;rw [<-hd] at c2 hb;have hn6:0<=n/\n<=6:=by omega
 have m2:0<=n*n/\n*n<=36:=⟨Vu hn6.1 hn6.1,by have:=Vs hn6.2 hn6.2 hn6.1 (by decide); omega⟩;have m3:0<=n*n*n/\n*n*n<=216:=⟨Vu m2.1 hn6.1,by have:=Vs m2.2 hn6.2 hn6.1 (by decide); omega⟩;have m4:0<=n*n*n*n/\n*n*n*n<=1296:=⟨Vu m3.1 hn6.1,by have:=Vs m3.2 hn6.2 hn6.1 (by decide); omega⟩;have d2:0<=n*n*d/\n*n*d<=72:=⟨Vu m2.1 hb.1,by have:=Vs m2.2 hb.2 hb.1 (by decide); omega⟩;have d3:0<=n*n*n*d/\n*n*n*d<=432:=⟨Vu m3.1 hb.1,by have:=Vs m3.2 hb.2 hb.1 (by decide); omega⟩;have d4:0<=n*n*n*n*d/\n*n*n*n*d<=2592:=⟨Vu m4.1 hb.1,by have:=Vs m4.2 hb.2 hb.1 (by decide); omega⟩;refine Fw func12 rfl ?_;exact Ug [] [0,1,2,3,4,5,6] [.lo,.c [1] c1,.lo,.c [1] c2] rfl (by simp only [Uw]; omega)
def vI (z:RawInt):Int:=U8 z.b (val z.l)
def RawInt.cutN (z:RawInt) (n:Nat):RawInt:=⟨z.b,z.l.take n⟩
theorem RawInt.Ok.cutN_ok {z:RawInt} (h:z.Ok) (n:Nat):(z.cutN n).Ok:=⟨λu hu=>h.u u (Qo hu)⟩
theorem qQ {z:RawInt} (h:z.Ok):Gj (.bool z.b) (.row (lm z.l)) (vI z):=⟨z.b,z.l,rfl,rfl,h.u,rfl⟩
theorem aB {z:RawInt} (h:z.Ok) {n:Nat} (hl:z.l.length<=n):U9 (vI z)<=32*n:=by
 have h1:=Ck z.l h.u;have e:(vI z).natAbs=val z.l:=by unfold vI U8; split <;> simp
 refine Sl.2 ?_;rw [e,Wm];exact Z8 h1 (Zs (by decide) hl)
theorem uW (z:RawInt) (n:Nat):(z.cutN n).l.length<=n:=by show (z.l.take n).length<=n; rw [Qr]; omega
theorem PE {z:RawInt} {n:Nat} (hn:n<=1000):Ui 136 [.agg (An z),.oi n] [.agg (An (z.cutN n))] :=
 Uf func136 rfl [.k (Qtv (l:=z.l) hn)] rfl
theorem Qng {t u:RawInt}:Ui 95 [.agg (An t++An u),.oi 6] [.agg (An (t.cutN 6)++An (u.cutN 6))] :=
 Uf func95 rfl [.k (PE (z:=t) (n:=6) (by decide)),.k (PE (z:=u) (n:=6) (by decide))] rfl
theorem wM {l:List RawInt}:Ui 135 [.one (.row (Ig l)),.oi 4,.oi 1] [.one (.row (Ig ((l.take 4).map (·.cutN 1))))]:=by
 have hll:=Ou l;refine Fw func135 rfl (ln 0 rfl rfl λhzl=>?_);rw [hll] at hzl;refine Uc [.o 7 34 2] rfl ?_;refine Uh (S:=Nat) 1 (λL1 i=>(8,.v (.oi i))::(7,.v (.one (.orow 0 2 none)))::L1) (λi=>[.row false 34 2 (Ig ((l.take i).map (·.cutN 1)))]) (λi=>4-i) (λi=>i<=4/\i<=l.length) 0 ⟨by decide,Qh _⟩ rfl rfl λi ⟨hi,hi2⟩=>?_
 have hil:(Ig ((l.take i).map (·.cutN 1))).length=i:=by rw [Ou,Q8,Qr]; omega
 by_cases h1:i<l.length
 ·by_cases h2:i<4
  ·obtain ⟨z,hz⟩:=gxE (l:=l) (i:=i) h1;have hm:∀ y∈[An (z.cutN 1)],y.length=2:=λy hy=>by rw [Qk.1 hy]; rfl
   refine go tt [.g 13 true Uk,.T,.x (G7 (f:=An) hz),.k (PE (n:=1) (by decide)),.s (sz:=2) hm] rfl (by simp [Uw,hil,-List.map_take]; omega) ?_;exact rd (i+1) (by omega) ⟨h2,h1⟩ (by rw [Z3,hz]; simp [Ig]; rfl)
  ·have e:i=4:=by omega
   have e2:l.take 4=l.take i:=by rw [e]
   rw [e2];exact Ue [.g 13 true Uk,.F] rfl
 ·have e:l.take i=l.take 4:=by rw [Qn (by omega),Qn (by omega)]
  rw [e];exact Ue [.g 13 false Uj,.f rfl] rfl
theorem Qs8 {z:RawPt}:Ui 93 [.agg (rcw z),.oi 4,.oi 1] [.agg [.row (Ig ((z.x.take 4).map (·.cutN 1))),.row (Ig ((z.y.take 4).map (·.cutN 1))),.bool z.d.b,.row (lm (z.d.l.take 1))]] :=
 Uf func93 rfl [.k (wM (l:=z.x)),.k (wM (l:=z.y)),.k (PE (z:=z.d) (n:=1) (by decide))] rfl
theorem KH:∀ {l:List RawInt},(∀ z∈l,z.Ok)->IsInts (Ig l) (l.map vI)
 | [],_=>trivial
 | z::l,h=>⟨⟨_,_,rfl,qQ (h z (Qy ..))⟩,KH λy hy=>h y (Qg _ hy)⟩
end Orr
namespace Orr
open Go
structure RawOp where
 k:Int
 n:Int
 d:Int
 p:RawPt
 t:RawInt
 u:RawInt
structure RawOp.Ok (o:RawOp):Prop where
 k:-9223372036854775808<=o.k/\o.k<=9223372036854775807
 n:-9223372036854775808<=o.n/\o.n<=9223372036854775807
 d:-9223372036854775808<=o.d/\o.d<=9223372036854775807
 p:o.p.Ok
 t:o.t.Ok
 u:o.u.Ok
abbrev rwo (o:RawOp):Uq:=[.int .i64 o.k,.int .i64 o.n,.int .i64 o.d]++rwq o.p++An o.t++An o.u
def qH (l:List RawOp):Ur:=l.map rwo
theorem Qcr (l:List RawOp):(qH l).length=l.length:=by simp [qH]
theorem Qcq {l:List RawOp} {i:Nat} {o:RawOp} (h:l[i]? = some o):(qH l)[i]? = some (rwo o):=by rw [qH,Zb,h]; rfl
end Orr
namespace Orr
open Go Go.Proofs Tryz Orq
set_option maxRecDepth 10000
def Oa (N:Int):Int:=if N=2 then 999 else if N=3 then 99 else 20
theorem gC (N:Int):0<=Oa N/\Oa N<=999:=by unfold Oa; split; decide; split; decide; decide
def VZ (N:Int) (z:RawPt):Crv:=if 1<N then ⟨Gi (Oa N) z.x++(if 3<z.x.length then [1] else []),Gi (Oa N) z.y,Hu 3 z.d⟩ else ⟨((z.x.take 4).map (·.cutN 1)).map vI,((z.y.take 4).map (·.cutN 1)).map vI,vI (z.d.cutN 1)⟩
theorem Qjy {l:List RawInt} (h:∀ a∈l,a.Ok):∀ z∈(l.take 4).map (·.cutN 1),z.Ok:=λz hz=>by
 obtain ⟨y,hy,rfl⟩:=Q6.1 hz;exact (h y (Qo hy)).cutN_ok 1
theorem Qjx {l:List RawInt} (h:∀ a∈l,a.Ok):Bd 40 (((l.take 4).map (·.cutN 1)).map vI):=λz hz=>by
 obtain ⟨y,hy,rfl⟩:=Q6.1 hz;obtain ⟨x,hx,rfl⟩:=Q6.1 hy;exact Qc (aB ((h x (Qo hx)).cutN_ok 1) (uW x 1)) (by decide)
theorem Qnv {N:Int} {z:RawPt} (hz:z.Ok):Cs 40 4 (VZ N z):=by
 unfold VZ
 split
 ·have h:=Qbq (gC N) z.x z.y z.d;refine ⟨λy hy=>?_,Ux h.y (by decide),Qc h.d (by decide),?_,Qc h.ly (by decide)⟩
  ·rcases Qq.1 hy with hy | hy
   ·exact Qc (h.x y hy) (by decide)
   ·split at hy
    ·rw [Qk.1 hy]; decide
    ·cases hy
  ·have:=h.lx;have h2:(Gi (Oa N) z.x).length<=3:=this;show (_++_:Ul).length<=4;rw [Qu]
   split <;> simp <;> omega
 ·exact ⟨Qjx hz.x,Qjx hz.y,Qc (aB (hz.d.cutN_ok 1) (uW z.d 1)) (by decide),by show (List.map _ _).length<=4; rw [Q8,Q8,Qr]; omega,by show (List.map _ _).length<=4; rw [Q8,Q8,Qr]; omega⟩
def aH (o:RawOp):Int:=if Bn o.k 12<10 then Bn o.p.id 6 else o.p.id
abbrev Qxz (o:RawOp) (lx ly:Ur) (bb:Bool) (l3:Ur):Uq:=[.int .i64 o.k,.int .i64 o.n,.int .i64 o.d,.row lx,.row ly,.bool bb,.row l3,.int .i64 (aH o)]++An (o.t.cutN 6)++An (o.u.cutN 6)
abbrev Qjb (ms:Uq) (N:Int):Uq:=[.ow 0 0,.sh ms,.int .i64 N]
theorem yX {most:Int} {l:List RawInt} (h:3<l.length):(Gi most l).length=3:=by unfold Gi; rw [List.length_map,List.length_take]; omega
abbrev Qr8:Uq:=[.bool false,.row [[.int .u32 1]]]
theorem nW {p:Ul}:IsInts (p.map Hg++[Qr8]) (p++[1]):=(Gv p).append ⟨⟨_,_,rfl,false,[1],rfl,rfl,(λx hx=>by rw [Qk.1 hx]; decide),rfl⟩,trivial⟩
theorem Qa7 {z:RawPt} (hz:z.Ok) {most:Int} (hm:0<=most/\most<=999):Uz prog 94 [.agg (rcw z),.oi most] [] [.agg [.orow 0 2 none,.row (Ae (Gi most z.y)),sg (Hu 3 z.d),mg (Hu 3 z.d)]] [.row false 34 2 (Ae (Gi most z.x))]:=by
 have hxl:=Ou z.x;have hyl:=Ou z.y;obtain ⟨D,hD⟩:=nmE (Hu 3 z.d);have cd:=UZ hz.d (most:=3) (by decide);have hx0:∀ {i:Nat},z.x.length<=i\/3<=i->Gi most (z.x.take i)=Gi most z.x:=SY most;have hy0:∀ {i:Nat},z.y.length<=i\/3<=i->Gi most (z.y.take i)=Gi most z.y:=SY most;rw [<-hD] at cd ⊢;refine Fw func94 rfl ?_;refine Uc [.k cd] rfl ?_;refine oz2 5 0 34 2 rfl rfl ?_;refine Uh (S:=Nat) 4 (λL1 i=>(6,.v (.oi i))::L1) (λi=>[.blk 36 (rcw z),.blk 36 [.nils,.nils,.bool false,.nils],.blk 36 [.orow 3 2 none,.nils,sg D,mg D],.row false 34 2 (Ae (Gi most (z.x.take i)))]) (λi=>3-i) (λi=>i<=3/\i<=z.x.length) 0 ⟨by decide,Qh _⟩ rfl rfl λi ⟨hi,hi2⟩=>?_
 have hll:=yZ (most:=most) hi hi2;by_cases hr:i<z.x.length/\i<3
 ·obtain ⟨a,ha⟩:=gxE (l:=z.x) (i:=i) hr.1;have hs:∀ y∈[Hg (Hu most a)],y.length=2:=λy hy=>by rw [Qk.1 hy]; rfl
  refine go tt [.g 17 true Uk,.T,.x (G7 (f:=An) ha),.k (UZ (hz.x a (Qa ha)) hm),.s (sz:=2) hs] rfl (by simp [Uw,hll]; omega) ?_;exact rd (i+1) (by omega) ⟨hr.2,hr.1⟩ (by rw [RH hr.2 ha]; rfl)
 have hg1:decide ((i:Int)<((Ig z.x).length:Int))=true->i<z.x.length:=λh=>by have:=of_decide_eq_true h; omega
 rw [hx0 (by omega)];clear hll;have hfin:∀ {j:Nat},j<=3/\j<=z.y.length->¬(j<z.y.length/\j<3)->Ae (Gi most (z.y.take j))=Ae (Gi most z.y):=λh1 h2=>by rw [hy0 (by omega)]
 by_cases hxx:i<z.x.length
 ·refine Uc [.g 17 true Uk,.F] rfl ?_;refine oz2 5 1 34 2 rfl rfl ?_;refine Uh (S:=Nat) 5 (λL1 j=>(7,.v (.oi j))::L1) (λj=>[.blk 36 (rcw z),.blk 36 [.nils,.nils,.bool false,.nils],.blk 36 [.orow 3 2 none,.orow 4 2 none,sg D,mg D],.row false 34 2 (Ae (Gi most z.x)),.row false 34 2 (Ae (Gi most (z.y.take j)))]) (λj=>3-j) (λj=>j<=3/\j<=z.y.length) 0 ⟨by decide,Qh _⟩ rfl rfl λj ⟨hj,hj2⟩=>?_
  have hll:=yZ (most:=most) hj hj2;by_cases hr:j<z.y.length/\j<3
  ·obtain ⟨a,ha⟩:=gxE (l:=z.y) (i:=j) hr.1;have hs:∀ y∈[Hg (Hu most a)],y.length=2:=λy hy=>by rw [Qk.1 hy]; rfl
   refine go tt [.g 40 true Uk,.T,.x (G7 (f:=An) ha),.k (UZ (hz.y a (Qa ha)) hm),.s (sz:=2) hs] rfl (by simp [Uw,hll]; omega) ?_;exact rd (j+1) (by omega) ⟨hr.2,hr.1⟩ (by rw [RH hr.2 ha]; rfl)
  rw [hfin ⟨hj,hj2⟩ hr];by_cases hyy:j<z.y.length
  ·exact Ug [4] [3] [.g 40 true Uk,.F] rfl
  ·exact Ug [4] [3] [.g 40 false Uj,.f rfl] rfl
 ·refine Uc [.g 17 false Uj,.f rfl] rfl ?_;refine oz2 5 1 34 2 rfl rfl ?_;refine Uh (S:=Nat) 5 (λL1 j=>(7,.v (.oi j))::L1) (λj=>[.blk 36 (rcw z),.blk 36 [.nils,.nils,.bool false,.nils],.blk 36 [.orow 3 2 none,.orow 4 2 none,sg D,mg D],.row false 34 2 (Ae (Gi most z.x)),.row false 34 2 (Ae (Gi most (z.y.take j)))]) (λj=>3-j) (λj=>j<=3/\j<=z.y.length) 0 ⟨by decide,Qh _⟩ rfl rfl λj ⟨hj,hj2⟩=>?_
  have hll:=yZ (most:=most) hj hj2;by_cases hr:j<z.y.length/\j<3
  ·obtain ⟨a,ha⟩:=gxE (l:=z.y) (i:=j) hr.1;have hs:∀ y∈[Hg (Hu most a)],y.length=2:=λy hy=>by rw [Qk.1 hy]; rfl
   refine go tt [.g 40 true Uk,.T,.x (G7 (f:=An) ha),.k (UZ (hz.y a (Qa ha)) hm),.s (sz:=2) hs] rfl (by simp [Uw,hll]; omega) ?_;exact rd (j+1) (by omega) ⟨hr.2,hr.1⟩ (by rw [RH hr.2 ha]; rfl)
  rw [hfin ⟨hj,hj2⟩ hr];by_cases hyy:j<z.y.length
  ·exact Ug [4] [3] [.g 40 true Uk,.F] rfl
  ·exact Ug [4] [3] [.g 40 false Uj,.f rfl] rfl
set_option maxHeartbeats 4000000 in
theorem Qtl {E:Es} {N:Int} {o:RawOp} {ms:Uq} (hN:1<=N/\N<=4) (ho:o.Ok):∃ lx ly bb l3,IsInts lx (VZ N o.p).x/\IsInts ly (VZ N o.p).y/\Gj (.bool bb) (.row l3) (VZ N o.p).d /\
 Uz prog 43 [.agg (Qjb ms N),.agg (rwo o)] (enB 0 E) [.agg (Qxz o lx ly bb l3)] (enB 0 E):=by
 have c4:=Qs8 (z:=o.p);have wk:=Er (v:=o.k) (n:=12) ho.k (by decide);have wi:=Er (v:=o.p.id) (n:=6) ho.p.id (by decide);have cr:=Qng (t:=o.t) (u:=o.u);have cl:=Qa7 ho.p (most:=Oa N) (gC N);obtain ⟨i,hi⟩:=nmE (aH o);have hln:(Ig o.p.x).length=o.p.x.length:=Ou _;unfold Qxz;rw [<-hi];by_cases h1:1<N
 ·have e1:VZ N o.p=⟨Gi (Oa N) o.p.x++(if 3<o.p.x.length then [1] else []),Gi (Oa N) o.p.y,Hu 3 o.p.d⟩:=if_pos h1;rw [e1];dsimp only;obtain ⟨X,hX⟩:=nmE (Gi (Oa N) o.p.x);obtain ⟨Y,hY⟩:=nmE (Gi (Oa N) o.p.y);obtain ⟨D,hD⟩:=nmE (Hu 3 o.p.d);have hX3:=yX (most:=Oa N) (l:=o.p.x);rw [<-hX] at hX3;rw [<-hX,<-hY,<-hD] at cl ⊢;have e3:∃ k:Nat,(k:Int)=min N 4/\[[LV.int .i64 0],[.int .i64 0],[.int .i64 999],[.int .i64 99],[.int .i64 20]][k]? = some [.int .i64 (Oa N)]:=by
   rcases (show N=2\/N=3\/N=4 by omega) with rfl | rfl | rfl
   ·exact ⟨2,rfl,rfl⟩
   ·exact ⟨3,rfl,rfl⟩
   ·exact ⟨4,rfl,rfl⟩
  obtain ⟨k,k1,k2⟩:=e3;by_cases h3:3<o.p.x.length
  ·rw [if_pos h3];have hX3:=hX3 h3;have hml:(X.map Hg).length=3:=by rw [Q8]; exact hX3
   refine ⟨_,_,_,_,nW,Gv Y,Uy D,?_⟩;refine Fw func43 rfl ?_;refine go tt [.k c4,.t (by simpa using h1),.r 19 (eI k1.symm),.x k2,.c [11] cl,.t (by simp; omega)] rfl (by simp only [Uw,qV]; omega) ?_;refine Uh (S:=Unit) 12 (λL1 _=>L1) (λ_=>enB 0 E++[.blk 27 (Qjb ms N),.blk 42 (rwo o),.blk 42 [.int .i64 0,.int .i64 0,.int .i64 0,.nils,.nils,.bool false,.nils,.int .i64 0,.bool false,.nils,.bool false,.nils],.blk 36 [.orow 11 2 none,pl Y,sg D,mg D],.row false 34 2 (X.map Hg++[Qr8])]) (λ_=>0) (λ_=>True) () trivial rfl rfl λ_ _=>?_
   by_cases hk:Bn o.k 12<10
   ·rw [hi,show aH o=Bn o.p.id 6 from if_pos hk];exact Ug [11] [0,1,2,3,4,5,6] [.f (by simp; omega),.k wk,.t (by simpa using hk),.k wi,.k cr] rfl
   ·rw [hi,show aH o=o.p.id from if_neg hk];exact Ug [11] [0,1,2,3,4,5,6] [.f (by simp; omega),.k wk,.f (by simpa using hk),.k cr] rfl
  ·rw [if_neg h3,Zv];refine ⟨_,_,_,_,Gv X,Gv Y,Uy D,?_⟩;refine Fw func43 rfl ?_;by_cases hk:Bn o.k 12<10
   ·rw [hi,show aH o=Bn o.p.id 6 from if_pos hk];exact Ug [11] [0,1,2,3,4,5,6] [.k c4,.t (by simpa using h1),.r 19 (eI k1.symm),.x k2,.c [11] cl,.f (by simp; omega),.k wk,.t (by simpa using hk),.k wi,.k cr] rfl
   ·rw [hi,show aH o=o.p.id from if_neg hk];exact Ug [11] [0,1,2,3,4,5,6] [.k c4,.t (by simpa using h1),.r 19 (eI k1.symm),.x k2,.c [11] cl,.f (by simp; omega),.k wk,.f (by simpa using hk),.k cr] rfl
 ·have e1:VZ N o.p=⟨((o.p.x.take 4).map (·.cutN 1)).map vI,((o.p.y.take 4).map (·.cutN 1)).map vI,vI (o.p.d.cutN 1)⟩:=if_neg h1;rw [e1];refine ⟨_,_,_,_,KH (Qjy ho.p.x),KH (Qjy ho.p.y),qQ (ho.p.d.cutN_ok 1),?_⟩;refine Fw func43 rfl ?_;by_cases hk:Bn o.k 12<10
  ·rw [hi,show aH o=Bn o.p.id 6 from if_pos hk];exact Ug [] [0,1,2,3,4,5,6] [.k c4,.f (by simpa using h1),.k wk,.t (by simpa using hk),.k wi,.k cr] rfl
  ·rw [hi,show aH o=o.p.id from if_neg hk];exact Ug [] [0,1,2,3,4,5,6] [.k c4,.f (by simpa using h1),.k wk,.f (by simpa using hk),.k cr] rfl
theorem NY {v n:Int} (h:0<n):0<=Bn v n/\Bn v n<n:=by
 unfold Bn;rw [if_neg (by omega)];exact ⟨Vi _ (by omega),Yv _ h⟩

theorem Qjv {a b:Int} {s:Nat} (ha:U9 a<=s) (hb:U9 b<=s) (h1:1<=s):Qs s (Ha a b):=by
 unfold Ha
 split
 ·exact ⟨Aa ha,E9 (Qc (show U9 1<=1 by decide) h1) h1⟩
 ·exact ⟨Aa ha,E9 hb h1⟩
theorem qZ {z:Int} (h:-127<=z/\z<=127):U9 z<=7:=by
 have:(2:Nat)^7=128:=by decide
 exact Sl.2 (by omega)
theorem Qdx {E:Es} {b:Int} (h:EOk b E):E.m.adv E.q=(E.m,0):=by
 rw [NW (A:=E.m) h.q (by show ¬E.q<E.q; exact Rat.lt_irrefl)];have hq:Qs 1640000 E.q:=h.q.mono (by decide);have e1:cnt (O2 E.m.M) E.m.q E.q=0:=ZP okS h.m.m hq;have e2:cnt (PZ E.m.M) E.m.q E.q=0:=ZP okT h.m.m hq;have e3:cnt (GO E.m.M) E.m.q E.q=0:=ZP okH h.m.m hq;have e4:cnt (IX E.m.M) E.m.q E.q=0:=ZP okP h.m.m hq;have e5:cnt (NH E.m.M) E.m.q E.q=0:=ZP okD h.m.m hq;rw [e1,e2,e3,e4,e5];simp [Es.m]
theorem Qs.n32 {s:Nat} {t:Rat} (h:Qs s t) (hs:s<=4294967295):U9 t.num<=4294967295/\U9 (t.den:Int)<=4294967295:=⟨Qc h.1 hs,Qc h.2 hs⟩
theorem Qug {E:Es} {b:Int} {s:Nat} (h:EOk b E) (hb:b<=900000000000000000) {t:Rat} (ht:Qs s t) (hs:s<=4294967295):∃ E',EOk (b+67000000) E'/\E'.m=(E.m.adv t).1/\((E.m.adv t).2≠0->E'=E)/\EnD 13 [.one (.ow 0 0),.agg (rl t)] E [.one (.int .i64 (E.m.adv t).2)] E' :=
 IA h hb (Uy t.num) (Uy (t.den:Int)) (ht.n32 hs).1 (ht.n32 hs).2 (Pa t)
noncomputable def advE (A:Em) (t:Rat):Em:={ A with q:=t,s:=A.s+(cnt (O2 A.M) A.q t:Nat),t:=A.t+(cnt (PZ A.M) A.q t:Nat),h:=A.h+(cnt (GO A.M) A.q t:Nat),p:=A.p+(cnt (IX A.M) A.q t:Nat),d:=A.d+(cnt (NH A.M) A.q t:Nat) }
theorem Qrc {A:Em} {t:Rat} (h1:Qs 128 t) (h2:¬t<A.q):A.adv t=(advE A t,0):=NW h1 h2
theorem Qat {E:Es} {b:Int} (h:EOk b E):advE E.m E.q=E.m:=by
 have:=Qdx h;rw [Qrc h.q (by show ¬E.q<E.q; exact Rat.lt_irrefl)] at this;exact congrArg Prod.fst this
theorem Qdw {A:Em} {t u:Rat} (hM:MOk A.M) (h0:Qs 128 A.q) (ht:Qs 128 t) (hu:Qs 128 u) (h1:A.q<=t) (h2:t<=u):advE (advE A t) u=advE A u:=by
 have h0:=h0.mono (show 128<=1640000 by decide);have ht:=ht.mono (show 128<=1640000 by decide);have hu:=hu.mono (show 128<=1640000 by decide);have e1:cnt (O2 A.M) A.q u=cnt (O2 A.M) A.q t+cnt (O2 A.M) t u:=JL okS hM h0 ht hu h1 h2;have e2:cnt (PZ A.M) A.q u=cnt (PZ A.M) A.q t+cnt (PZ A.M) t u:=JL okT hM h0 ht hu h1 h2;have e3:cnt (GO A.M) A.q u=cnt (GO A.M) A.q t+cnt (GO A.M) t u:=JL okH hM h0 ht hu h1 h2;have e4:cnt (IX A.M) A.q u=cnt (IX A.M) A.q t+cnt (IX A.M) t u:=JL okP hM h0 ht hu h1 h2;have e5:cnt (NH A.M) A.q u=cnt (NH A.M) A.q t+cnt (NH A.M) t u:=JL okD hM h0 ht hu h1 h2;unfold advE;dsimp only;rw [e1,e2,e3,e4,e5];simp only [Int.natCast_add,Int.add_assoc]
theorem Qst {A B:Em} {t u:Rat} (hM:MOk A.M) (h0:Qs 128 A.q) (ht:Qs 128 t) (h1:A.q<=t) (hB:B=advE A t) (hu:Qs 128 u):((B.adv u).1=B/\u<t)\/((B.adv u)=(advE A u,0)/\t<=u):=by
 have hq:B.q=t:=by rw [hB]; rfl
 by_cases h:u<B.q
 ·left;rw [hq] at h;refine ⟨?_,h⟩;unfold Em.adv;rw [if_pos hu,if_pos (by rw [hq]; exact h)]
 ·right;have h2:t<=u:=by rw [hq] at h; exact Wx.1 h
  refine ⟨?_,h2⟩;rw [Qrc hu h,hB,Qdw hM h0 ht hu h1 h2]
end Orr
namespace Orr
open Go Go.Proofs Tryz Orq
theorem aU:∀ (l:List Pt) (d:Int),d≤l.foldl (λd p=>max d (Ex p.c)) d/\∀ p∈l,Ex p.c≤l.foldl (λd p=>max d (Ex p.c)) d
 | [],d=>⟨J3 _,λ_ h=>by cases h⟩
 |
  x::l,d=>by
  obtain ⟨h1,h2⟩:=aU l (max d (Ex x.c));rw [Z5];refine ⟨by omega,λp hp=>?_⟩;rcases Qm.1 hp with rfl | hp
  ·omega
  ·exact h2 p hp
theorem Qn1 {M:List Pt} {p:Pt} (h:p∈M):Ex p.c<=Ik M:=(aU M 0).2 p h
theorem Qgk {M:List Pt} (h:∀ p∈M,Sc p.c):0≤Ik M/\Ik M≤2:=by
 have:=jJ h M.length;rwa [Qn (Ql _)] at this
theorem Qmg {M:List Pt} {q t:Rat} (hM:MOk M) (hq:Qs 128 q) (ht:Qs 128 t) (h:q<=t) {n d:Int} (hn:n=M.length) (hd:d=Ik M) :
 ((cnt (O2 M) q t:Nat):Int)<=n*n*d/\((cnt (PZ M) q t:Nat):Int)<=n*n*d/\((cnt (GO M) q t:Nat):Int)<=2*(n*n*n*d)+n*n*d/\((cnt (IX M) q t:Nat):Int)<=2*(n*n*n*n*d)/\((cnt (NH M) q t:Nat):Int)<=2*(n*n*n*d)+4*(n*n*n*n*d):=by
 obtain ⟨d0,d2⟩:=Qgk hM.sc;obtain ⟨D,hD⟩:∃ D:Nat,(D:Int)=Ik M:=⟨(Ik M).toNat,by omega⟩;have hg:∀ p∈M,DgC D p.c:=λp hp=>by
  have:=Qn1 hp;unfold Ex at this;exact ⟨by omega,by omega⟩
 have h2:D<=2:=by omega
 rw [<-hD] at hd;subst hn hd;have hq:=hq.mono (show 128<=1640000 by decide);have ht:=ht.mono (show 128<=1640000 by decide);have a1:=Qxf hM hg hq ht h;have a2:=Qxg hM hg hq ht h;have a3:=Qxd hM hg h2 hq ht h;have a4:=Qxe hM hg hq ht h;have a5:=Qxc hM hg h2 hq ht h;exact ⟨by exact_mod_cast a1,by exact_mod_cast a2,by exact_mod_cast a3,by exact_mod_cast a4,by exact_mod_cast a5⟩
end Orr
namespace Orr
open Go Go.Proofs Tryz Orq
set_option maxRecDepth 10000
theorem Qsu {A B:Em} {t:Rat} (hM:MOk A.M) (h0:Qs 128 A.q) (ht:Qs 128 t) (h1:A.q<=t) (hB:B=advE A t) (u:Rat):∃ v,Qs 128 v/\A.q<=v/\(B.adv u).1=advE A v:=by
 by_cases hu:Qs 128 u
 ·rcases Qst hM h0 ht h1 hB hu with ⟨e,_⟩ | ⟨e,h⟩
  ·exact ⟨t,ht,h1,by rw [e,hB]⟩
  ·exact ⟨u,hu,Zk h1 h,by rw [e]⟩
 ·refine ⟨t,ht,h1,?_⟩;unfold Em.adv;rw [if_neg hu,hB]
def wV (M:List Pt):Int:=(M.length:Int)*M.length*Ik M
def Qmd (M:List Pt):Int:=2*((M.length:Int)*M.length*M.length*Ik M)+(M.length:Int)*M.length*Ik M
def Qme (M:List Pt):Int:=2*((M.length:Int)*M.length*M.length*M.length*Ik M)
def Qmf (M:List Pt):Int:=2*((M.length:Int)*M.length*M.length*Ik M)+4*((M.length:Int)*M.length*M.length*M.length*Ik M)
abbrev Qs4 (M:List Pt):Uq:=[.int .i64 (wV M),.int .i64 (wV M),.int .i64 (Qmd M),.int .i64 (Qme M),.int .i64 (Qmf M)]
theorem Qgw {E:Es} {b:Int} (h:EOk b E):EnD 12 [.one (.ow 0 0)] E [.agg (Qs4 E.M)] E:=Qd9 h rfl rfl
theorem Qgd {A:Em} {t:Rat} (hM:MOk A.M) (h0:Qs 128 A.q) (ht:Qs 128 t) (h1:A.q<=t):∃ c1 c2 c3 c4 c5:Nat,mK (advE A t)=[.int .i64 (A.s+c1),.int .i64 (A.t+c2),.int .i64 (A.h+c3),.int .i64 (A.p+c4),.int .i64 (A.d+c5)]/\(c1:Int)<=wV A.M/\(c2:Int)<=wV A.M/\(c3:Int)<=Qmd A.M/\(c4:Int)<=Qme A.M/\(c5:Int)<=Qmf A.M:=by
 obtain ⟨a1,a2,a3,a4,a5⟩:=Qmg hM h0 ht h1 rfl rfl;exact ⟨_,_,_,_,_,rfl,a1,a2,a3,a4,a5⟩
end Orr
namespace Orr
theorem bz1:Bd 9000000 [1]:=λz hz=>by obtain rfl:=Qk.1 hz; decide
theorem bz2:Bd 9000000 [0,1]:=λz hz=>by
 simp only [Qm,Xw,or_false] at hz;rcases hz with rfl | rfl <;> decide
theorem Qz9:∀ z∈([0,1]:Ul),U9 z≤1:=by
 intro z hz;simp only [Qm,Xw,or_false] at hz;rcases hz with rfl | rfl <;> decide
theorem rz:RRun [1] 1 [0,1] []:=by
 refine .step (by decide) (by decide) bz2 bz1 ?_;rw [show tR [0,1] [1]=[] by decide];exact .stop (by decide)
theorem dz2:DOk [0,1] [1] [0,1]:=by
 refine ⟨by decide,by decide,by decide,bz1,[0,1],[],1,bz2,by decide,?_,by decide⟩;refine .step (by decide) (by decide) bz2 (by decide) (by decide) (by decide) ?_;exact .stop (by decide)
theorem dz1:DOk [1] [1] [1]:=by
 refine ⟨by decide,by decide,by decide,bz1,[1],[],1,bz1,by decide,?_,by decide⟩;refine .step (by decide) (by decide) bz1 (by decide) (by decide) (by decide) ?_;exact .stop (by decide)
theorem Qvu:Qdt 0 [[-(0:Rat).num,((0:Rat).den:Int)],[1]]:=by
 show Qdt 0 [[0,1],[1]];refine ⟨[0,1],?_⟩;show ChRun [0,1] [0,1] [[0,1],[1]];have e1:Tc [0,1]=[0,1]:=by decide
 have e2:Gk [0,1]=[1]:=by decide
 have e3:Tc [1]=[1]:=by decide
 have e4:Ns [1]=[1]:=by decide
 refine ⟨⟨1,λ_=>[0,1],⟨⟨1,[[0,1],[1]],?_,rfl,λk hk=>?_⟩,by decide⟩,λi hi=>?_,by decide⟩,⟨1,?_⟩,λz hz=>Qc (Qz9 z hz) (by decide),by decide,by decide⟩
 ·rw [e1];refine .step (by decide) (by decide) (by show trim _=_; decide) bz2 (by show Bd _ (Gk [0,1]); rw [e2]; exact bz1) (m:=1) (g:=[1]) ?_ (by decide) (.stop (by decide));show GRun 1 (Tc [0,1]) (Tc (Gk [0,1])) [1];rw [e1,e2,e3];refine .step (by decide) (by decide) bz1 rz (by decide) (λz hz=>by cases hz) rfl ?_;rw [show Tc []=[] by decide];exact .stop _
 ·obtain rfl:k=0:=by omega
  exact ⟨[0,1],[1],[0,1],dz2,dz1,by rw [e1,e3]; exact dz2,e1.symm⟩
 ·obtain rfl:i=0:=by omega
  exact ⟨bz1,by decide,bz2,by decide⟩
 ·rw [e2,e4];refine .step (by decide) (by decide) bz1 (m:=1) (r:=[]) rz rfl (λz hz=>by cases hz) (by decide) (by decide) (by decide) ?_;exact .stop (by decide)
end Orr
namespace Orr
open Go Go.Proofs Tryz Orq
set_option maxRecDepth 10000
theorem Qg1 {q:Rat} {c:Um}:Ui 254 [.one (.row []),.agg (aq q c)] [.one (.row [])]:=by
 refine Fw func254 rfl ?_;refine Uc [.z 5] rfl ?_;refine Uh (S:=Unit) 1 (λL1 _=>(10,.v (.oi 0))::(5,.v (.one (.row [])))::L1) (λ_=>[.blk 166 (aq q c)]) (λ_=>0) (λ_=>True) () trivial rfl rfl λ_ _=>?_
 exact Ue [.f rfl] rfl
theorem mM:Ui 256 [.one (.row [])] [.one (.row [])]:=by
 refine Fw func256 rfl ?_;refine Uc [.z 3] rfl ?_;refine Uh (S:=Unit) 0 (λL1 _=>(8,.v (.oi 0))::(3,.v (.one (.row [])))::L1) (λ_=>[]) (λ_=>0) (λ_=>True) () trivial rfl rfl λ_ _=>?_
 exact Ue [.f rfl] rfl
theorem Qgx:Ui 258 [.one (.row [])] [.one (.row [])]:=by
 refine Fw func258 rfl ?_;refine Uc [.z 3] rfl ?_;refine Uh (S:=Unit) 0 (λL1 _=>(8,.v (.oi 0))::(3,.v (.one (.row [])))::L1) (λ_=>[]) (λ_=>0) (λ_=>True) () trivial rfl rfl λ_ _=>?_
 exact Ue [.f rfl] rfl
theorem Qg2:Ui 261 [.one (.row [])] [.one (.row [])]:=by
 refine Fw func261 rfl ?_;refine Uc [.z 3,.k Qgx] rfl ?_;refine Uh (S:=Unit) 0 (λL1 _=>(11,.v (.oi 0))::(3,.v (.one (.row [])))::L1) (λ_=>[]) (λ_=>0) (λ_=>True) () trivial rfl rfl λ_ _=>?_
 exact Ue [.f rfl] rfl
section
variable {q:Rat} {c:Um}
theorem Qgz:Ui 213 [.one (.row []),.agg (aq q c)] [.one (.row [])]:=by
 refine Fw func213 rfl ?_;refine Uc [.k Qg1,.z 6] rfl ?_;refine Uh (S:=Unit) 1 (λL1 _=>(7,.v (.oi 0))::(6,.v (.one (.row [])))::L1) (λ_=>[.blk 166 (aq q c)]) (λ_=>0) (λ_=>True) () trivial rfl rfl λ_ _=>?_
 exact Ue [.f rfl,.k mM] rfl rfl (by simp [Uw])
theorem Quk:Ui 214 [.one (.row []),.agg (aq q c)] [.one (.row [])]:=Uf func214 rfl [.t rfl,.z 4] rfl
theorem Qb0:Ui 259 [.one (.row []),.agg (aq q c)] [.one (.row [])]:=Uf func259 rfl [.k Qg2,.t rfl] rfl
theorem Quh:Ui 215 [.one (.row []),.agg (aq q c)] [.one (.row [])]:=by
 refine Fw func215 rfl ?_;refine Uc [.k Qgz,.k Qb0] rfl ?_;refine Uh (S:=Unit) 1 (λL1 _=>(7,.v (.oi 0))::(5,.v (.one (.row [])))::L1) (λ_=>[.blk 166 (aq q c)]) (λ_=>0) (λ_=>True) () trivial rfl rfl λ_ _=>?_
 exact Ue [.f rfl,.f rfl,.k mM] rfl
abbrev zPq:Uq:=[.row [],.row [],.row [],.row [],.bool false,.row [],.int .i64 0]
theorem Qbz:Ui 260 [.one (.row []),.agg (aq q c)] [.agg zPq,.agg zPq,.one (.bool false)]:=Uf func260 rfl [.k Qgx,.t rfl] rfl
theorem Quj:Ui 216 [.one (.row []),.agg (aq q c)] [.one (.row [])]:=Uf func216 rfl [.k Qbz,.t rfl,.z 4] rfl
theorem Qui:Ui 217 [.one (.row []),.agg (aq q c)] [.one (.row [])]:=by
 refine Fw func217 rfl ?_;refine Uc [.k Qg2,.z 6] rfl ?_;refine Uh (S:=Unit) 1 (λL1 _=>(15,.v (.oi 0))::(6,.v (.one (.row [])))::L1) (λ_=>[.blk 166 (aq q c)]) (λ_=>0) (λ_=>True) () trivial rfl rfl λ_ _=>?_
 exact Ue [.f rfl,.k mM] rfl
theorem UF (k:Nat) (hk:k<5):Ui 134 [.oi k,.one (.row []),.agg (aq q c)] [.one (.row [])]:=by
 refine (?_:Ui 174 [.oi k,.one (.row []),.agg (aq q c)] [.one (.row [])]->_) ?_
 ·intro h;exact Uf func134 rfl [.k h] rfl
 ·rcases (show k=0\/k=1\/k=2\/k=3\/k=4 by omega) with rfl | rfl | rfl | rfl | rfl
  ·exact Uf func174 rfl [.t rfl,.k Qgz] rfl
  ·exact Uf func174 rfl [.f rfl,.t rfl,.k Quk] rfl
  ·exact Uf func174 rfl [.f rfl,.f rfl,.t rfl,.k Quh] rfl
  ·exact Uf func174 rfl [.f rfl,.f rfl,.f rfl,.t rfl,.k Quj] rfl
  ·exact Uf func174 rfl [.f rfl,.f rfl,.f rfl,.f rfl,.k Qui] rfl
end
theorem CH:Ui 133 [.one (.row []),.one (.row [])] [.one (.row [])]:=by
 refine Fw func133 rfl ?_;refine Uc [] rfl ?_;refine Uh (S:=Unit) 0 (λL1 _=>(9,.v (.oi 0))::L1) (λ_=>[]) (λ_=>0) (λ_=>True) () trivial rfl rfl λ_ _=>?_
 exact Ue [.f rfl] rfl
end Orr
namespace Orr
open Go Go.Proofs Tryz Orq
set_option maxRecDepth 10000
abbrev cC:Um:=[[-(0:Rat).num,((0:Rat).den:Int)],[1]]
abbrev Qx0:Uq:=[.nils,.nils,.nils,.bool false,.nils,.bool false,.nils,.bool false,.nils,.bool false,.nils,.int .i64 0,.nils]
abbrev Qx1:Uq:=aq 0 cC++[.row [],.int .i64 0,.nils]
abbrev Qkd (k i:Nat):Uq:=match Nat.blt k i with
 | true=>Qx1
 | false=>Qx0
abbrev mdl (np nd:Int) (i:Nat):Uq:=[.int .i64 np,.int .i64 nd,.nils]++fr 0++Qkd 0 i++Qkd 1 i++Qkd 2 i++Qkd 3 i++Qkd 4 i
set_option maxHeartbeats 4000000 in
theorem Qeo {np nd:Int}:Uz prog 92 [.one (.ow 0 0)] [.blk 173 (mdl np nd 0)] [] [.blk 173 (mdl np nd 5)]:=by
 have hq:Qs 2000000 (0:Rat):=⟨by decide,by decide⟩;have cr:=wL hq Qvu;refine Fw func92 rfl ?_;refine Uc [.k cr] rfl ?_;refine Uh (S:=Nat) 2 (λL1 i=>(9,.v (.oi i))::L1) (λi=>[.blk 173 (mdl np nd i),.blk 166 (aq 0 cC)]) (λi=>5-i) (λi=>i<=5) 0 (by decide) rfl rfl λi hi=>?_
 rcases (show i=0\/i=1\/i=2\/i=3\/i=4\/i=5 by omega) with rfl | rfl | rfl | rfl | rfl | rfl
 ·exact go tt [.t rfl,.i 0,.i 0,.i 0,.k (UF 0 (by decide)),.k CH,.i 0] rfl (by simp [Uw]) (rd 1 (by omega) (by omega) rfl)
 ·exact go tt [.t rfl,.i 1,.i 1,.i 1,.k (UF 1 (by decide)),.k CH,.i 1] rfl (by simp [Uw]) (rd 2 (by omega) (by omega) rfl)
 ·exact go tt [.t rfl,.i 2,.i 2,.i 2,.k (UF 2 (by decide)),.k CH,.i 2] rfl (by simp [Uw]) (rd 3 (by omega) (by omega) rfl)
 ·exact go tt [.t rfl,.i 3,.i 3,.i 3,.k (UF 3 (by decide)),.k CH,.i 3] rfl (by simp [Uw]) (rd 4 (by omega) (by omega) rfl)
 ·exact go tt [.t rfl,.i 4,.i 4,.i 4,.k (UF 4 (by decide)),.k CH,.i 4] rfl (by simp [Uw]) (rd 5 (by omega) (by omega) rfl)
 ·exact Ug [] [0] [.f rfl] rfl
theorem Qtg {np nd:Int} (h1:1<=np/\np<=6) (h2:0<=nd/\nd<=2):Uz prog 42 [.oi np,.oi nd] [] [.one (.ow 0 0),.oi 0] [.blk 173 (mdl np nd 5)]:=by
 have co:=VI (n:=0) (by decide);rw [show ((0:Int):Rat)=0 from rfl] at co;refine Fw func42 rfl ?_;exact Ug [] [0] [.F,.f (by simp; omega),.f (by simp; omega),.f (by simp; omega),.k co,.c [0] Qeo] rfl
theorem Qmk {a b:Int} (ha:-9223372036854775808<=a/\a<=9223372036854775807) (hb:-9223372036854775808<=b/\b<=9223372036854775807):∃ (N nd:Int) (ms:Uq),(1<=N/\N<=4)/\(0<=nd/\nd<=2)/\EOk 0 (AD N nd)/\N=1+Bn a 4/\nd=Bn b 3 /\
 Uz prog 8 [.oi a,.oi b] [] [.agg [.ow 0 0,.sh ms,.int .i64 N],.one (.bool true)] (enB 0 (AD N nd)):=by
 have w1:=NY (v:=a) (n:=4) (by decide);have w2:=NY (v:=b) (n:=3) (by decide);have c1:=Er (v:=a) (n:=4) ha (by decide);have c2:=Er (v:=b) (n:=3) hb (by decide);obtain ⟨N,hN⟩:=nmE (1+Bn a 4);obtain ⟨nd,hnd⟩:=nmE (Bn b 3);have hN4:1<=N/\N<=4:=by omega
 have hd2:0<=nd/\nd<=2:=by omega
 have cn:=Qes (np:=N) (nd:=nd) (by omega) hd2;have cm:=Qtg (np:=N) (nd:=nd) (by omega) hd2;refine ⟨N,nd,mdl N nd 5,hN4,hd2,Qiy (by omega) hd2,hN,hnd,?_⟩;refine Fw func8 rfl ?_;exact Ug [8] [1,2,3,4,5,6,7] [.k c1,.r 12 (eI hN.symm),.k c2,.r 14 (eI hnd.symm),.c [1,2,3,4,5,6,7] cn,.c [8] cm,.t rfl,.t rfl] rfl (by simp [Uw]; omega)
theorem Qgv {E:Es} {b N:Int} {o:RawOp} {ms:Uq} (h:EOk b E) (hN:1<=N/\N<=4) (ho:o.Ok) (w0:Bn o.k 12<5) :
 ∃ E' e,EOk b E'/\EnD 10 [.agg (Qjb ms N),.agg (rwo o)] E [.oi e] E':=by
 obtain ⟨lx,ly,bb,l3,i1,i2,i3,cp⟩:=Qtl (E:=E) (ms:=ms) hN ho;have wk:=Er (v:=o.k) (n:=12) ho.k (by decide);have hcs:=Qnv (N:=N) ho.p;have hk:Cs 4294967294 1073741824 (Crv.mk (VZ N o.p).x (VZ N o.p).y (VZ N o.p).d):=hcs.mono (by decide) (by decide);obtain ⟨W,hWe⟩:=nmE (Bn o.k 12);rw [<-hWe] at wk w0;by_cases w1:W<3
 ·obtain ⟨E',g1,g2,g3⟩:=CG h (id:=aH o) i1 i2 i3 hk;refine ⟨E',(E.m.ins ⟨Crv.norm (Crv.mk (VZ N o.p).x (VZ N o.p).y (VZ N o.p).d),aH o⟩).2,g1,?_⟩;refine Fw func10 rfl ?_;exact Ug [] [0,1,2,3,4,5,6] [.c Uu cp,.k wk,.T,.c Uu g3] rfl
 by_cases w2:W=3
 ·obtain ⟨E',g1,g2,g3⟩:=Qgy h (id:=aH o);refine ⟨E',(E.m.del (aH o)).2,g1,?_⟩;refine Fw func10 rfl ?_;exact Ug [] [0,1,2,3,4,5,6] [.c Uu cp,.k wk,.F,.T,.c Uu g3] rfl
 ·obtain ⟨E',g1,g2,g3⟩:=Qg0 h (id:=aH o) i1 i2 i3 hk;refine ⟨E',(E.m.rep ⟨Crv.norm (Crv.mk (VZ N o.p).x (VZ N o.p).y (VZ N o.p).d),aH o⟩).2,g1,?_⟩;refine Fw func10 rfl ?_;exact Ug [] [0,1,2,3,4,5,6] [.c Uu cp,.k wk,.F,.F,.T,.c Uu g3] rfl
abbrev enL (E:Es) (ms:Uq) (N:Int):Us:=[.blk 90 (enR 0 E.q),tB E.np E.nd E.M,bS E.s E.M E.q,bT E.t E.M E.q,bH E.h E.M E.q,bP E.p E.M E.q,bD E.d E.M E.q,.blk 27 [.ow 0 0,.sh ms,.int .i64 N]]
set_option maxHeartbeats 8000000 in
theorem BA {a b:Int} {l:List RawOp} {st:Ul} (ha:-9223372036854775808≤a/\a≤9223372036854775807) (hb:-9223372036854775808≤b/\b≤9223372036854775807) (hl:∀ x∈l,x.Ok) (hs:∀ x∈st,-9223372036854775808≤x/\x≤9223372036854775807):Ui 3 [.oi a,.oi b,.one (.row (qH l)),.one (.row (idl st))] [.one (.bool true)]:=by
 obtain ⟨N,nd,ms,hN,hnd,h0,_,_,cb⟩:=Qmk ha hb;have hll:=Qcr l;have hsl:(idl st).length=st.length:=by simp [idl]
 refine Fw func3 rfl (ln 2 rfl rfl λhcl=>ln 3 rfl rfl λhcl2=>?_);rw [hll] at hcl;rw [hsl] at hcl2;refine Uc [.c Uu cb,.f rfl] rfl ?_;refine Uh (S:=Nat×Es) 8 (λL1 s=>(11,.v (.oi (s.1:Int)))::L1) (λs=>enL s.2 ms N) (λs=>5-s.1) (λs=>s.1<=5/\s.1<=l.length/\EOk 0 s.2) (0,AD N nd) ⟨by show 0<=5; decide,Qh _,h0⟩ rfl rfl λ⟨i,E⟩ ⟨hi,hi2,hE⟩=>?_
 dsimp only at hi hi2 hE ⊢;by_cases hr:i<l.length/\i<5
 ·obtain ⟨x,hx⟩:=gxE (l:=l) (i:=i) hr.1;have ho:=hl x (Qa hx);have w5:=NY (v:=x.k) (n:=5) (by decide);have cw:=Er (v:=x.k) (n:=5) ho.k (by decide);have e12:Bn (Bn x.k 5) 12<5:=by
   have:Bn (Bn x.k 5) 12=Bn x.k 5 % 12:=rfl;rw [this,Int.emod_eq_of_lt (by omega) (by omega)]; omega
  obtain ⟨E',er,e1,e3⟩:=Qgv (ms:=ms) (o:={ x with k:=Bn x.k 5 }) hE hN { ho with k:=(by show _<=Bn x.k 5/\Bn x.k 5<=_; omega) } e12;refine Ud [.T,.T,.x (Qcq hx),.k cw,.c Uu e3] rfl ?_;exact rd (i+1,E') (by dsimp only; omega) ⟨hr.2,hr.1,e1⟩ rfl
 have hM:MOk E.m.M:=hE.m.m;have hq0:Qs 128 E.m.q:=hE.q;have cE:=uE (E:=E);have cB:=Qgw hE;have k0:=hE.es; have k1:=hE.et; have k2:=hE.eh; have k3:=hE.ep; have k4:=hE.ed;by_cases hj:i<l.length
 all_goals
  first
  | refine Uc [.T,.F,.lo,.c Uu cE,.lo,.c Uu cB] rfl ?_
  | refine Uc [.F,.f rfl,.lo,.c Uu cE,.lo,.c Uu cB] rfl ?_
  refine Uh (S:=Nat×Es) 10 (λL1 s=>(15,.v (.oi (s.1:Int)))::L1) (λs=>enL s.2 ms N++[.blk 46 (mK E.m),.blk 46 (Qs4 E.M)]) (λs=>3-s.1) (λs=>s.1<=3/\s.1<=st.length/\EOk (67000000*s.1) s.2/\∃ t,Qs 128 t/\E.m.q<=t/\s.2.m=advE E.m t) (0,E) ⟨by show 0<=3; decide,Qh _,hE.mono (show (0:Int)<=67000000*((0:Nat):Int) by decide),E.q,hE.q,Qp,(Qat hE).symm⟩ rfl rfl λ⟨j,F⟩ ⟨hj1,hj2,hF,t,t1,t2,t3⟩=>?_
  dsimp only at hj1 hj2 hF t3 ⊢;by_cases hsr:j<st.length/\j<3
  ·obtain ⟨c,hcx⟩:=gxE (l:=st) (i:=j) hsr.1;have hci:=hs c (Qa hcx);have hg:(idl st)[j]? = some [.int .i64 c]:=G7 hcx;have cw:=Er (v:=c) (n:=40) hci (by decide);have b3:=NY (v:=c) (n:=40) (by decide);have co:=Qxo (n:=Bn c 40) (d:=1+(j:Int)) (by omega) (by omega);have hU:=Qjv (qZ (z:=Bn c 40) (by omega)) (qZ (z:=1+(j:Int)) (by omega)) (by decide);obtain ⟨U,hUe⟩:=nmE (Ha (Bn c 40) (1+(j:Int)));rw [<-hUe] at co hU;have ctt:=Qrk (q:=U) (hU.mono (by decide));obtain ⟨G,g1,g2,_,g4⟩:=Qug hF (by omega) hU (by decide);refine Ud [.T,.T,.x hg,.k cw,.k co,.k ctt,.c Uu g4] rfl ?_;have e:67000000*(j:Int)+67000000=67000000*((j+1:Nat):Int):=by omega
   rw [e] at g1;refine rd (j+1,G) (by dsimp only; omega) ⟨hsr.2,hsr.1,g1,?_⟩ rfl;show ∃ t,Qs 128 t/\E.m.q<=t/\G.m=advE E.m t;obtain ⟨v,v1,v2,v3⟩:=Qsu hM hq0 t1 t2 t3 U;exact ⟨v,v1,v2,by rw [g2,v3]⟩
  obtain ⟨c1,c2,c3,c4,c5,hc,x1,x2,x3,x4,x5⟩:=Qgd hM hq0 t1 t2;have cE2:=uE (E:=F);have hcc:mK F.m=_:=(congrArg mK t3).trans hc;have q1:F.s.ev=E.s.ev+c1:=by injection hcc with h1 h2; injection h1
  have q2:F.t.ev=E.t.ev+c2:=by injection hcc with h1 h2; injection h2 with h1 h2; injection h1
  have q3:F.h.ev=E.h.ev+c3:=by injection hcc with h1 h2; injection h2 with h1 h2; injection h2 with h1 h2; injection h1
  have q4:F.p.ev=E.p.ev+c4:=by injection hcc with h1 h2; injection h2 with h1 h2; injection h2 with h1 h2; injection h2 with h1 h2; injection h1
  have q5:F.d.ev=E.d.ev+c5:=by injection hcc with h1 h2; injection h2 with h1 h2; injection h2 with h1 h2; injection h2 with h1 h2; injection h2 with h1 h2; injection h1
  have z1:=hF.es; have z2:=hF.et; have z3:=hF.eh; have z4:=hF.ep; have z5:=hF.ed;have x1:(c1:Int)<=wV E.M:=x1;have x2:(c2:Int)<=wV E.M:=x2;have x3:(c3:Int)<=Qmd E.M:=x3;have x4:(c4:Int)<=Qme E.M:=x4;have x5:(c5:Int)<=Qmf E.M:=x5;by_cases hjj:j<st.length
  all_goals
   first
   | refine Uc [.T,.F,.c Uu cE2] rfl ?_
   | refine Uc [.F,.f rfl,.c Uu cE2] rfl ?_
   refine Uh (S:=Nat) 11 (λL1 k=>(78,.v (.oi k))::L1) (λ_=>enL F ms N++[.blk 46 (mK E.m),.blk 46 (Qs4 E.M),.blk 46 (mK F.m)]) (λk=>5-k) (λk=>k<=5) 0 (by decide) rfl rfl λk hk=>?_
   rcases (show k=0\/k=1\/k=2\/k=3\/k=4\/k=5 by omega) with rfl | rfl | rfl | rfl | rfl | rfl
   ·exact go tt [.t rfl,.i 0,.i 0,.g 88 false (decide_eq_false (by show ¬F.s.ev<E.s.ev; omega)),.i 0,.i 0,.i 0,.f (decide_eq_false (by show ¬wV E.M<F.s.ev-E.s.ev; omega))] rfl (by simp [Uw,Es.m]; omega) (rd 1 (by omega) (by omega) rfl)
   ·exact go tt [.t rfl,.i 1,.i 1,.g 88 false (decide_eq_false (by show ¬F.t.ev<E.t.ev; omega)),.i 1,.i 1,.i 1,.f (decide_eq_false (by show ¬wV E.M<F.t.ev-E.t.ev; omega))] rfl (by simp [Uw,Es.m]; omega) (rd 2 (by omega) (by omega) rfl)
   ·exact go tt [.t rfl,.i 2,.i 2,.g 88 false (decide_eq_false (by show ¬F.h.ev<E.h.ev; omega)),.i 2,.i 2,.i 2,.f (decide_eq_false (by show ¬Qmd E.M<F.h.ev-E.h.ev; omega))] rfl (by simp [Uw,Es.m]; omega) (rd 3 (by omega) (by omega) rfl)
   ·exact go tt [.t rfl,.i 3,.i 3,.g 88 false (decide_eq_false (by show ¬F.p.ev<E.p.ev; omega)),.i 3,.i 3,.i 3,.f (decide_eq_false (by show ¬Qme E.M<F.p.ev-E.p.ev; omega))] rfl (by simp [Uw,Es.m]; omega) (rd 4 (by omega) (by omega) rfl)
   ·exact go tt [.t rfl,.i 4,.i 4,.g 88 false (decide_eq_false (by show ¬F.d.ev<E.d.ev; omega)),.i 4,.i 4,.i 4,.f (decide_eq_false (by show ¬Qmf E.M<F.d.ev-E.d.ev; omega))] rfl (by simp [Uw,Es.m]; omega) (rd 5 (by omega) (by omega) rfl)
   ·exact Ue [.f rfl,.k Qbs] rfl
end Orr
namespace Orr
open Go Go.Proofs Tryz
variable {H:Type} {enc:TypeId×Value->H} {w:World} {base:Nat} {spare:Nat->Bool} {held:Bool}
theorem Tx {α:Type} {l:List α} {n i:Nat} (h:l.length=n) (hi:i<n):∃ x,l[i]? = some x:=⟨l[i]'(by omega),Qe (by omega)⟩
end Orr
namespace Orr
open Go Go.Proofs Tryz Go.ChangeShapes Go.WideShapes Go.ChangeAt Go.RowKit Go.WideElems
theorem Qnr {w:World} {a:Addr} {v:Value} (h:w.cell? a=some v):a.spot=none/\a.block<w.heap.size:=by
 simp only [World.cell?] at h
 split at h
 ·rename_i c t fr hc
  split at h
  ·cases h
  ·rename_i hs;refine ⟨by cases e:a.spot with | none=>rfl | some _=>simp [e] at hs,?_⟩;exact (Array.getElem?_eq_some_iff.1 hc).1
 ·cases h
theorem Ql5 {a:Addr} (h:a.spot=none) (n m:Nat):(a.add n).add m=⟨a.block,a.off+n+m,none⟩:=by
 obtain ⟨b,o,s⟩:=a;simp only at h;subst h;simp only [Addr.add]
 split
 ·rename_i h; subst h
  split
  ·rename_i h; subst h; simp
  ·simp
 ·split
  ·rename_i h; subst h; simp
  ·simp
def fr0 (w:World):Fr:=⟨λb=>b<w.heap.size,λ_=>False,w,λ_=>False,λ_=>none⟩
theorem AU (w:World):HS (fr0 w) (ob []) (nw []) (λ_=>none) (λ_=>False) w where
 size:=Ql _
 kept:=λb hb=>⟨hb,rfl,Iff.rfl⟩
 ids:=λi h=>h.elim
 nj:=λi h=>by rw [yS] at h; cases h
 io:=⟨rfl,rfl⟩
 blk:=λi=>by rw [yS]; trivial
 nk:=λi g c m h _=>by rw [yS] at h; cases h
 inj:=λi j g c m c' m' h _ _ _=>by rw [yS] at h; cases h
 mlt:=λb h=>h.elim
 m0:=λb _ h=>h.elim
 un:=λi _=>⟨rfl,rfl⟩
 uj:=λi _ h=>h.elim
theorem Qp5 {w w':World} {bl:Nat->OB} {U:Nat->Prop} {E:Bj} {M:Nat->Prop} (h:HS (fr0 w) bl U E M w') {p:MemPlace} (hp:p.block<w.heap.size):w.sameAt w' p:=by
 cases p with
 | cell b off=>simp only [World.sameAt,World.cell?]; rw [(h.kept b hp).2.1]; rfl
 | map b=>exact (h.kept b hp).2.1
theorem Qon {w w':World} {bl:Nat->OB} {U:Nat->Prop} {E:Bj} {M:Nat->Prop} (h:HS (fr0 w) bl U E M w') (may:MemPlace->Prop):w.keptBut w' may:=by
 refine ⟨h.io.1,h.io.2,λi hi=>?_⟩;have e:w'.heap[i]? = w.heap[i]? := (h.kept i hi).2.1;rw [e];cases w.heap[i]? with
 | none=>rfl
 | some o=>cases o <;> simp
theorem JH {H:Type} {P:Program} {e:TypeId}:∀ {l:List (DataW H)} {i:Nat} {d:DataW H},l[i]? = some d->∀ n∈d.weights P e,n∈DataW.weightsAll P e l
 | [],i,d,h,_,_=>by simp at h
 |
  x::l,0,d,h,n,hn=>by
  simp at h; subst h;simp only [DataW.weightsAll,Qq]; exact .inl hn
 |
  x::l,i+1,d,h,n,hn=>by
  simp only [DataW.weightsAll,Qq];exact .inr (JH (i:=i) (by simpa using h) n hn)
theorem Mh {H:Type} {P:Program} {t:TypeId} {fs:Array Field} {parts:List (DataW H)} (hu:P.underlying t=some (.struct fs)) (hz:((DataW.agg parts).weights P t).all (· <= reachBytes)=true) {i:Nat} {f:Field} {d:DataW H} (hf:fs[i]? = some f) (hd:parts[i]? = some d) :
 (d.weights P f.type).all (· <= reachBytes)=true:=by
 rw [Jr] at hz ⊢;intro n hn;refine hz n ?_;simp only [DataW.weights,hu];exact DataW.weights_mem_each (j:=i) (by rw [Zb]; simp [hf]) hd n hn
variable {H:Type} {enc:TypeId×Value->H} {w:World}
abbrev O0:Nat->Prop:=λ_=>False
def xZ (w:World) (cs:List Value) (ls:Uq):Prop:=cs.length=ls.length/\∀ (j:Nat) (u:LV),ls[j]? = some u->∃ v,cs[j]? = some v/\LRep w O0 v u
theorem FD {α:Type} {rw_:α->Uq} {Ok:α->Prop} {t e sz:Nat} (hu:prog.underlying t=some (.slice e)) (hc:prog.cellsOf e=sz) (hsz:0<sz) (hb:1<=prog.bytesOf e) (hw:∀ z,(rw_ z).length=sz)
 (elem:∀ fuel cs x,DataW.trod enc prog w 0 (λ_=>true) true fuel e cs=some x->(x.1.weights prog e).all (· <= reachBytes)=true->∃ z,Ok z/\xZ w cs (rw_ z))
 {fuel:Nat} {cs:List Value} {x:DataW H×List MemPlace} (h:DataW.trod enc prog w 0 (λ_=>true) true fuel t cs=some x) (hz:(x.1.weights prog t).all (· <= reachBytes)=true) :
 ∃ (v:Value) (l:List α),cs=[v]/\(∀ z∈l,Ok z)/\l.length<2^47/\LRep w O0 v (.row (l.map rw_)):=by
 rcases Go.Deep.open_slice hu h with ⟨rfl,_⟩ | ⟨a',len,cap,m,n,D,Pl,rfl,_,hlc,hcap,hm,rfl,hr⟩
 ·refine ⟨_,[],rfl,by simp,Nat.two_pow_pos 47,?_⟩;exact LRep.row none 0 0 0 0 [] (λ_ _=>.bool true) (Ql _) (by decide) (by simp) (by simp) (by simp) (by simp)
 ·simp only [if_true] at hm;subst hm;rw [Jr] at hz;have hlen:len<2^47:=by
   have h0:=hz ((len+(m-len))*prog.bytesOf e) (by simp [DataW.weights,hu]);have h1:len<=(len+(m-len))*prog.bytesOf e:=by
    have:=Za (Kx len (m-len)) hb;omega
   have h2:(len+(m-len))*prog.bytesOf e<=reachBytes:=by simpa using h0
   exact Z2 (Qc h1 h2) reachBytes_lt
  have hel:∀ i,i<len->((D i).weights prog e).all (· <= reachBytes)=true:=λi hi=>by
   rw [Jr];intro k hk;refine hz k ?_;simp only [DataW.weights,hu];refine Qg _ (Qq.2 (.inl (JH (i:=i) ?_ k hk)));rw [Zb,X6 hi]; rfl
  have hone:∀ i,i<len->∃ z cs',Ok z/\xZ w cs' (rw_ z)/\∀ j,j<sz->w.cell? ((a'.add (i*sz)).add j)=cs'[j]? := λi hi=>by
   obtain ⟨cs',hcs,htr⟩:=hr i (by omega);rw [hc] at hcs;obtain ⟨_,hl,hcell⟩:=World.cells?_some hcs;obtain ⟨z,hz1,hz2⟩:=elem _ _ _ htr (hel i hi);refine ⟨z,cs',hz1,hz2,λj hj=>?_⟩;rw [hcell j (by omega)]
  have hspot:0<len->a'.spot=none/\a'.block<w.heap.size:=λh0=>by
   obtain ⟨z,cs',_,⟨hl,_⟩,h3⟩:=hone 0 h0;have h4:=h3 0 hsz;have:(a'.add (0*sz)).add 0=a':=by simp [Addr.add]
   rw [this,Qe (by rw [hl,hw]; exact hsz)] at h4;exact Qnr h4
  obtain ⟨l,hll,hl⟩:∃ l:List α,l.length=len/\∀ i z,l[i]? = some z->Ok z/\∃ cs',xZ w cs' (rw_ z)/\∀ j,j<sz->w.cell? ((a'.add (i*sz)).add j)=cs'[j]? := by
   have:∀ k,k<=len->∃ l:List α,l.length=k/\∀ i z,l[i]? = some z->Ok z/\∃ cs',xZ w cs' (rw_ z)/\∀ j,j<sz->w.cell? ((a'.add (i*sz)).add j)=cs'[j]? := by
    intro k
    induction k with
    | zero=>intro _; exact ⟨[],rfl,λi z h=>by simp at h⟩
    |
     succ k ih =>
     intro hk;obtain ⟨l,h1,h2⟩:=ih (by omega);obtain ⟨z,cs',h3,h4,h5⟩:=hone k (by omega);refine ⟨l++[z],by simp [h1],λi y hy=>?_⟩;rcases Zd i l.length with hi | hi
     ·rw [Zj hi] at hy; exact h2 i y hy
     ·rw [Xb hi] at hy;have:i-l.length=0:=by
       rcases Q3 (i-l.length) with h | h
       ·exact h
       ·rw [Qw (by rw [Vv]; exact h)] at hy; cases hy
      rw [this] at hy;simp at hy;subst hy;have:i=k:=by omega
      subst this;exact ⟨h3,cs',h4,h5⟩
   exact this len (Ql _)
  refine ⟨_,l,rfl,λz hz=>?_,by rw [hll]; exact hlen,?_⟩
  ·obtain ⟨i,hi⟩:=Zm.1 hz;exact (hl i z hi).1
  ·have key:LRep w O0 (.slice (some a') (l.map rw_).length m) (.row (l.map rw_)):=by
    have hgl:∀ i c,(l.map rw_)[i]? = some c->∃ z,l[i]? = some z/\c=rw_ z/\i<len:=λi c h=>by
     rw [Zb] at h;cases e:l[i]? with
     | none=>rw [e] at h; cases h
     | some z=>rw [e] at h; simp at h; exact ⟨z,rfl,h.symm,by have:=(Qf.1 e).1; omega⟩
    have hcl:∀ i c,(l.map rw_)[i]? = some c->∃ cs':List Value,xZ w cs' c/\∀ j,j<sz->w.cell? ⟨a'.block,a'.off+i*sz+j,none⟩=cs'[j]? := λi c h=>by
     obtain ⟨z,hz,rfl,hi⟩:=hgl i c h;obtain ⟨_,cs',h1,h2⟩:=hl i z hz;refine ⟨cs',h1,λj hj=>?_⟩;rw [<-h2 j hj,Ql5 (hspot (by omega)).1]
    refine LRep.row (some a') m sz a'.block a'.off (l.map rw_) (λi j=>(w.cell? ⟨a'.block,a'.off+i*sz+j,none⟩).getD (.bool true)) (by rw [Q8]; omega) ?_ ?_ ?_ ?_ ?_
    ·have:maxLen=2^63-1:=by rfl
     omega
    ·intro c hc2;obtain ⟨z,_,rfl⟩:=Q6.1 hc2;exact hw z
    ·intro h0;rw [Q8,hll] at h0;obtain ⟨hs,hb⟩:=hspot h0;refine ⟨?_,hb,by simp [O0]⟩;obtain ⟨b,o,s⟩:=a';simp only at hs;rw [hs]
    ·intro i c hi j hj;obtain ⟨z,_,rfl,_⟩:=hgl i c hi;obtain ⟨cs',⟨h1,_⟩,h2⟩:=hcl i _ hi;have hjs:j<sz:=by rw [<-hw z]; exact hj
     rw [h2 j hjs,Qe (by rw [h1]; exact hj)]; rfl
    ·intro i c hi j u hu2;obtain ⟨z,_,rfl,_⟩:=hgl i c hi;obtain ⟨cs',⟨h1,h3⟩,h2⟩:=hcl i _ hi;obtain ⟨v,hv,hr2⟩:=h3 j u hu2;have hjs:j<sz:=by rw [<-hw z]; exact (Qf.1 hu2).1
     show LRep w O0 ((w.cell? ⟨a'.block,a'.off+i*sz+j,none⟩).getD (.bool true)) u;rw [h2 j hjs,hv]; exact hr2
   rw [Q8,hll] at key;exact key
abbrev Qy8 (x:Nat):Uq:=[.int .u32 (x:Int)]
theorem Qk8:∀ fuel cs x,DataW.trod enc prog w 0 (λ_=>true) true fuel 113 cs=some x->(x.1.weights prog 113).all (· <= reachBytes)=true->∃ z:Nat,z<4294967296/\xZ w cs (Qy8 z):=by
 intro fuel cs x h _;obtain ⟨n,rfl,_,hwf⟩:=DataW.trod_int underlying113 h;have hn:0<=n/\n<4294967296:=by
  have:0<=n/\n<=4294967295:=by simpa [Lit.wf,IntKind.min,IntKind.max,IntKind.signed,IntKind.bits] using hwf
  omega
 refine ⟨n.toNat,by omega,rfl,λj u hu=>?_⟩
 match j,hu with
 |
  0,hu =>
  simp at hu; subst hu;refine ⟨_,rfl,?_⟩;rw [show max n 0=n by omega];exact .int _ _
 | j+1,hu=>simp at hu
set_option maxRecDepth 20000 in
theorem XX:∀ fuel cs x,DataW.trod enc prog w 0 (λ_=>true) true fuel 34 cs=some x->(x.1.weights prog 34).all (· <= reachBytes)=true->∃ z:RawInt,z.Ok/\xZ w cs (An z):=by
 intro fuel cs x h hz;obtain ⟨xs,n,_,rfl,hl,hxs,hf⟩:=DataW.trod_struct underlying34 h;have hl:cs.length=2:=hl
 match cs,hl with
 |
  [v0,v1],_ =>
  obtain ⟨z0,hz0⟩:=Tx (i:=0) hxs (by decide);obtain ⟨z1,hz1⟩:=Tx (i:=1) hxs (by decide);have h0:=hf 0 _ rfl;have h1:=hf 1 _ rfl;rw [hz0] at h0; rw [hz1] at h1;obtain ⟨b,e0,_⟩:=DataW.trod_bool underlying4 h0;have f0:v0=.bool b:=(List.cons.inj (show [v0]=[Value.bool b] from e0)).1;have hw1:=Mh underlying34 hz (i:=1) rfl (d:=z1.1) (by rw [Zb,hz1]; rfl);obtain ⟨v,l,e1,hlo,_,hrep⟩:=FD (sz:=1) (Ok:=λu:Nat=>u<4294967296) (rw_:=Qy8) underlying32 (by kernel_rfl) (by decide) (of_decide_eq_true (by kernel_rfl)) (λ_=>rfl) Qk8 h1 hw1;have f1:v1=v:=(List.cons.inj (show [v1]=[v] from e1)).1;subst f0 f1;refine ⟨⟨b,l⟩,⟨hlo⟩,rfl,λj u hu=>?_⟩
  match j,hu with
  | 0,hu=>simp at hu; subst hu; exact ⟨_,rfl,.bool _⟩
  | 1,hu=>simp at hu; subst hu; exact ⟨_,rfl,hrep⟩
  | j+2,hu=>simp at hu
set_option maxRecDepth 20000 in
theorem bG:∀ fuel cs x,DataW.trod enc prog w 0 (λ_=>true) true fuel 38 cs=some x->(x.1.weights prog 38).all (· <= reachBytes)=true->∃ z:RawPt,z.Ok/\xZ w cs (rwq z):=by
 intro fuel cs x h hz;obtain ⟨xs,n,_,rfl,hl,hxs,hf⟩:=DataW.trod_struct underlying38 h;have hl:cs.length=5:=hl
 match cs,hl with
 |
  [v0,v1,v2,v3,v4],_ =>
  obtain ⟨z0,hz0⟩:=Tx (i:=0) hxs (by decide);obtain ⟨z1,hz1⟩:=Tx (i:=1) hxs (by decide);have h0:=hf 0 _ rfl;have h1:=hf 1 _ rfl;rw [hz0] at h0; rw [hz1] at h1;obtain ⟨id,e4,_,hwf⟩:=DataW.trod_int underlying3 h1;have f4:v4=.int .i64 id:=(List.cons.inj (show [v4]=[Value.int .i64 id] from e4)).1;have hw0:=Mh underlying38 hz (i:=0) rfl (d:=z0.1) (by rw [Zb,hz0]; rfl);obtain ⟨ys,n2,_,e5,_,hys,hg⟩:=DataW.trod_struct underlying36 h0;rw [e5] at hw0;obtain ⟨y0,hy0⟩:=Tx (i:=0) hys (by decide);obtain ⟨y1,hy1⟩:=Tx (i:=1) hys (by decide);obtain ⟨y2,hy2⟩:=Tx (i:=2) hys (by decide);have g0:=hg 0 _ rfl;have g1:=hg 1 _ rfl;have g2:=hg 2 _ rfl;rw [hy0] at g0; rw [hy1] at g1; rw [hy2] at g2;have w0:=Mh underlying36 hw0 (i:=0) rfl (d:=y0.1) (by rw [Zb,hy0]; rfl);have w1:=Mh underlying36 hw0 (i:=1) rfl (d:=y1.1) (by rw [Zb,hy1]; rfl);have w2:=Mh underlying36 hw0 (i:=2) rfl (d:=y2.1) (by rw [Zb,hy2]; rfl);obtain ⟨u0,lx,e0,hx,_,rx⟩:=FD (sz:=2) (Ok:=RawInt.Ok) (rw_:=An) underlying31 (by kernel_rfl) (by decide) (of_decide_eq_true (by kernel_rfl)) (λ_=>rfl) XX g0 w0;obtain ⟨u1,ly,e1,hy,_,ry⟩:=FD (sz:=2) (Ok:=RawInt.Ok) (rw_:=An) underlying31 (by kernel_rfl) (by decide) (of_decide_eq_true (by kernel_rfl)) (λ_=>rfl) XX g1 w1;obtain ⟨d,hd,hde⟩:=XX _ _ _ g2 w2;have f0:v0=u0:=(List.cons.inj (show [v0]=[u0] from e0)).1;have f1:v1=u1:=(List.cons.inj (show [v1]=[u1] from e1)).1;have hde2:xZ w [v2,v3] (An d):=hde;subst f0 f1 f4;obtain ⟨q2,hq2,r2⟩:=hde2.2 0 _ rfl;obtain ⟨q3,hq3,r3⟩:=hde2.2 1 _ rfl;simp at hq2 hq3;subst hq2 hq3;refine ⟨⟨lx,ly,d,id⟩,⟨hx,hy,hd,by simpa [Lit.wf,IntKind.min,IntKind.max,IntKind.signed,IntKind.bits] using hwf⟩,rfl,λj u hu=>?_⟩
  match j,hu with
  | 0,hu=>simp [rwq] at hu; subst hu; exact ⟨_,rfl,rx⟩
  | 1,hu=>simp [rwq] at hu; subst hu; exact ⟨_,rfl,ry⟩
  | 2,hu=>simp [rwq] at hu; subst hu; exact ⟨_,rfl,r2⟩
  | 3,hu=>simp [rwq] at hu; subst hu; exact ⟨_,rfl,r3⟩
  | 4,hu=>simp [rwq] at hu; subst hu; exact ⟨_,rfl,.int _ _⟩
  | j+5,hu=>simp [rwq] at hu
end Orr
namespace Orr
open Go Go.Proofs Tryz Go.ChangeShapes Go.WideShapes Go.ChangeAt Go.RowKit Go.WideElems
variable {H:Type} {enc:TypeId×Value->H} {w:World}
theorem Qhz:∀ fuel cs x,DataW.trod enc prog w 0 (λ_=>true) true fuel 3 cs=some x->(x.1.weights prog 3).all (· <= reachBytes)=true->∃ z:Int,(-9223372036854775808<=z/\z<=9223372036854775807)/\xZ w cs [LV.int .i64 z]:=by
 intro fuel cs x h _;obtain ⟨n,rfl,_,hwf⟩:=DataW.trod_int underlying3 h;refine ⟨n,by simpa [Lit.wf,IntKind.min,IntKind.max,IntKind.signed,IntKind.bits] using hwf,rfl,λj u hu=>?_⟩
 match j,hu with
 |
  0,hu =>
  simp at hu; subst hu;exact ⟨_,rfl,.int _ _⟩
 | j+1,hu=>simp at hu
end Orr
namespace Orr
open Go Go.Proofs Tryz Go.ChangeShapes Go.WideShapes Go.ChangeAt Go.RowKit Go.WideElems
set_option maxRecDepth 10000
def NK (t:TypeId) (R:TV->Prop):Prop:=∀ {H:Type} {enc:TypeId×Value->H} {W:World} {base:Nat} {v:Value} {d:DataW H} {p:List MemPlace},Value.okWide prog W .any base t v->DataW.Trod enc prog W 0 (λ_=>true) true t v d p->(d.weights prog t).all (· <= reachBytes)=true->∃ u,R u/\TRep W (λ_=>False) (λ_=>none) v u
section
variable {H:Type} {enc:TypeId×Value->H} {W W':World} {base:Nat}
theorem tJ:∀ {ps:List (TypeId×(TV->Prop))} {args:List Value} {ds:List (DataW H)} {p:List MemPlace},DataW.TrodAll enc prog W 0 (λ_=>true) true (ps.map (·.1)) args ds p ->
 (∀ (j:Nat) t v,(ps.map (·.1))[j]? = some t->args[j]? = some v->Value.okWide prog W .any base t v)->(∀ (j:Nat) t d,(ps.map (·.1))[j]? = some t->ds[j]? = some d->(d.weights prog t).all (· ≤ reachBytes)=true)->(∀ q∈ps,NK q.1 q.2) ->
 ∃ us,F2 (λu (q:TypeId×(TV->Prop))=>q.2 u) us ps/\F2 (TRep W (λ_=>False) (λ_=>none)) args us/\ds.length=ps.length
 |
  [],args,ds,p,h,_,_,_=>by
  obtain ⟨rfl,rfl,rfl⟩:=trodAll_nil h;exact ⟨[],.nil,.nil,rfl⟩
 |
  q::ps,args,ds,p,h,hv,hw,hr=>by
  obtain ⟨v,vs,d,ds',p1,p2,rfl,rfl,rfl,h1,h2⟩:=trodAll_cons h;obtain ⟨u,r1,r2⟩:=hr q (Qy ..) (hv 0 q.1 v rfl rfl) h1 (hw 0 q.1 d rfl rfl);obtain ⟨us,s1,s2,s3⟩:=tJ h2 (λj t v h h'=>hv (j+1) t v (by simpa using h) (by simpa using h')) (λj t d h h'=>hw (j+1) t d (by simpa using h) (by simpa using h')) λq hq=>hr q (Qg _ hq)
  exact ⟨u::us,.cons r1 s1,.cons r2 s2,by simp [s3]⟩
theorem sQ {sp':Nat->Bool} (hl:laidOutB prog=true):∀ {ps:List (TypeId×(TV->Prop))} {args:List Value} {ds:List (DataW H)} {p:List MemPlace},DataW.TrodAll enc prog W 0 (λ_=>true) true (ps.map (·.1)) args ds p ->
 (∀ q∈ps,prog.readableRec q.1=true/\q.1<prog.types.size)->(∀ x∈p,W.sameAt W' x)->(∀ x∈p,sp' x.block=true)->DataW.TrodAll enc prog W' 0 sp' true (ps.map (·.1)) args ds p
 |
  [],args,ds,p,h,_,_,_=>by
  obtain ⟨rfl,rfl,rfl⟩:=trodAll_nil h;exact trodAll_mk0
 |
  q::ps,args,ds,p,h,hr,hs,hb=>by
  obtain ⟨v,vs,d,ds',p1,p2,rfl,rfl,rfl,h1,h2⟩:=trodAll_cons h;obtain ⟨r1,r2⟩:=hr q (Qy ..);exact trodAll_cons_mk (Trod_stays hl r1 r2 h1 (λx hx=>hs x (Qq.2 (.inl hx))) λx hx=>hb x (Qq.2 (.inl hx))) (sQ hl h2 (λq hq=>hr q (Qg _ hq)) (λx hx=>hs x (Qq.2 (.inr hx))) λx hx=>hb x (Qq.2 (.inr hx)))
end
theorem Qib {ps:List (TypeId×(TV->Prop))} {f:FuncId} {fn:Func} {s:ChangeSpec} (hp:fn.params=(ps.map (·.1)).toArray) (hr:fn.resultTypes = #[4]) (hv:s.vars=[])
 (hs:∀ (H:Type) (ds:List (DataW H)),ds.length=ps.length->s.fn H ds={ results:=[.lit (.bool true)],args:=ds })
 (hlaid:laidOutB prog=true) (hrec:∀ q∈ps,prog.readableRec q.1=true/\q.1<prog.types.size) (hrd:∀ q∈ps,NK q.1 q.2)
 (law:∀ us:Ut,F2 (λu (q:TypeId×(TV->Prop))=>q.2 u) us ps->AG prog f us [.one (.bool true)])
 {H:Type} {enc:TypeId×Value->H} {W:World} {base:Nat} {args:Array Value} {ds gs:List (DataW H)} {Ti:List MemPlace} {fresh handsOn:Bool}
 (hval:∀ (j:Nat) t v,fn.params[j]? = some t->args[j]? = some v->Value.okWide prog W .any base t v)
 (hW:DataW.Whole enc prog fn.params.toList s.vars false W args.toList ds gs Ti)
 (hz:(DataW.weightsEach prog (fn.params.toList++s.plain.varTypes prog) (ds++gs)).all (· <= reachBytes)=true) :
 Calls prog f args W λe W'=>∃ v,e=.returned v/\s.post enc prog fn false fresh handsOn false W args v W':=by
 have hW':=hW;obtain ⟨p,q,hA0,hV,rfl,hfz,hnd⟩:=hW;have hA:DataW.TrodAll enc prog W 0 (λ_=>true) true fn.params.toList args.toList ds p:=hA0;rw [hv] at hV;obtain ⟨rfl,rfl⟩:=trodVars_none hV;have hlt:=hW'.lt;rw [hp] at hA hval hz;have hA:DataW.TrodAll enc prog W 0 (λ_=>true) true (ps.map (·.1)) args.toList ds p:=by simpa using hA
 obtain ⟨us,r1,r2,r3⟩:=tJ (base:=base) hA (λj t v h h'=>hval j t v (by simpa using h) (by simpa using h')) (λj t d h h'=>by
  rw [Jr] at hz ⊢;intro k hk;have hj:j<(ps.map (·.1)).length:=(Qf.1 h).1;have hj2:j<ds.length:=(Qf.1 h').1;exact hz k (DataW.weights_mem_each (j:=j) (by rw [Zj (by simpa using hj)]; simpa using h) (by rw [Zj hj2]; exact h') k hk)) hrd
 have hcall:=(law us r1).2 (fr0 W) (λ_=>none) (λ_=>False) W args.toList (AU W) r2;have ea:args.toList.toArray=args:=by simp
 rw [ea] at hcall;refine hcall.mono λe W' ⟨v,u,Bo,E',M',he,⟨hu,hBo⟩,_,hm,har⟩=>?_
 subst hu;obtain rfl:v=.bool true:=by
  have h:LRep _ _ v (.bool true):=har;cases h;rfl
 refine ⟨_,he,?_⟩;refine ⟨ds,[],_,[],p,[],hW',?_,?_,?_,Qon hm _,λh=>by cases h⟩
 ·rw [hr,Zv,hs H ds r3];exact trodAll_cons_mk (shut_bool underlying4 true) trodAll_mk0
 ·rw [hp,Zv,hs H ds r3];have hb:∀ x∈p,x.block<W.heap.size:=λx hx=>hlt x (by simp [hx])
  have:=sQ (sp':=λb=>decide (b<W.heap.size)) hlaid hA hrec (λx hx=>Qp5 hm (hb x hx)) λx hx=>by simpa using hb x hx
  simpa using this
 ·rw [hv,Zv,hs H ds r3];rfl
abbrev Qsp (u:TV):Prop:=∃ n:Int,(-9223372036854775808<=n/\n<=9223372036854775807)/\u=.oi n
abbrev Qra (u:TV):Prop:=∃ zs:Ul,(∀ z∈zs,-9223372036854775808≤z/\z≤9223372036854775807)/\u=.one (.row (idl zs))
theorem zY:NK 3 Qsp:=λ{H enc W base v d p} hv h _=>by
 obtain ⟨n,rfl,rfl,rfl,w1⟩:=open_int underlying3 hv h;exact ⟨_,⟨n,by simpa [Lit.wf,IntKind.min,IntKind.max,IntKind.signed,IntKind.bits] using w1,rfl⟩,show XRep W (λ_=>False) (λ_=>none) (.int .i64 n) (.int .i64 n) from (LRep.int .i64 n).x⟩
theorem zV {α:Type} {rw_:α->Uq} {Ok:α->Prop} {t e sz:Nat} (hu:prog.underlying t=some (.slice e)) (hc:prog.cellsOf e=sz) (hsz:0<sz) (hb:1<=prog.bytesOf e) (hw:∀ z,(rw_ z).length=sz)
 (elem:∀ {H:Type} {enc:TypeId×Value->H} {w:World} fuel cs x,DataW.trod enc prog w 0 (λ_=>true) true fuel e cs=some x->(x.1.weights prog e).all (· ≤ reachBytes)=true->∃ z,Ok z/\xZ w cs (rw_ z)):NK t λu=>∃ l:List α,(∀ z∈l,Ok z)/\u=.one (.row (l.map rw_)):=λ{H enc W base v d p} hv h hz=>by
 obtain ⟨a,len,cap,rfl⟩:=okWide_slice hu hv;obtain ⟨fu,h⟩:=h;obtain ⟨v,l,e0,hok,_,hrep⟩:=FD hu hc hsz hb hw (λfuel cs x h h'=>elem fuel cs x h h') h hz;have f0:Value.slice a len cap=v:=(List.cons.inj (show [Value.slice a len cap]=[v] from e0)).1;subst f0;exact ⟨_,⟨l,hok,rfl⟩,show XRep W (λ_=>False) (λ_=>none) _ (.row (l.map rw_)) from hrep.x⟩
theorem cZ:NK 23 Qra:=zV (sz:=1) (Ok:=λz:Int=>-9223372036854775808<=z/\z<=9223372036854775807) (rw_:=λz:Int=>[LV.int .i64 z]) underlying23 (by kernel_rfl) (by decide) (of_decide_eq_true (by kernel_rfl)) (λ_=>rfl) λfuel cs x=>Qhz fuel cs x
end Orr
namespace Orr
open Go Go.Proofs Tryz Go.ChangeShapes Go.WideShapes Go.ChangeAt Go.RowKit Go.WideElems
set_option maxRecDepth 10000
theorem UG {w:World} {cs cs':List Value} {ls ls':Uq} (h:xZ w cs ls) (h':xZ w cs' ls'):xZ w (cs++cs') (ls++ls'):=by
 refine ⟨by simp [h.1,h'.1],λj u hu=>?_⟩;by_cases hj:j<ls.length
 ·rw [Zj hj] at hu;obtain ⟨v,hv,hr⟩:=h.2 j u hu;exact ⟨v,by rw [Zj (by rw [h.1]; exact hj)]; exact hv,hr⟩
 ·rw [Xb (by omega)] at hu;obtain ⟨v,hv,hr⟩:=h'.2 _ u hu;exact ⟨v,by rw [Xb (by rw [h.1]; omega),h.1]; exact hv,hr⟩
theorem jG {w:World} {n:Int}:xZ w [.int .i64 n] [.int .i64 n]:=⟨rfl,λj u hu=>by
 match j,hu with
 | 0,hu=>simp at hu; subst hu; exact ⟨_,rfl,.int _ _⟩
 | j+1,hu=>simp at hu⟩
section
variable {H:Type} {enc:TypeId×Value->H} {w:World}
set_option maxRecDepth 20000 in
theorem Qo9:∀ fuel cs x,DataW.trod enc prog w 0 (λ_=>true) true fuel 42 cs=some x->(x.1.weights prog 42).all (· <= reachBytes)=true->∃ z:RawOp,z.Ok/\xZ w cs (rwo z):=by
 intro fuel cs x h hz;obtain ⟨xs,n,_,rfl,hl,hxs,hf⟩:=DataW.trod_struct underlying42 h;have hl:cs.length=12:=hl
 match cs,hl with
 |
  [v0,v1,v2,v3,v4,v5,v6,v7,v8,v9,v10,v11],_ =>
  obtain ⟨z0,hz0⟩:=Tx (i:=0) hxs (by decide);obtain ⟨z1,hz1⟩:=Tx (i:=1) hxs (by decide);obtain ⟨z2,hz2⟩:=Tx (i:=2) hxs (by decide);obtain ⟨z3,hz3⟩:=Tx (i:=3) hxs (by decide);obtain ⟨z4,hz4⟩:=Tx (i:=4) hxs (by decide);have h0:=hf 0 _ rfl;have h1:=hf 1 _ rfl;have h2:=hf 2 _ rfl;have h3:=hf 3 _ rfl;have h4:=hf 4 _ rfl;rw [hz0] at h0; rw [hz1] at h1; rw [hz2] at h2; rw [hz3] at h3; rw [hz4] at h4;obtain ⟨k,e0,_,w0⟩:=DataW.trod_int underlying3 h0;obtain ⟨m,e1,_,w1⟩:=DataW.trod_int underlying3 h1;obtain ⟨d,e2,_,w2⟩:=DataW.trod_int underlying3 h2;have f0:v0=.int .i64 k:=(List.cons.inj (show [v0]=[Value.int .i64 k] from e0)).1;have f1:v1=.int .i64 m:=(List.cons.inj (show [v1]=[Value.int .i64 m] from e1)).1;have f2:v2=.int .i64 d:=(List.cons.inj (show [v2]=[Value.int .i64 d] from e2)).1;have hw3:=Mh underlying42 hz (i:=3) rfl (d:=z3.1) (by rw [Zb,hz3]; rfl);have hw4:=Mh underlying42 hz (i:=4) rfl (d:=z4.1) (by rw [Zb,hz4]; rfl);obtain ⟨p,p1,p2⟩:=bG _ _ _ h3 hw3;have p2:xZ w [v3,v4,v5,v6,v7] (rwq p):=p2;obtain ⟨ys,n2,_,e5,_,hys,hg⟩:=DataW.trod_struct underlying40 h4;rw [e5] at hw4;obtain ⟨y0,hy0⟩:=Tx (i:=0) hys (by decide);obtain ⟨y1,hy1⟩:=Tx (i:=1) hys (by decide);have g0:=hg 0 _ rfl;have g1:=hg 1 _ rfl;rw [hy0] at g0; rw [hy1] at g1;have x0:=Mh underlying40 hw4 (i:=0) rfl (d:=y0.1) (by rw [Zb,hy0]; rfl);have x1:=Mh underlying40 hw4 (i:=1) rfl (d:=y1.1) (by rw [Zb,hy1]; rfl);obtain ⟨t,t1,t2⟩:=XX _ _ _ g0 x0;obtain ⟨u,u1,u2⟩:=XX _ _ _ g1 x1;have t2:xZ w [v8,v9] (An t):=t2;have u2:xZ w [v10,v11] (An u):=u2;subst f0 f1 f2;exact ⟨⟨k,m,d,p,t,u⟩,⟨by simpa [Lit.wf,IntKind.min,IntKind.max,IntKind.signed,IntKind.bits] using w0,by simpa [Lit.wf,IntKind.min,IntKind.max,IntKind.signed,IntKind.bits] using w1,by simpa [Lit.wf,IntKind.min,IntKind.max,IntKind.signed,IntKind.bits] using w2,p1,t1,u1⟩,
   UG (UG (UG (UG (UG jG jG) jG) p2) t2) u2⟩
end
abbrev Qw1 (u:TV):Prop:=∃ l:List RawOp,(∀ o∈l,o.Ok)/\u=.one (.row (qH l))
theorem Qc0:NK 22 Qw1:=zV (sz:=12) (Ok:=RawOp.Ok) (rw_:=rwo) underlying22 (by kernel_rfl) (by decide) (of_decide_eq_true (by kernel_rfl)) (λ_=>rfl) λfuel cs x=>Qo9 fuel cs x
end Orr
