import Derived.Test.YtpbfkdfffbfabaaGreatPart09
import Derived.Test.YtpbfkdfffbfabaaGreatPart00
import Derived.Test.YtpbfkdfffbfabaaGreatPart08
import Derived.Test.YtpbfkdfffbfabaaGreatPart07
import Derived.Test.YtpbfkdfffbfabaaGreatPart06
set_option linter.all false
namespace Orr
open Go Go.Proofs Tryz Orq
set_option maxRecDepth 10000
set_option maxHeartbeats 8000000 in
theorem jR{l:List Pt}{a:Tm}{c:Cr}{r1:Ff}(hl:∀p∈l,Sc p.c)(hn:l.length≤6)(ha:Va a):Ge prog 118 [.one (.ow 0 0),.agg (ta a)] [.blk 212 (Te c (Ga l) r1)] [.one (.row (Gk (wL l a)))] [.blk 212 (Te c (Ga l) (lT l a))]:=by
 have hwl:=JK l;have cw:=aF (l:=l) (Qfp hl) Fo;have Q:=Qm1 a;unfold lT wL nD nL;obtain⟨d,hsg⟩:∃s,s=G6 a:=⟨_,rfl⟩;obtain⟨W,hW⟩:=nmE (Pq l);have E:∀p∈W,Sc p.c:=λp hp=>hl p (Dh (by rw[<-hW];exact hp))
 have mR:=λ{x y z:Pt} (hx:x∈W) (B:y∈W) (hz:z∈W)=>Qb5 (t:=a) (E x hx) (E y B) (E z hz) ha
 have mC:=λ{x y z u:Pt} (hx:x∈W) (B:y∈W) (hz:z∈W) (hu:u∈W)=>Qsb (t:=a) (E x hx) (E y B) (E z hz) (E u hu) ha
 rw[<-hW]at cw hwl ⊢;rw[<-hsg]at Q mR mC ⊢;have L:W.length<=6:=Fo;have hTi:=λps=>Qhk Q ps
 have hcp:(W.map Gq).length=W.length:=Ft;have hcp2:=Rl W;have H:∀i,(Ga W).drop i=Ga (W.drop i):=λi=>by unfold Ga;rw[List.map_drop]
 have D:∀z∈Ga W,z.length=5:=λz hz=>by obtain⟨p,_,rfl⟩:=Q8.1 hz;rfl
 have s7:∀x:Ct,∀y∈[Ey x],y.length=7:=λx y B=>by rw[Qk.1 B];rfl
 have s3:∀x:P3,∀y∈[trL x],y.length=3:=λx y B=>by rw[Qk.1 B];rfl
 obtain⟨T,hT⟩:=nmE (QK (VX d (S0 W)));obtain⟨G,hG⟩:=nmE (XU T (FK d (JQ W)));have hTI:sG T:=by rw[hT];exact hTi _
 have X:Qrf T:=λk=>(hTI k).1
 have Z:Qix G:=λk=>by rw[hG];exact eN _ _ _ k
 rw[<-hT,<-hG];have e0:(Gk (((A5 0 W).map (DN d))))=[]:=rfl;refine G7 func118 rfl ?_;refine Ux [.k cw,.o 6 66 7] rfl ?_;refine U4 (S:=Nat) 4 (λL1 i=>(42,.v (.oi i))::(6,.v (.one (.orow 2 7 none)))::L1) (λi=>[.blk 212 (Te c (Ga l) r1),.blk 72 (ta a),.row false 66 7 (Gk ((A5 i W).map (DN d))),.mpb (QK (VX d (A5 i W)))]) (λi=>W.length-i) (λi=>i<=W.length) 0 (Qj _) rfl rfl λi hi=>?_
 by_cases w:i<W.length
 .obtain⟨x,hx⟩:=gxE (l:=W) (i:=i) w;have xm:=Qc hx;obtain⟨V,q⟩:=nmE (W.drop (i+1));have hVl:V.length=W.length-(i+1):=by rw[q,Za]
  have J:∀p∈V,p∈W:=λp hp=>by rw[q]at hp;exact Q3 hp
  have eV:(Ga W).drop (i+1)=Ga V:=by rw[H,<-q]
  rw[<-qB W x i];refine go tt [.T,.x (Mr hx),.r 49 (eI (b:=((i+1:Nat):Int)) Fo),.i (i+1),.r 50 (TZ eV)] rfl (by simp only[Gi];(repeat' apply And.intro) <;> first|omega|exact D) ?_;have hVr:=Rl V;refine U4 (S:=Nat) 5 (λL1 j=>(52,.v (.oi j))::(6,.v (.one (.orow 2 7 none)))::L1) (λj=>[.blk 212 (Te c (Ga l) r1),.blk 72 (ta a),.row false 66 7 (Gk ((p3j W x i j).map (DN d))),.mpb (QK (VX d (p3j W x i j))),.blk 39 (Gq x)]) (λj=>V.length-j) (λj=>j<=V.length) 0 (Qj _) rfl rfl λj hj=>?_
  by_cases n:j<V.length
  .obtain⟨y,B⟩:=gxE (l:=V) (i:=j) n;have ym:=J y (Qc B);have C:(W.drop (i+1))[j]? = some y:=by rw[<-q];exact B
   obtain⟨U,I⟩:=nmE (V.drop (j+1));have hUl:U.length=V.length-(j+1):=by rw[I,Za]
   have K:∀p∈U,p∈W:=λp hp=>by rw[I]at hp;exact J p (Q3 hp)
   have A:U=(W.drop (i+1)).drop (j+1):=by rw[I,q]
   have eU:(Ga W).drop (i+j+2)=Ga U:=by rw[H,I,q,Yg];congr 2;omega
   have hUr:=Rl U;rw[<-qD W x y i j];refine go tt [.T,.x (Mr B),.r 61 (eI (b:=((i+j+2:Nat):Int)) Fo),.i (i+j+2),.r 62 (TZ eU)] rfl (by simp only[Gi];(repeat' apply And.intro) <;> first|omega|exact D) ?_;refine U4 (S:=Nat) 6 (λL1 k=>(64,.v (.oi k))::(6,.v (.one (.orow 2 7 none)))::L1) (λk=>[.blk 212 (Te c (Ga l) r1),.blk 72 (ta a),.row false 66 7 (Gk ((vD W x y i j k).map (DN d))),.mpb (QK (VX d (vD W x y i j k))),.blk 39 (Gq x),.blk 39 (Gq y)]) (λk=>U.length-k) (λk=>k<=U.length) 0 (Qj _) rfl rfl λk hk=>?_
   by_cases h:k<U.length
   .obtain⟨z,hz⟩:=gxE (l:=U) (i:=k) h;have zm:=K z (Qc hz);have P:=Qek L (k:=k) hx C;have en:=qC (x:=x) (y:=y) (by rw[<-A];exact hz);have et:=Qbh d (vD W x y i j k) (x,y,z);rw[<-en]at et;refine go tt [.T,.x (Mr hz),.k (mR xm ym zm),.s (sz:=7) (s7 _)] rfl (by simp[Gi,Nf] <;> omega) ?_;exact rd (k+1) Fo h (by rw[et,en,Jx];simp[Gk];rfl)
   .have e:=rW (x:=x) (k:=k) C (by rw[<-A];omega);rw[e];refine go tt [.F] rfl Fx ?_;exact rd (j+1) Fo n rfl
  .have e:=rK (x:=x) (j:=j) hx (by rw[<-q];omega);rw[e];refine go tt [.F] rfl Fx ?_;exact rd (i+1) Fo w rfl
 rw[Qfj (show i=W.length by omega),<-hT];have hiW:¬i<W.length:=w;clear w;obtain⟨M,hC3⟩:=nmE ((S0 W).map (DN d));have hC3l:M.length<=20:=by rw[hC3,Ze];exact(UD L).1
 rw[<-hC3];refine Ux [.F] rfl ?_;have eC:Gk M=Gk (M++(I4 0 W).map (MY d)):=by rw[show I4 0 W=[] from rfl,X8,Zx]
 rw[eC];refine U4 (S:=Nat) 5 (λL1 i=>(97,.v (.oi i))::(6,.v (.one (.orow 2 7 none)))::L1) (λi=>[.blk 212 (Te c (Ga l) r1),.blk 72 (ta a),.row false 66 7 (Gk (M++(I4 i W).map (MY d))),.mpb T,.mpb (XU T (FK d (I4 i W)))]) (λi=>W.length-i) (λi=>i<=W.length) 0 (Qj _) rfl rfl λi hi=>?_
 by_cases w:i<W.length
 .obtain⟨x,hx⟩:=gxE (l:=W) (i:=i) w;have xm:=Qc hx;obtain⟨V,q⟩:=nmE (W.drop (i+1));have hVl:V.length=W.length-(i+1):=by rw[q,Za]
  have J:∀p∈V,p∈W:=λp hp=>by rw[q]at hp;exact Q3 hp
  have eV:(Ga W).drop (i+1)=Ga V:=by rw[H,<-q]
  have hVr:=Rl V;rw[<-Qon W x i];refine go tt [.T,.x (Mr hx),.r 104 (eI (b:=((i+1:Nat):Int)) Fo),.i (i+1),.r 105 (TZ eV)] rfl (by simp only[Gi];(repeat' apply And.intro) <;> first|omega|exact D) ?_;refine U4 (S:=Nat) 6 (λL1 j=>(107,.v (.oi j))::(6,.v (.one (.orow 2 7 none)))::L1) (λj=>[.blk 212 (Te c (Ga l) r1),.blk 72 (ta a),.row false 66 7 (Gk (M++(p4j W x i j).map (MY d))),.mpb T,.mpb (XU T (FK d (p4j W x i j))),.blk 39 (Gq x)]) (λj=>V.length-j) (λj=>j<=V.length) 0 (Qj _) rfl rfl λj hj=>?_
  by_cases n:j<V.length
  .obtain⟨y,B⟩:=gxE (l:=V) (i:=j) n;have ym:=J y (Qc B);have C:(W.drop (i+1))[j]? = some y:=by rw[<-q];exact B
   obtain⟨U,I⟩:=nmE (V.drop (j+1));have hUl:U.length=V.length-(j+1):=by rw[I,Za]
   have K:∀p∈U,p∈W:=λp hp=>by rw[I]at hp;exact J p (Q3 hp)
   have A:U=(W.drop (i+1)).drop (j+1):=by rw[I,q]
   have eU:(Ga W).drop (i+j+2)=Ga U:=by rw[H,I,q,Yg];congr 2;omega
   have hUr:=Rl U;rw[<-Qoo W x y i j];refine go tt [.T,.x (Mr B),.r 116 (eI (b:=((i+j+2:Nat):Int)) Fo),.i (i+j+2),.r 117 (TZ eU)] rfl (by simp only[Gi];(repeat' apply And.intro) <;> first|omega|exact D) ?_;refine U4 (S:=Nat) 7 (λL1 k=>(119,.v (.oi k))::(6,.v (.one (.orow 2 7 none)))::L1) (λk=>[.blk 212 (Te c (Ga l) r1),.blk 72 (ta a),.row false 66 7 (Gk (M++(p4k W x y i j k).map (MY d))),.mpb T,.mpb (XU T (FK d (p4k W x y i j k))),.blk 39 (Gq x),.blk 39 (Gq y)]) (λk=>U.length-k) (λk=>k<=U.length) 0 (Qj _) rfl rfl λk hk=>?_
   by_cases h:k<U.length
   .obtain⟨z,hz⟩:=gxE (l:=U) (i:=k) h;have zm:=K z (Qc hz);have hz':((W.drop (i+1)).drop (j+1))[k]? = some z:=by rw[<-A];exact hz
    obtain⟨R,hR⟩:=nmE (U.drop (k+1));have hRl:R.length=U.length-(k+1):=by rw[hR,Za]
    have hRm:∀p∈R,p∈W:=λp hp=>by rw[hR]at hp;exact K p (Q3 hp)
    have Y:R=((W.drop (i+1)).drop (j+1)).drop (k+1):=by rw[hR,A]
    have eR:(Ga W).drop (i+j+k+3)=Ga R:=by rw[H,Y,Yg,Yg];congr 2;omega
    have hRr:=Rl R;rw[<-Qoq W x y z i j k];refine go tt [.T,.x (Mr hz),.r 130 (eI (b:=((i+j+k+3:Nat):Int)) Fo),.i (i+j+k+3),.r 131 (TZ eR)] rfl (by simp only[Gi];(repeat' apply And.intro) <;> first|omega|exact D) ?_;refine U4 (S:=Nat) 8 (λL1 m=>(133,.v (.oi m))::(6,.v (.one (.orow 2 7 none)))::L1) (λm=>[.blk 212 (Te c (Ga l) r1),.blk 72 (ta a),.row false 66 7 (Gk (M++(p4m W x y z i j k m).map (MY d))),.mpb T,.mpb (XU T (FK d (p4m W x y z i j k m))),.blk 39 (Gq x),.blk 39 (Gq y),.blk 39 (Gq z)]) (λm=>R.length-m) (λm=>m<=R.length) 0 (Qj _) rfl rfl λm hm=>?_
    by_cases N:m<R.length
    .obtain⟨u,hu⟩:=gxE (l:=R) (i:=m) N;have um:=hRm u (Qc hu);have P:=Qu4 L (m:=m) hx C hz';have en:=Qop (x:=x) (y:=y) (z:=z) (by rw[<-Y];exact hu);have et:=iG d T (p4m W x y z i j k m) (x,y,z,u);rw[<-en]at et;have cf:=Qzj (F:=XU T (FK d (p4m W x y z i j k m))) (s:=(vF d x y z u).want) (n0:=x.id) (n1:=y.id) (n2:=z.id) (n3:=u.id) hTI (Q _);refine go tt [.T,.x (Mr hu),.k (mC xm ym zm um),.s (sz:=7) (s7 _),.c [4,3] cf] rfl (by simp[Gi,Nf] <;> omega) ?_;exact rd (m+1) Fo N (by rw[et,en,Jx,<-Zh];simp[Gk];rfl)
    .have e:=Qu3 (x:=x) (y:=y) (m:=m) hz' (by rw[<-Y];omega);rw[e];refine go tt [.F] rfl Fx ?_;exact rd (k+1) Fo h rfl
   .have e:=Qu2 (x:=x) (k:=k) C (by rw[<-A];omega);rw[e];refine go tt [.F] rfl Fx ?_;exact rd (j+1) Fo n rfl
  .have e:=Qu1 (x:=x) (j:=j) hx (by rw[<-q];omega);rw[e];refine go tt [.F] rfl Fx ?_;exact rd (i+1) Fo w rfl
 rw[Qvk (show i=W.length by omega),<-hG];obtain⟨C4,hC4⟩:=nmE (M++(JQ W).map (MY d));rw[<-hC4];refine Ux [.F] rfl ?_;refine ozM 0 13 281 3 rfl rfl ?_;have eT:([]:Ff)=HT ((A5 0 W).filter (fR T G)):=rfl;rw[eT];refine U4 (S:=Nat) 6 (λL1 i=>(174,.v (.oi i))::L1) (λi=>[.blk 212 [.bool true,pl c.now.p,sg c.now.lo.num,mg c.now.lo.num,sg (c.now.lo.den:Int),mg (c.now.lo.den:Int),sg c.now.hi.num,mg c.now.hi.num,sg (c.now.hi.den:Int),mg (c.now.hi.den:Int),.row (Lk c.l),.int .i64 c.ev,.row (Ga l),.orow 5 3 none],.blk 72 (ta a),.row false 66 7 (Gk C4),.mpb T,.mpb G,.row false 281 3 (HT ((A5 i W).filter (fR T G)))]) (λi=>W.length-i) (λi=>i<=W.length) 0 (Qj _) rfl rfl λi hi=>?_
 by_cases w:i<W.length
 .obtain⟨x,hx⟩:=gxE (l:=W) (i:=i) w;obtain⟨V,q⟩:=nmE (W.drop (i+1));have hVl:V.length=W.length-(i+1):=by rw[q,Za]
  have eV:(Ga W).drop (i+1)=Ga V:=by rw[H,<-q]
  have hVr:=Rl V;rw[<-qB W x i];refine go tt [.T,.x (Mr hx),.r 181 (eI (b:=((i+1:Nat):Int)) Fo),.i (i+1),.r 182 (TZ eV)] rfl (by simp only[Gi];(repeat' apply And.intro) <;> first|omega|exact D) ?_;refine U4 (S:=Nat) 7 (λL1 j=>(184,.v (.oi j))::L1) (λj=>[.blk 212 [.bool true,pl c.now.p,sg c.now.lo.num,mg c.now.lo.num,sg (c.now.lo.den:Int),mg (c.now.lo.den:Int),sg c.now.hi.num,mg c.now.hi.num,sg (c.now.hi.den:Int),mg (c.now.hi.den:Int),.row (Lk c.l),.int .i64 c.ev,.row (Ga l),.orow 5 3 none],.blk 72 (ta a),.row false 66 7 (Gk C4),.mpb T,.mpb G,.row false 281 3 (HT ((p3j W x i j).filter (fR T G))),.blk 39 (Gq x)]) (λj=>V.length-j) (λj=>j<=V.length) 0 (Qj _) rfl rfl λj hj=>?_
  by_cases n:j<V.length
  .obtain⟨y,B⟩:=gxE (l:=V) (i:=j) n;have C:(W.drop (i+1))[j]? = some y:=by rw[<-q];exact B
   obtain⟨U,I⟩:=nmE (V.drop (j+1));have hUl:U.length=V.length-(j+1):=by rw[I,Za]
   have A:U=(W.drop (i+1)).drop (j+1):=by rw[I,q]
   have eU:(Ga W).drop (i+j+2)=Ga U:=by rw[H,I,q,Yg];congr 2;omega
   have hUr:=Rl U;rw[<-qD W x y i j];refine go tt [.T,.x (Mr B),.r 193 (eI (b:=((i+j+2:Nat):Int)) Fo),.i (i+j+2),.r 194 (TZ eU)] rfl (by simp only[Gi];(repeat' apply And.intro) <;> first|omega|exact D) ?_;refine U4 (S:=Nat) 8 (λL1 k=>(196,.v (.oi k))::L1) (λk=>[.blk 212 [.bool true,pl c.now.p,sg c.now.lo.num,mg c.now.lo.num,sg (c.now.lo.den:Int),mg (c.now.lo.den:Int),sg c.now.hi.num,mg c.now.hi.num,sg (c.now.hi.den:Int),mg (c.now.hi.den:Int),.row (Lk c.l),.int .i64 c.ev,.row (Ga l),.orow 5 3 none],.blk 72 (ta a),.row false 66 7 (Gk C4),.mpb T,.mpb G,.row false 281 3 (HT ((vD W x y i j k).filter (fR T G))),.blk 39 (Gq x),.blk 39 (Gq y)]) (λk=>U.length-k) (λk=>k<=U.length) 0 (Qj _) rfl rfl λk hk=>?_
   by_cases h:k<U.length
   .obtain⟨z,hz⟩:=gxE (l:=U) (i:=k) h;have P:=Qek L (k:=k) hx C;have en:=qC (x:=x) (y:=y) (by rw[<-A];exact hz);have hfl:=Vh (fR T G) (vD W x y i j k);have htl:=lQ ((vD W x y i j k).filter (fR T G));by_cases h1:YI T [x.id,y.id,z.id]≠0
    .by_cases h2:AG G [x.id,y.id,z.id]=true
     .have ef:fR T G (x,y,z)=false:=by unfold fR iL;simp[h2]
      have O:=Qmn (ps:=vD W x y i j k) ef;rw[<-en]at O;refine go tt [.T,.x (Mr hz),.g 211 true (decide_eq_true h1),.f (by rw[h2];rfl)] rfl (by simp only[Gi];(repeat' apply And.intro) <;> first|exact X|exact Z|omega|(simp only[Q5,Xt];omega)) ?_;exact rd (k+1) Fo h (by rw[O];rfl)
     .have h2:AG G [x.id,y.id,z.id]=false:=by simpa using h2
      have ef:fR T G (x,y,z)=true:=by unfold fR iL;simp[h2,h1]
      have O:=Q0e (ps:=vD W x y i j k) ef;rw[<-en]at O;refine go tt [.T,.x (Mr hz),.g 211 true (decide_eq_true h1),.t (by rw[h2];rfl),.s (sz:=3) (s3 (x,y,z))] rfl (by simp only[Gi];(repeat' apply And.intro) <;> first|exact X|exact Z|omega|(simp only[Q5,Xt];omega)) ?_;exact rd (k+1) Fo h (by rw[O];simp[HT];rfl)
    .have ef:fR T G (x,y,z)=false:=by unfold fR iL;simp[h1]
     have O:=Qmn (ps:=vD W x y i j k) ef;rw[<-en]at O;refine go tt [.T,.x (Mr hz),.g 211 false (decide_eq_false h1),.f rfl] rfl (by simp only[Gi];(repeat' apply And.intro) <;> first|exact X|exact Z|omega|(simp only[Q5,Xt];omega)) ?_;exact rd (k+1) Fo h (by rw[O];rfl)
   .have e:=rW (x:=x) (k:=k) C (by rw[<-A];omega);rw[e];refine go tt [.F] rfl Fx ?_;exact rd (j+1) Fo n rfl
  .have e:=rK (x:=x) (j:=j) hx (by rw[<-q];omega);rw[e];refine go tt [.F] rfl Fx ?_;exact rd (i+1) Fo w rfl
 rw[Qfj (show i=W.length by omega)];rw[hC4,hC3];exact U3 [2,5] [0] [.F] rfl
variable{t:Rat}
theorem Q25{T:Nat}{Bc:Tm->List Ct}{Br:Tm->Ff}{r0:Ff}(ht:Qs 1640000 t)(j:BuildOk Bc)
 (hb:∀a c r1,Va a->CrOk c->Ge prog 118 [.one (.ow 0 0),.agg (ta a)] [.blk T (Te c r0 r1)] [.one (.row (Gk (Bc a)))] [.blk T (Te c r0 (Br a))])
 {K:Nat} {c c':Cr} {r1 e:Ff} {n:Int} (hc:CrOk c) (u:0<=c.ev/\c.ev+K<=1000000000000000000) (h:Gt c.now t<=0) (hg:HE Bc Br t K c r1 0=some (c',e,n)) :
 Ge prog 354 [.one (.ow 0 0),.agg (rl t),.one (.ofn 118 [.ow 0 0] [])] [.blk T (Te c r0 r1)] [.oi n,.oi 0] [.blk T (Te c' r0 e)]:=by
 have y:Qb t:=ht.mono Fp;have B:=Eo hc.n.tb y;refine G7 func354 rfl ?_;refine Ux [.c [0] (JR hc.n),.k B,.f (by simpa using h)] rfl ?_;refine U4 (S:=Nat×Cr×Ff×Int) 2 (λL1 s=>(8,.v (.oi s.2.2.2))::L1) (λs=>[.blk T (Te s.2.1 r0 s.2.2.1),.blk 41 (rl t)]) (λs=>s.1) (λs=>CrOk s.2.1/\(0<=s.2.1.ev/\s.2.1.ev+s.1<=1000000000000000000)/\(0<=s.2.2.2/\s.2.2.2+s.1<=1000000000000000000)/\HE Bc Br t s.1 s.2.1 s.2.2.1 s.2.2.2=some (c',e,n)) (K,c,r1,0) ⟨hc,u,⟨Int.le_refl 0,Fv⟩,hg⟩ rfl rfl λ⟨k,x,r,m⟩ ⟨j1,j2,j3,d⟩=>?_
 dsimp only at j1 j2 j3 d ⊢;cases k with
 |zero=>cases d
 |
  succ k =>
  simp only[HE]at d;obtain⟨ws,w1,d⟩:=Qd.1 d;obtain⟨o,z,d⟩:=Qd.1 d;have q:=QH (T:=T) (r0:=r0) (r1:=r) j1 w1 z;have w:=FH (Gb t.num) (Gb (t.den:Int)) (Qa ht.1 Fp) (Qa ht.2 Fp) (by rw[Mk];exact ht.mono Fp);rw[Mk]at w;cases o with
  |
   none =>
   injection d with d;injection d with e1 d;injection d with e2 e3;subst e1;subst e2;subst e3;exact U3 [] [0] [.c [0] q,.g 25 true rfl,.t rfl,.k w] rfl
  |
   some a =>
   have ha:=qM j1 w1 z;dsimp only at d;have A:=Eo ha.tb y;by_cases h0:0<Gt a t
   .rw[if_pos h0]at d;injection d with d;injection d with e1 d;injection d with e2 e3;subst e1;subst e2;subst e3;exact U3 [] [0] [.c [0] q,.g 25 false rfl,.k A,.t (by simpa using h0),.k w] rfl
   .rw[if_neg h0]at d;obtain⟨C,l1,d⟩:=Qd.1 d;have i:=Af j1 w1;have cl:=Me (b:=a) (l:=[]) ha.tb (λt ht=>by cases ht) Fp rfl;have cb:=hb a { x with l:=ws } r ha i;have E:=RF (T:=T) (r0:=r0) (r1:=Br a) i ha (j.p a ha) (j.n a ha) l1;have D:decide (0<Gt a t)=false:=by simpa using h0
    refine Uy [.c [0] q,.g 25 false rfl,.k A,.f D,.k cl,.c [0] cb,.c [0] E] rfl ?_;exact rd (k,⟨a,C,x.ev+1⟩,Br a,m+1) Fv ⟨lay_ok _ i ha (j.p a ha) (j.n a ha) l1,Fv,Fv,d⟩ rfl
theorem Qyz{l:List Pt}{K:Nat}{c c':Cr}{r1 b:Ff}{n:Int}(ht:Qs 1640000 t)(hl:∀p∈l,Sc p.c)(hn:l.length≤6)(hc:CrOk c)(d:0≤c.ev/\c.ev+K≤1000000000000000000)(h:Gt c.now t≤0)(hg:HE (wL l) (lT l) t K c r1 0=some (c',b,n)):
 Ge prog 390 [.one (.ow 0 0),.agg (rl t)] [.blk 212 (Te c (Ga l) r1)] [.oi n,.oi 0] [.blk 212 (Te c' (Ga l) b)]:=by
 have e:=Q25 (T:=212) (r0:=Ga l) ht (eZ hl hn) (λa c r1 ha _=>jR (c:=c) (r1:=r1) hl hn ha) hc d h hg;refine G7 func390 rfl ?_;exact U3 [] [0] [.k (Dk (ht.mono Fp)),.c [0] e] rfl
theorem eO{c:Cr}{r0:Ff}{a:List P3}(ht:a.length<=1000):Ge prog 106 [.one (.ow 0 0)] [.blk 212 (Te c r0 (HT a))] [.one (.row (HT a))] [.blk 212 (Te c r0 (HT a))]:=by
 have hl:=lQ a;have h3:∀y∈HT a,y.length=3:=λy b=>by obtain⟨m,_,rfl⟩:=Q8.1 b;rfl
 refine G7 func106 rfl ?_;exact U3 [1] [0] [.s (sz:=3) h3] rfl Fx

variable{c:Cr}{r1:Ff}{ws:List Wt}
theorem AS{l l':List Pt}(hc:CrOk c)(hl:∀p∈l',Sc p.c)(hn:l'.length≤6)(h:Po c.l c.now (Gv (wL l' c.now))=some ws):
 Ge prog 394 [.one (.ow 0 0),.agg [pts l'],.oi 0] [.blk 212 (Te c (Ga l) r1)] [.oi 0] [.blk 212 (Te ⟨c.now,ws,c.ev⟩ (Ga l') (lT l' c.now))]:=by
 have a:=eZ hl hn;have d:=JR (T:=212) (c:=c) (r0:=Ga l') (r1:=r1) hc.n;have cb:=jR (c:=c) (r1:=r1) hl hn hc.n;have b:=WE (T:=212) (r0:=Ga l') (r1:=lT l' c.now) hc hc.n (XQ hc.n) (Y0 0) (a.p _ hc.n) (a.n _ hc.n) h;refine G7 func394 rfl ?_;exact U3 [] [0] [.f rfl,.c [0] d,.c [0] cb,.c [0] b] rfl
theorem Qr4{lx ly:Ff}{px py:U8}{x y:LV}{d id:Int}{l:List Pt}(hx:IsInts lx px)(f:IsInts ly py)(hd:Hi x y d)(a:Cs 4294967294 1073741824 (Crv.mk px py d))(e:l.length<=900)
 (he:HY l ⟨Crv.norm (Crv.mk px py d),id⟩=0) (hc:CrOk c) (hl:∀p∈put l ⟨Crv.norm (Crv.mk px py d),id⟩,Sc p.c) (hn:(put l ⟨Crv.norm (Crv.mk px py d),id⟩).length≤6) (h:Po c.l c.now (Gv (wL (put l ⟨Crv.norm (Crv.mk px py d),id⟩) c.now))=some ws) :
 Ge prog 392 [.one (.ow 0 0),.agg [.row lx,.row ly,x,y,.int .i64 id]] [.blk 212 (Te c (Ga l) r1)] [.oi 0] [.blk 212 (Te ⟨c.now,ws,c.ev⟩ (Ga (put l ⟨Crv.norm (Crv.mk px py d),id⟩)) (lT (put l ⟨Crv.norm (Crv.mk px py d),id⟩) c.now))]:=by
 have cp:=pV (l:=l) (id:=id) hx f hd a Fo;rw[if_pos he,he]at cp;have g:=AS (l:=l) (r1:=r1) hc hl hn h;refine G7 func392 rfl ?_;obtain⟨b,l',rfl,rfl,_⟩:=hd;exact U3 [] [0] [.k cp,.c [0] g] rfl
theorem Qjk{lx ly:Ff}{px py:U8}{x y:LV}{d id:Int}{l l':List Pt}(hx:IsInts lx px)(j:IsInts ly py)(hd:Hi x y d)(g:Cs 4294967294 1073741824 (Crv.mk px py d))(i:l.length<=6)(h:has l id=true)(hc:CrOk c)
 (e:l'=l.set (S6 l id) (Pt.mk (Crv.norm (Crv.mk px py d)) id)) (hs:∀p∈l',Sc p.c) (f:Po c.l c.now (Gv (wL l' c.now))=some ws) :
 Ge prog 393 [.one (.ow 0 0),.agg [.row lx,.row ly,x,y,.int .i64 id]] [.blk 212 (Te c (Ga l) r1)] [.oi 0] [.blk 212 (Te ⟨c.now,ws,c.ev⟩ (Ga l') (lT l' c.now))]:=by
 have a:=RP (l:=l) hx j hd g Fo h;rw[<-e]at a;have m:=AS (c:=c) (l:=l) (l':=l') (r1:=r1) hc hs (by rw[e,Xd];omega) f;obtain⟨b,r,rfl,rfl,_⟩:=hd;refine G7 func393 rfl ?_;exact U3 [] [0] [.k a,.c [0] m] rfl
theorem Qjj{id:Int}{l l':List Pt}(e:l.length<=6)(h:has l id=true)(hc:CrOk c)
 (b:l'=l.take (S6 l id)++l.drop (S6 l id+1)) (hs:∀p∈l',Sc p.c) (d:Po c.l c.now (Gv (wL l' c.now))=some ws) :
 Ge prog 391 [.one (.ow 0 0),.oi id] [.blk 212 (Te c (Ga l) r1)] [.oi 0] [.blk 212 (Te ⟨c.now,ws,c.ev⟩ (Ga l') (lT l' c.now))]:=by
 have a:=RH (l:=l) (id:=id) Fo h;rw[<-b]at a;have f:=AS (c:=c) (l:=l) (l':=l') (r1:=r1) hc hs (by rw[b,Qw,Qt,Za];omega) d;refine G7 func391 rfl ?_;exact U3 [] [0] [.k a,.c [0] f] rfl
theorem Qf2{r0:Ff}:Ge prog 146 [.one (.ow 0 0)] [.blk 212 (Te c r0 r1)] [.one (.ow 1 0)] [.blk 212 (Te c r0 r1),.blk 212 (Te c r0 r1)]:=by
 refine G7 func146 rfl ?_;exact U3 [] [0,1] [] rfl
variable{r1:Ff}{ws:List Wt}
theorem Qsl{lx ly:Ff}{px py:U8}{x y:LV}{d id:Int}{c:Cr}{l l':List Pt}(hx:IsInts lx px)(j:IsInts ly py)(hd:Hi x y d)(g:Cs 4294967294 1073741824 (Crv.mk px py d))(i:l.length<=900)(h:has l id=true)(hc:CrOk c)
 (e:l'=l.set (S6 l id) (Pt.mk (Crv.norm (Crv.mk px py d)) id)) (hs:∀p∈l',Sc p.c) (f:Po c.l c.now (Gv (VY l' c.now))=some ws) :
 Ge prog 352 [.one (.ow 0 0),.agg [.row lx,.row ly,x,y,.int .i64 id]] [.blk 200 (Te c (Ga l) r1)] [.oi 0] [.blk 200 (Te ⟨c.now,ws,c.ev⟩ (Ga l') (xN l' c.now))]:=by
 have a:=RP (l:=l) hx j hd g Fo h;rw[<-e]at a;have m:=uY (c:=c) (l:=l) (l':=l') (r1:=r1) hc hs (by rw[e,Xd];omega) f;obtain⟨b,r,rfl,rfl,_⟩:=hd;refine G7 func352 rfl ?_;exact U3 [] [0] [.k a,.c [0] m] rfl
theorem Qsj{id:Int}{c:Cr}{l l':List Pt}(e:l.length<=900)(h:has l id=true)(hc:CrOk c)
 (b:l'=l.take (S6 l id)++l.drop (S6 l id+1)) (hs:∀p∈l',Sc p.c) (d:Po c.l c.now (Gv (VY l' c.now))=some ws) :
 Ge prog 348 [.one (.ow 0 0),.oi id] [.blk 200 (Te c (Ga l) r1)] [.oi 0] [.blk 200 (Te ⟨c.now,ws,c.ev⟩ (Ga l') (xN l' c.now))]:=by
 have a:=RH (l:=l) (id:=id) Fo h;rw[<-b]at a;have f:=uY (c:=c) (l:=l) (l':=l') (r1:=r1) hc hs (by rw[b,Qw,Qt,Za];omega) d;refine G7 func348 rfl ?_;exact U3 [] [0] [.k a,.c [0] f] rfl
variable{t:Rat}
theorem Q26{T:Nat}{Bc:Tm->List Ct}{Br:Tm->Ff}{r0:Ff}(ht:Qs 1640000 t)(j:BuildOk Bc)
 (hb:∀a c r1,Va a->CrOk c->Ge prog 116 [.one (.ow 0 0),.agg (ta a)] [.blk T (Te c r0 r1)] [.one (.row (Gk (Bc a)))] [.blk T (Te c r0 (Br a))])
 {K:Nat} {c c':Cr} {r1 e:Ff} {n:Int} (hc:CrOk c) (u:0<=c.ev/\c.ev+K<=1000000000000000000) (h:Gt c.now t<=0) (hg:HE Bc Br t K c r1 0=some (c',e,n)) :
 Ge prog 354 [.one (.ow 0 0),.agg (rl t),.one (.ofn 116 [.ow 0 0] [])] [.blk T (Te c r0 r1)] [.oi n,.oi 0] [.blk T (Te c' r0 e)]:=by
 have y:Qb t:=ht.mono Fp;have B:=Eo hc.n.tb y;refine G7 func354 rfl ?_;refine Ux [.c [0] (JR hc.n),.k B,.f (by simpa using h)] rfl ?_;refine U4 (S:=Nat×Cr×Ff×Int) 2 (λL1 s=>(8,.v (.oi s.2.2.2))::L1) (λs=>[.blk T (Te s.2.1 r0 s.2.2.1),.blk 41 (rl t)]) (λs=>s.1) (λs=>CrOk s.2.1/\(0<=s.2.1.ev/\s.2.1.ev+s.1<=1000000000000000000)/\(0<=s.2.2.2/\s.2.2.2+s.1<=1000000000000000000)/\HE Bc Br t s.1 s.2.1 s.2.2.1 s.2.2.2=some (c',e,n)) (K,c,r1,0) ⟨hc,u,⟨Int.le_refl 0,Fv⟩,hg⟩ rfl rfl λ⟨k,x,r,m⟩ ⟨j1,j2,j3,d⟩=>?_
 dsimp only at j1 j2 j3 d ⊢;cases k with
 |zero=>cases d
 |
  succ k =>
  simp only[HE]at d;obtain⟨ws,w1,d⟩:=Qd.1 d;obtain⟨o,z,d⟩:=Qd.1 d;have q:=QH (T:=T) (r0:=r0) (r1:=r) j1 w1 z;have w:=FH (Gb t.num) (Gb (t.den:Int)) (Qa ht.1 Fp) (Qa ht.2 Fp) (by rw[Mk];exact ht.mono Fp);rw[Mk]at w;cases o with
  |
   none =>
   injection d with d;injection d with e1 d;injection d with e2 e3;subst e1;subst e2;subst e3;exact U3 [] [0] [.c [0] q,.g 25 true rfl,.t rfl,.k w] rfl
  |
   some a =>
   have ha:=qM j1 w1 z;dsimp only at d;have A:=Eo ha.tb y;by_cases h0:0<Gt a t
   .rw[if_pos h0]at d;injection d with d;injection d with e1 d;injection d with e2 e3;subst e1;subst e2;subst e3;exact U3 [] [0] [.c [0] q,.g 25 false rfl,.k A,.t (by simpa using h0),.k w] rfl
   .rw[if_neg h0]at d;obtain⟨C,l1,d⟩:=Qd.1 d;have i:=Af j1 w1;have cl:=Me (b:=a) (l:=[]) ha.tb (λt ht=>by cases ht) Fp rfl;have cb:=hb a { x with l:=ws } r ha i;have E:=RF (T:=T) (r0:=r0) (r1:=Br a) i ha (j.p a ha) (j.n a ha) l1;have D:decide (0<Gt a t)=false:=by simpa using h0
    refine Uy [.c [0] q,.g 25 false rfl,.k A,.f D,.k cl,.c [0] cb,.c [0] E] rfl ?_;exact rd (k,⟨a,C,x.ev+1⟩,Br a,m+1) Fv ⟨lay_ok _ i ha (j.p a ha) (j.n a ha) l1,Fv,Fv,d⟩ rfl
def Q20(l:List Pt)(a:Tm):Cr:=⟨a,(Gv (EI l a)).map fresh,0⟩
theorem Qy1{l:List Pt}{K:Nat}{c c':Cr}{r1 b:Ff}{n:Int}(ht:Qs 1640000 t)(hl:∀p∈l,Sc p.c)(hn:l.length≤10)(hc:CrOk c)(d:0≤c.ev/\c.ev+K≤1000000000000000000)(h:Gt c.now t≤0)(hg:HE (EI l) (brH l) t K c r1 0=some (c',b,n)):
 Ge prog 380 [.one (.ow 0 0),.agg (rl t)] [.blk 208 (Te c (Ga l) r1)] [.oi n,.oi 0] [.blk 208 (Te c' (Ga l) b)]:=by
 have e:=Q26 (T:=208) (r0:=Ga l) ht (eJ hl hn) (λa c r1 ha _=>jS (c:=c) (r1:=r1) hl hn ha) hc d h hg;refine G7 func380 rfl ?_;exact U3 [] [0] [.k (Dk (ht.mono Fp)),.c [0] e] rfl
theorem Qy2{c:Cr}{l s:List Pt}(hs:s.length<=1000000):Ge prog 105 [.one (.ow 0 0)] [.blk 208 (Te c (Ga l) (Ga s))] [.one (ids (s.map (·.id)))] [.blk 208 (Te c (Ga l) (Ga s))]:=by
 have b:=Rl s;refine G7 func105 rfl ?_;refine Ux [.o 3 3 1] rfl ?_;refine U4 (S:=Nat) 2 (λL1 i=>(11,.v (.oi i))::(3,.v (.one (.orow 1 1 none)))::L1) (λi=>[.blk 208 (Te c (Ga l) (Ga s)),.row false 3 1 (((s.take i).map (·.id)).map λ(z:Int)=>[LV.int .i64 z])]) (λi=>s.length-i) (λi=>i<=s.length) 0 (Qj _) rfl rfl λi hi=>?_
 by_cases a:i<s.length
 .obtain⟨p,hp⟩:=gxE (l:=s) (i:=i) a;have hg:(((s.take (i+1)).map (·.id)).map λ(z:Int)=>[LV.int .i64 z])=(((s.take i).map (·.id)).map λ(z:Int)=>[LV.int .i64 z])++[[.int .i64 p.id]]:=by
   rw[Zv,hp];simp
  refine Uy [.t (by simp[b];omega),.x (Ms hp),.s (sz:=1) (l:=[[.int .i64 p.id]]) (λc hc=>by rw[Qk.1 hc];rfl)] rfl ?_;exact rd (i+1) Fo a (by rw[hg];rfl)
 .obtain rfl:i=s.length:=Fo;rw[Q6];exact U3 [1] [0] [.f (by simp[b])] rfl
abbrev VV(k:Nat)(np nd:Int)(M:List Pt)(q:Rat)(s t h p d:Cr):Fg:=[.blk 111 (lN k q),tB np nd M,bS s M q,bT t M q,bH h M q,bP p M q,bD d M q]
abbrev Q5t(k:Nat):Fe:=[.oif 105 (k+2) 0,.oif 106 (k+3) 0,.oif 107 (k+4) 0,.oif 108 (k+5) 0,.oif 109 (k+6) 0]
variable{np:Int}{M:List Pt}{q:Rat}{s t h p d:Cr}
theorem IZ{nd:Int}{a:List Pt}:Ge prog 38 [.one (.ow 0 0)] [.blk 111 (lN 0 q),tB np nd a,bS s M q,bT t M q,bH h M q,bP p M q,bD d M q] [.agg (Q5t 0)] [.blk 111 (lN 0 q),tB np nd a,bS s M q,bT t M q,bH h M q,bP p M q,bD d M q]:=by
 refine G7 func38 rfl ?_;exact U3 [] [0,1,2,3,4,5,6] [] rfl
abbrev wJ(k i:Nat)(a b:OB):OB:=match Nat.blt k i with
 |true=>b
 |false=>a
variable{id:Int}{b:Bool}
theorem Qjt{nd:Int}{a:List Pt}{k e g j d':Cr}{lx ly l3:Ff}{o l m r n:Int}
 (ht:Ge prog 70 [.one (.ow 0 0),.agg [.row lx,.row ly,.bool b,.row l3,.int .i64 id]] [tB np nd M] [.oi 0] [tB np nd a])
 (h1:Ge prog 351 [.one (.ow 0 0),.agg [.row lx,.row ly,.bool b,.row l3,.int .i64 id]] [bS s M q] [.oi o] [bS k a q])
 (h2:Ge prog 377 [.one (.ow 0 0),.agg [.row lx,.row ly,.bool b,.row l3,.int .i64 id]] [bT t M q] [.oi l] [bT e a q])
 (h3:Ge prog 382 [.one (.ow 0 0),.agg [.row lx,.row ly,.bool b,.row l3,.int .i64 id]] [bH h M q] [.oi m] [bH g a q])
 (h4:Ge prog 387 [.one (.ow 0 0),.agg [.row lx,.row ly,.bool b,.row l3,.int .i64 id]] [bP p M q] [.oi r] [bP j a q])
 (h5:Ge prog 392 [.one (.ow 0 0),.agg [.row lx,.row ly,.bool b,.row l3,.int .i64 id]] [bD d M q] [.oi n] [bD d' a q]) :
 Ge prog 25 [.one (.ow 0 0),.oi id,.agg [.row lx,.row ly,.bool b,.row l3]] (VV 0 np nd M q s t h p d) [.oi 0] (VV 0 np nd a q k e g j d'):=by
 refine G7 func25 rfl ?_;refine Ux [.c [1] ht,.f rfl,.c Fi IZ] rfl ?_;refine U4 (S:=Nat) 9 (λL1 i=>(25,.v (.oi i))::L1) (λi=>[.blk 111 (lN 0 q),tB np nd a,wJ 0 i (bS s M q) (bS k a q),wJ 1 i (bT t M q) (bT e a q),wJ 2 i (bH h M q) (bH g a q),wJ 3 i (bP p M q) (bP j a q),wJ 4 i (bD d M q) (bD d' a q),.blk 37 [.row lx,.row ly,.bool b,.row l3],.blk 39 [.row lx,.row ly,.bool b,.row l3,.int .i64 id]]) (λi=>5-i) (λi=>i<=5) 0 Fp rfl rfl λi hi=>?_
 rcases(show i=0\/i=1\/i=2\/i=3\/i=4\/i=5 by omega)with rfl|rfl|rfl|rfl|rfl|rfl
 .exact go tt [.t rfl,.i 0,.c [2] h1] rfl Fy (rd 1 Fo Fo rfl)
 .exact go tt [.t rfl,.i 1,.c [3] h2] rfl Fy (rd 2 Fo Fo rfl)
 .exact go tt [.t rfl,.i 2,.c [4] h3] rfl Fy (rd 3 Fo Fo rfl)
 .exact go tt [.t rfl,.i 3,.c [5] h4] rfl Fy (rd 4 Fo Fo rfl)
 .exact go tt [.t rfl,.i 4,.c [6] h5] rfl Fy (rd 5 Fo Fo rfl)
 .exact U3 [] [0,1,2,3,4,5,6] [.f rfl] rfl
variable{a:Bool}{e:Int}
theorem Qf8{nd:Int}{lx ly l3:Ff}(he:e≠0)
 (ht:Ge prog 70 [.one (.ow 0 0),.agg [.row lx,.row ly,.bool a,.row l3,.int .i64 id]] [tB np nd M] [.oi e] [tB np nd M]) :
 Ge prog 25 [.one (.ow 0 0),.oi id,.agg [.row lx,.row ly,.bool a,.row l3]] (VV 0 np nd M q s t h p d) [.oi e] (VV 0 np nd M q s t h p d):=by
 refine G7 func25 rfl ?_;exact U3 [] [0,1,2,3,4,5,6] [.c [1] ht,.t (by simpa using he)] rfl
theorem Qka{nd:Int}{a:List Pt}{k e g j d':Cr}{lx ly l3:Ff}{o l m r n:Int}
 (ht:Ge prog 72 [.one (.ow 0 0),.agg [.row lx,.row ly,.bool b,.row l3,.int .i64 id]] [tB np nd M] [.oi 0] [tB np nd a])
 (h1:Ge prog 352 [.one (.ow 0 0),.agg [.row lx,.row ly,.bool b,.row l3,.int .i64 id]] [bS s M q] [.oi o] [bS k a q])
 (h2:Ge prog 378 [.one (.ow 0 0),.agg [.row lx,.row ly,.bool b,.row l3,.int .i64 id]] [bT t M q] [.oi l] [bT e a q])
 (h3:Ge prog 383 [.one (.ow 0 0),.agg [.row lx,.row ly,.bool b,.row l3,.int .i64 id]] [bH h M q] [.oi m] [bH g a q])
 (h4:Ge prog 388 [.one (.ow 0 0),.agg [.row lx,.row ly,.bool b,.row l3,.int .i64 id]] [bP p M q] [.oi r] [bP j a q])
 (h5:Ge prog 393 [.one (.ow 0 0),.agg [.row lx,.row ly,.bool b,.row l3,.int .i64 id]] [bD d M q] [.oi n] [bD d' a q]) :
 Ge prog 27 [.one (.ow 0 0),.oi id,.agg [.row lx,.row ly,.bool b,.row l3]] (VV 0 np nd M q s t h p d) [.oi 0] (VV 0 np nd a q k e g j d'):=by
 refine G7 func27 rfl ?_;refine Ux [.c [1] ht,.f rfl,.c Fi IZ] rfl ?_;refine U4 (S:=Nat) 9 (λL1 i=>(25,.v (.oi i))::L1) (λi=>[.blk 111 (lN 0 q),tB np nd a,wJ 0 i (bS s M q) (bS k a q),wJ 1 i (bT t M q) (bT e a q),wJ 2 i (bH h M q) (bH g a q),wJ 3 i (bP p M q) (bP j a q),wJ 4 i (bD d M q) (bD d' a q),.blk 37 [.row lx,.row ly,.bool b,.row l3],.blk 39 [.row lx,.row ly,.bool b,.row l3,.int .i64 id]]) (λi=>5-i) (λi=>i<=5) 0 Fp rfl rfl λi hi=>?_
 rcases(show i=0\/i=1\/i=2\/i=3\/i=4\/i=5 by omega)with rfl|rfl|rfl|rfl|rfl|rfl
 .exact go tt [.t rfl,.i 0,.c [2] h1] rfl Fy (rd 1 Fo Fo rfl)
 .exact go tt [.t rfl,.i 1,.c [3] h2] rfl Fy (rd 2 Fo Fo rfl)
 .exact go tt [.t rfl,.i 2,.c [4] h3] rfl Fy (rd 3 Fo Fo rfl)
 .exact go tt [.t rfl,.i 3,.c [5] h4] rfl Fy (rd 4 Fo Fo rfl)
 .exact go tt [.t rfl,.i 4,.c [6] h5] rfl Fy (rd 5 Fo Fo rfl)
 .exact U3 [] [0,1,2,3,4,5,6] [.f rfl] rfl
theorem Qgc{nd:Int}{lx ly l3:Ff}(he:e≠0)
 (ht:Ge prog 72 [.one (.ow 0 0),.agg [.row lx,.row ly,.bool a,.row l3,.int .i64 id]] [tB np nd M] [.oi e] [tB np nd M]) :
 Ge prog 27 [.one (.ow 0 0),.oi id,.agg [.row lx,.row ly,.bool a,.row l3]] (VV 0 np nd M q s t h p d) [.oi e] (VV 0 np nd M q s t h p d):=by
 refine G7 func27 rfl ?_;exact U3 [] [0,1,2,3,4,5,6] [.c [1] ht,.t (by simpa using he)] rfl
theorem Qjl{nd:Int}{a:List Pt}{j b e g d':Cr}{n k l o m:Int}
 (ht:Ge prog 71 [.one (.ow 0 0),.oi id] [tB np nd M] [.oi 0] [tB np nd a])
 (h1:Ge prog 348 [.one (.ow 0 0),.oi id] [bS s M q] [.oi n] [bS j a q])
 (h2:Ge prog 376 [.one (.ow 0 0),.oi id] [bT t M q] [.oi k] [bT b a q])
 (h3:Ge prog 381 [.one (.ow 0 0),.oi id] [bH h M q] [.oi l] [bH e a q])
 (h4:Ge prog 386 [.one (.ow 0 0),.oi id] [bP p M q] [.oi o] [bP g a q])
 (h5:Ge prog 391 [.one (.ow 0 0),.oi id] [bD d M q] [.oi m] [bD d' a q]) :
 Ge prog 26 [.one (.ow 0 0),.oi id] (VV 0 np nd M q s t h p d) [.oi 0] (VV 0 np nd a q j b e g d'):=by
 refine G7 func26 rfl ?_;refine Ux [.c [1] ht,.f rfl,.c Fi IZ] rfl ?_;refine U4 (S:=Nat) 7 (λL1 i=>(19,.v (.oi i))::L1) (λi=>[.blk 111 (lN 0 q),tB np nd a,wJ 0 i (bS s M q) (bS j a q),wJ 1 i (bT t M q) (bT b a q),wJ 2 i (bH h M q) (bH e a q),wJ 3 i (bP p M q) (bP g a q),wJ 4 i (bD d M q) (bD d' a q)]) (λi=>5-i) (λi=>i<=5) 0 Fp rfl rfl λi hi=>?_
 rcases(show i=0\/i=1\/i=2\/i=3\/i=4\/i=5 by omega)with rfl|rfl|rfl|rfl|rfl|rfl
 .exact go tt [.t rfl,.i 0,.c [2] h1] rfl Fy (rd 1 Fo Fo rfl)
 .exact go tt [.t rfl,.i 1,.c [3] h2] rfl Fy (rd 2 Fo Fo rfl)
 .exact go tt [.t rfl,.i 2,.c [4] h3] rfl Fy (rd 3 Fo Fo rfl)
 .exact go tt [.t rfl,.i 3,.c [5] h4] rfl Fy (rd 4 Fo Fo rfl)
 .exact go tt [.t rfl,.i 4,.c [6] h5] rfl Fy (rd 5 Fo Fo rfl)
 .exact U3 [] [0,1,2,3,4,5,6] [.f rfl] rfl
theorem Qf3{nd:Int}(he:e≠0)
 (ht:Ge prog 71 [.one (.ow 0 0),.oi id] [tB np nd M] [.oi e] [tB np nd M]) :
 Ge prog 26 [.one (.ow 0 0),.oi id] (VV 0 np nd M q s t h p d) [.oi e] (VV 0 np nd M q s t h p d):=by
 refine G7 func26 rfl ?_;exact U3 [] [0,1,2,3,4,5,6] [.c [1] ht,.t (by simpa using he)] rfl
theorem Qf1{nd:Int}{r:Rat}{e g j l d':Cr}{o x1 x2 n:LV}{a b n1 n2 n3 y z:Int}(ha:Hi o x1 a)(hb:Hi x2 n b)(A:Gm a<=4294967295)(sb:Gm b<=4294967295)(hr:Hn a b=r)(hs:Qs 128 r)(w:Qs 128 q)(m:q<=r)
 (h1:Ge prog 346 [.one (.ow 0 0),.agg (rl r)] [bS s M q] [.oi n1,.oi 0] [bS e M r])
 (h2:Ge prog 375 [.one (.ow 0 0),.agg (rl r)] [bT t M q] [.oi n2,.oi 0] [bT g M r])
 (h3:Ge prog 380 [.one (.ow 0 0),.agg (rl r)] [bH h M q] [.oi n3,.oi 0] [bH j M r])
 (h4:Ge prog 385 [.one (.ow 0 0),.agg (rl r)] [bP p M q] [.oi y,.oi 0] [bP l M r])
 (h5:Ge prog 390 [.one (.ow 0 0),.agg (rl r)] [bD d M q] [.oi z,.oi 0] [bD d' M r]) :
 Ge prog 29 [.one (.ow 0 0),.agg [o,x1,x2,n]] (VV 0 np nd M q s t h p d) [.oi 0] (VV 0 np nd M r e g j l d'):=by
 have u:=IH ha hb A sb;rw[hr]at u;obtain⟨b1,r1,rfl,rfl,_⟩:=ha;obtain⟨B,r2,rfl,rfl,_⟩:=hb;have x:=Er (a:=r) (b:=q) (hs.mono Fp) (w.mono Fp);have l1:=VQ.2 hs.1;have l2:(He r.den).length<=4:=by simpa using VQ.2 hs.2
 have hc:¬Hu r q<0:=λh=>absurd (Dn.1 h) (Ug.2 m)
 refine G7 func29 rfl ?_;refine Ux [.k u,.f (by simp[sU];omega),.f (by simp[sU];omega),.k x,.f (by simpa using hc),.c Fi IZ] rfl ?_;refine U4 (S:=Nat) 8 (λL1 i=>(32,.v (.oi i))::L1) (λi=>[.blk 111 (lN 0 q),tB np nd M,wJ 0 i (bS s M q) (bS e M r),wJ 1 i (bT t M q) (bT g M r),wJ 2 i (bH h M q) (bH j M r),wJ 3 i (bP p M q) (bP l M r),wJ 4 i (bD d M q) (bD d' M r),.blk 41 (rl r)]) (λi=>5-i) (λi=>i<=5) 0 Fp rfl rfl λi hi=>?_
 rcases(show i=0\/i=1\/i=2\/i=3\/i=4\/i=5 by omega)with rfl|rfl|rfl|rfl|rfl|rfl
 .exact go tt [.t rfl,.i 0,.c [2] h1] rfl Fy (rd 1 Fo Fo rfl)
 .exact go tt [.t rfl,.i 1,.c [3] h2] rfl Fy (rd 2 Fo Fo rfl)
 .exact go tt [.t rfl,.i 2,.c [4] h3] rfl Fy (rd 3 Fo Fo rfl)
 .exact go tt [.t rfl,.i 3,.c [5] h4] rfl Fy (rd 4 Fo Fo rfl)
 .exact go tt [.t rfl,.i 4,.c [6] h5] rfl Fy (rd 5 Fo Fo rfl)
 .exact U3 [] [0,1,2,3,4,5,6] [.f rfl] rfl
theorem wO{nd:Int}{r:Rat}{g x1 x2 e:LV}{a b:Int}(ha:Hi g x1 a)(hb:Hi x2 e b)(i:Gm a<=4294967295)(sb:Gm b<=4294967295)(hr:Hn a b=r)(hs:¬Qs 128 r):
 Ge prog 29 [.one (.ow 0 0),.agg [g,x1,x2,e]] (VV 0 np nd M q s t h p d) [.oi 1] (VV 0 np nd M q s t h p d):=by
 have c:=IH ha hb i sb;rw[hr]at c;obtain⟨b1,r1,rfl,rfl,_⟩:=ha;obtain⟨j,r2,rfl,rfl,_⟩:=hb;refine G7 func29 rfl ?_;by_cases h1:Gm r.num<=128
 .have h2:¬Gm (r.den:Int)<=128:=λh=>hs ⟨h1,h⟩
  have l1:=VQ.2 h1;have l2:=mt VQ.1 h2;exact U3 [] [0,1,2,3,4,5,6] [.k c,.f (by simp[sU];omega),.t (by simp[sU]at l2 ⊢;omega)] rfl
 .have l1:=mt VQ.1 h1;exact U3 [] [0,1,2,3,4,5,6] [.k c,.t (by simp[sU];omega),.t rfl] rfl
theorem xB{nd:Int}{r:Rat}{i x1 x2 e:LV}{a b:Int}(ha:Hi i x1 a)(hb:Hi x2 e b)(m:Gm a<=4294967295)(sb:Gm b<=4294967295)(hr:Hn a b=r)(hs:Qs 128 r)(j:Qs 128 q)(c:r<q):
 Ge prog 29 [.one (.ow 0 0),.agg [i,x1,x2,e]] (VV 0 np nd M q s t h p d) [.oi 8] (VV 0 np nd M q s t h p d):=by
 have g:=IH ha hb m sb;rw[hr]at g;obtain⟨b1,r1,rfl,rfl,_⟩:=ha;obtain⟨n,r2,rfl,rfl,_⟩:=hb;have l:=Er (a:=r) (b:=q) (hs.mono Fp) (j.mono Fp);have l1:=VQ.2 hs.1;have l2:(He r.den).length<=4:=by simpa using VQ.2 hs.2
 have hc:Hu r q<0:=Dn.2 c;refine G7 func29 rfl ?_;exact U3 [] [0,1,2,3,4,5,6] [.k g,.f (by simp[sU];omega),.f (by simp[sU];omega),.k l,.t (by simpa using hc)] rfl
variable{c:Cr}{r1:Ff}{ws:List Wt}
theorem AM{l l':List Pt}(hc:CrOk c)(hl:∀p∈l',Sc p.c)(hn:l'.length≤10)(h:Po c.l c.now (Gv (EI l' c.now))=some ws):
 Ge prog 384 [.one (.ow 0 0),.agg [pts l'],.oi 0] [.blk 208 (Te c (Ga l) r1)] [.oi 0] [.blk 208 (Te ⟨c.now,ws,c.ev⟩ (Ga l') (brH l' c.now))]:=by
 have a:=eJ hl hn;have d:=JR (T:=208) (c:=c) (r0:=Ga l') (r1:=r1) hc.n;have cb:=jS (c:=c) (r1:=r1) hl hn hc.n;have b:=WE (T:=208) (r0:=Ga l') (r1:=brH l' c.now) hc hc.n (XQ hc.n) (Y0 0) (a.p _ hc.n) (a.n _ hc.n) h;refine G7 func384 rfl ?_;exact U3 [] [0] [.f rfl,.c [0] d,.c [0] cb,.c [0] b] rfl
theorem Qr8{lx ly:Ff}{px py:U8}{x y:LV}{d id:Int}{l:List Pt}(hx:IsInts lx px)(f:IsInts ly py)(hd:Hi x y d)(a:Cs 4294967294 1073741824 (Crv.mk px py d))(e:l.length<=900)
 (he:HY l ⟨Crv.norm (Crv.mk px py d),id⟩=0) (hc:CrOk c) (hl:∀p∈put l ⟨Crv.norm (Crv.mk px py d),id⟩,Sc p.c) (hn:(put l ⟨Crv.norm (Crv.mk px py d),id⟩).length≤10) (h:Po c.l c.now (Gv (EI (put l ⟨Crv.norm (Crv.mk px py d),id⟩) c.now))=some ws) :
 Ge prog 382 [.one (.ow 0 0),.agg [.row lx,.row ly,x,y,.int .i64 id]] [.blk 208 (Te c (Ga l) r1)] [.oi 0] [.blk 208 (Te ⟨c.now,ws,c.ev⟩ (Ga (put l ⟨Crv.norm (Crv.mk px py d),id⟩)) (brH (put l ⟨Crv.norm (Crv.mk px py d),id⟩) c.now))]:=by
 have cp:=pV (l:=l) (id:=id) hx f hd a Fo;rw[if_pos he,he]at cp;have g:=AM (l:=l) (r1:=r1) hc hl hn h;refine G7 func382 rfl ?_;obtain⟨b,l',rfl,rfl,_⟩:=hd;exact U3 [] [0] [.k cp,.c [0] g] rfl
theorem Qjr{lx ly:Ff}{px py:U8}{x y:LV}{d id:Int}{l l':List Pt}(hx:IsInts lx px)(j:IsInts ly py)(hd:Hi x y d)(g:Cs 4294967294 1073741824 (Crv.mk px py d))(i:l.length<=10)(h:has l id=true)(hc:CrOk c)
 (e:l'=l.set (S6 l id) (Pt.mk (Crv.norm (Crv.mk px py d)) id)) (hs:∀p∈l',Sc p.c) (f:Po c.l c.now (Gv (EI l' c.now))=some ws) :
 Ge prog 383 [.one (.ow 0 0),.agg [.row lx,.row ly,x,y,.int .i64 id]] [.blk 208 (Te c (Ga l) r1)] [.oi 0] [.blk 208 (Te ⟨c.now,ws,c.ev⟩ (Ga l') (brH l' c.now))]:=by
 have a:=RP (l:=l) hx j hd g Fo h;rw[<-e]at a;have m:=AM (c:=c) (l:=l) (l':=l') (r1:=r1) hc hs (by rw[e,Xd];omega) f;obtain⟨b,r,rfl,rfl,_⟩:=hd;refine G7 func383 rfl ?_;exact U3 [] [0] [.k a,.c [0] m] rfl
theorem Qjq{id:Int}{l l':List Pt}(e:l.length<=10)(h:has l id=true)(hc:CrOk c)
 (b:l'=l.take (S6 l id)++l.drop (S6 l id+1)) (hs:∀p∈l',Sc p.c) (d:Po c.l c.now (Gv (EI l' c.now))=some ws) :
 Ge prog 381 [.one (.ow 0 0),.oi id] [.blk 208 (Te c (Ga l) r1)] [.oi 0] [.blk 208 (Te ⟨c.now,ws,c.ev⟩ (Ga l') (brH l' c.now))]:=by
 have a:=RH (l:=l) (id:=id) Fo h;rw[<-b]at a;have f:=AM (c:=c) (l:=l) (l':=l') (r1:=r1) hc hs (by rw[b,Qw,Qt,Za];omega) d;refine G7 func381 rfl ?_;exact U3 [] [0] [.k a,.c [0] f] rfl
theorem Qf7{r0:Ff}:Ge prog 144 [.one (.ow 0 0)] [.blk 208 (Te c r0 r1)] [.one (.ow 1 0)] [.blk 208 (Te c r0 r1),.blk 208 (Te c r0 r1)]:=by
 refine G7 func144 rfl ?_;exact U3 [] [0,1] [] rfl
variable{c:Cr}{r1:Ff}{ws:List Wt}
theorem AE{l l':List Pt}(hc:CrOk c)(hl:∀p∈l',Sc p.c)(hn:l'.length≤10)(h:Po c.l c.now (Gv (sL l' c.now))=some ws):
 Ge prog 389 [.one (.ow 0 0),.agg [pts l'],.oi 0] [.blk 210 (Te c (Ga l) r1)] [.oi 0] [.blk 210 (Te ⟨c.now,ws,c.ev⟩ (Ga l') (brP l' c.now))]:=by
 have a:=Qja hl hn;have d:=JR (T:=210) (c:=c) (r0:=Ga l') (r1:=r1) hc.n;have cb:=jP (c:=c) (r1:=r1) hl hn hc.n;have b:=WE (T:=210) (r0:=Ga l') (r1:=brP l' c.now) hc hc.n (XQ hc.n) (Y0 0) (a.p _ hc.n) (a.n _ hc.n) h;refine G7 func389 rfl ?_;exact U3 [] [0] [.f rfl,.c [0] d,.c [0] cb,.c [0] b] rfl
theorem Qsg{lx ly:Ff}{px py:U8}{x y:LV}{d id:Int}{l:List Pt}(hx:IsInts lx px)(f:IsInts ly py)(hd:Hi x y d)(a:Cs 4294967294 1073741824 (Crv.mk px py d))(e:l.length<=900)
 (he:HY l ⟨Crv.norm (Crv.mk px py d),id⟩=0) (hc:CrOk c) (hl:∀p∈put l ⟨Crv.norm (Crv.mk px py d),id⟩,Sc p.c) (hn:(put l ⟨Crv.norm (Crv.mk px py d),id⟩).length≤10) (h:Po c.l c.now (Gv (sL (put l ⟨Crv.norm (Crv.mk px py d),id⟩) c.now))=some ws) :
 Ge prog 387 [.one (.ow 0 0),.agg [.row lx,.row ly,x,y,.int .i64 id]] [.blk 210 (Te c (Ga l) r1)] [.oi 0] [.blk 210 (Te ⟨c.now,ws,c.ev⟩ (Ga (put l ⟨Crv.norm (Crv.mk px py d),id⟩)) (brP (put l ⟨Crv.norm (Crv.mk px py d),id⟩) c.now))]:=by
 have cp:=pV (l:=l) (id:=id) hx f hd a Fo;rw[if_pos he,he]at cp;have g:=AE (l:=l) (r1:=r1) hc hl hn h;refine G7 func387 rfl ?_;obtain⟨b,l',rfl,rfl,_⟩:=hd;exact U3 [] [0] [.k cp,.c [0] g] rfl
theorem Qj4{lx ly:Ff}{px py:U8}{x y:LV}{d id:Int}{l l':List Pt}(hx:IsInts lx px)(j:IsInts ly py)(hd:Hi x y d)(g:Cs 4294967294 1073741824 (Crv.mk px py d))(i:l.length<=10)(h:has l id=true)(hc:CrOk c)
 (e:l'=l.set (S6 l id) (Pt.mk (Crv.norm (Crv.mk px py d)) id)) (hs:∀p∈l',Sc p.c) (f:Po c.l c.now (Gv (sL l' c.now))=some ws) :
 Ge prog 388 [.one (.ow 0 0),.agg [.row lx,.row ly,x,y,.int .i64 id]] [.blk 210 (Te c (Ga l) r1)] [.oi 0] [.blk 210 (Te ⟨c.now,ws,c.ev⟩ (Ga l') (brP l' c.now))]:=by
 have a:=RP (l:=l) hx j hd g Fo h;rw[<-e]at a;have m:=AE (c:=c) (l:=l) (l':=l') (r1:=r1) hc hs (by rw[e,Xd];omega) f;obtain⟨b,r,rfl,rfl,_⟩:=hd;refine G7 func388 rfl ?_;exact U3 [] [0] [.k a,.c [0] m] rfl
theorem Qj3{id:Int}{l l':List Pt}(e:l.length<=10)(h:has l id=true)(hc:CrOk c)
 (b:l'=l.take (S6 l id)++l.drop (S6 l id+1)) (hs:∀p∈l',Sc p.c) (d:Po c.l c.now (Gv (sL l' c.now))=some ws) :
 Ge prog 386 [.one (.ow 0 0),.oi id] [.blk 210 (Te c (Ga l) r1)] [.oi 0] [.blk 210 (Te ⟨c.now,ws,c.ev⟩ (Ga l') (brP l' c.now))]:=by
 have a:=RH (l:=l) (id:=id) Fo h;rw[<-b]at a;have f:=AE (c:=c) (l:=l) (l':=l') (r1:=r1) hc hs (by rw[b,Qw,Qt,Za];omega) d;refine G7 func386 rfl ?_;exact U3 [] [0] [.k a,.c [0] f] rfl
theorem Qga{r0:Ff}:Ge prog 145 [.one (.ow 0 0)] [.blk 210 (Te c r0 r1)] [.one (.ow 1 0)] [.blk 210 (Te c r0 r1),.blk 210 (Te c r0 r1)]:=by
 refine G7 func145 rfl ?_;exact U3 [] [0,1] [] rfl
variable{np:Int}{M:List Pt}{q:Rat}{s t h p d:Cr}
theorem uQ{nd:Int}(a:Qs 128 q):Ge prog 8 [.one (.ow 0 0)] (VV 0 np nd M q s t h p d) [.agg (rl q)] (VV 0 np nd M q s t h p d):=by
 refine G7 func8 rfl ?_;exact U3 [] [0,1,2,3,4,5,6] [.k (Dk (a.mono Fp))] rfl
abbrev en2(np nd:Int)(M:List Pt)(q:Rat)(s t h p d:Cr)(np' nd':Int)(M':List Pt)(q':Rat)(s' t' h' p' d':Cr):Fg:=[.blk 111 (lN 0 q),tB np nd M,bS s M q,bT t M q,bH h M q,bP p M q,bD d M q,.blk 111 (lN 7 q'),tB np' nd' M',bS s' M' q',bT t' M' q',bH h' M' q',bP p' M' q',bD d' M' q']
theorem Qb1{nd:Int}(a:Qs 128 q):Ge prog 75 [.one (.ow 0 0)] (VV 0 np nd M q s t h p d) [.one (.ow 7 0)] (en2 np nd M q s t h p d np nd M q s t h p d):=by
 refine G7 func75 rfl ?_;exact U3 [] [0,1,2,3,4,5,6,13,7,8,9,10,11,12] [.lo,.c [1,7] Qlf,.lo,.c Fi (uQ a),.lo,.c [2,8] Qkd,.lo,.c [3,9] Qgh,.lo,.c [4,10] Qf7,.lo,.c [5,11] Qga,.lo,.c [6,12] Qf2] rfl
abbrev anw(S W H P:List Pt)(T:List P3):Fe:=[ids (S.map (·.id)),ids (W.map (·.id)),ids (H.map (·.id)),ids (P.map (·.id)),.row (HT T)]
theorem Qsq{nd:Int}{S W H P:List Pt}{T:List P3}{r2:Ff}(u:S.length<=1000000)(n:H.length<=1000000)(r:T.length<=1000)(o:W=[]\/∃w,W=[w])(m:P=[]\/∃a b,P=[a,b]):
 Ge prog 53 [.one (.ow 0 0)] [.blk 111 (lN 0 q),tB np nd M,.blk 200 (Te s (Ga M) (Ga S)),.blk 206 (Pg t (Ga M) (W.map Gq,r2)),.blk 208 (Te h (Ga M) (Ga H)),.blk 210 (Te p (Ga M) (Ga P)),.blk 212 (Te d (Ga M) (HT T))]
  [.agg (anw S W H P T)] [.blk 111 (lN 0 q),tB np nd M,.blk 200 (Te s (Ga M) (Ga S)),.blk 206 (Pg t (Ga M) (W.map Gq,r2)),.blk 208 (Te h (Ga M) (Ga H)),.blk 210 (Te p (Ga M) (Ga P)),.blk 212 (Te d (Ga M) (HT T))]:=by
 have i:=Qzc (c:=s) (l:=M) u;have j:=Qy2 (c:=h) (l:=M) n;have k:=eO (c:=d) (r0:=Ga M) r;rcases o with rfl|⟨w,rfl⟩
 .have g:=Qkm (c:=t) (r0:=Ga M) (r2:=r2);rcases m with rfl|⟨a,b,rfl⟩
  .have e:=pY (c:=p) (r0:=Ga M);refine G7 func53 rfl ?_;exact U3 [] [0,1,2,3,4,5,6] [.c [2] i,.c [4] j,.c [6] k,.c [3] g,.f rfl,.c [5] e,.f rfl] rfl
  .have e:=Qb8 (c:=p) (r0:=Ga M) (a:=a) (b:=b);refine G7 func53 rfl ?_;exact U3 [] [0,1,2,3,4,5,6] [.c [2] i,.c [4] j,.c [6] k,.c [3] g,.f rfl,.c [5] e,.t rfl] rfl
 .have g:=Qst (c:=t) (r0:=Ga M) (r2:=r2) (w:=w);rcases m with rfl|⟨a,b,rfl⟩
  .have e:=pY (c:=p) (r0:=Ga M);refine G7 func53 rfl ?_;exact U3 [] [0,1,2,3,4,5,6] [.c [2] i,.c [4] j,.c [6] k,.c [3] g,.t rfl,.c [5] e,.f rfl] rfl
  .have e:=Qb8 (c:=p) (r0:=Ga M) (a:=a) (b:=b);refine G7 func53 rfl ?_;exact U3 [] [0,1,2,3,4,5,6] [.c [2] i,.c [4] j,.c [6] k,.c [3] g,.t rfl,.c [5] e,.t rfl] rfl
abbrev Qi5(M:List Pt)(q:Rat):Fe:=anw (Ml (tq q) M) (Lj (G6 (tq q)) M).1 (Nm M (tq q)) (KO (G6 (tq q)) M) (nL (G6 (tq q)) M)
theorem Qwk(sg:U8->Int)(M:List Pt):(Lj sg M).1=[]\/∃w,(Lj sg M).1=[w]:=by
 by_cases h:0<M.length
 .obtain⟨a,ha,_⟩:=C7 sg M.length M (Ql _) h;exact .inr ⟨a,ha⟩
 .obtain rfl:=Qg (by omega:M.length=0);exact .inl rfl
theorem Qob(sg:U8->Int)(M:List Pt):KO sg M=[]\/∃a b,KO sg M=[a,b]:=by
 match M with
 | []=>exact .inl rfl
 | [_]=>exact .inl rfl
 |_::_::_=>exact .inr ⟨_,_,rfl⟩
theorem aU{nd:Int}(hM:M.length<=6):Ge prog 53 [.one (.ow 0 0)] (VV 0 np nd M q s t h p d) [.agg (Qi5 M q)] (VV 0 np nd M q s t h p d) :=
 Qsq (by rw[L9];omega) (by have:=MW M (tq q);omega) (by have:=Qhp (G6 (tq q)) hM;omega) (Qwk _ _) (Qob _ _)
theorem Qgb{nd:Int}{r:Rat}{j b i g d':Cr}{b1 a:Bool}{r1 r2:Ff}(e:Qs 128 q)(hM:M.length<=6)
 (ha:Ge prog 29 [.one (.ow 0 0),.agg [.bool b1,.row r1,.bool a,.row r2]] (VV 0 np nd M q s t h p d) [.oi 0] (VV 0 np nd M r j b i g d')) :
 Ge prog 30 [.one (.ow 0 0),.agg [.bool b1,.row r1,.bool a,.row r2]] (VV 0 np nd M q s t h p d) [.agg (Qi5 M r),.oi 0] (VV 0 np nd M q s t h p d):=by
 refine G7 func30 rfl ?_;exact U3 [] [0,1,2,3,4,5,6] [.c Fl (Qb1 e),.c Fj ha,.f rfl,.c Fj (aU hM)] rfl
abbrev Q2v:Fe:=[.row [],.row [],.row [],.row [],.row []]
theorem Qj8{nd:Int}{b1 a:Bool}{r1 r2:Ff}{e:Int}(he:e≠0)(b:Qs 128 q)
 (ha:Ge prog 29 [.one (.ow 0 0),.agg [.bool b1,.row r1,.bool a,.row r2]] (VV 0 np nd M q s t h p d) [.oi e] (VV 0 np nd M q s t h p d)) :
 Ge prog 30 [.one (.ow 0 0),.agg [.bool b1,.row r1,.bool a,.row r2]] (VV 0 np nd M q s t h p d) [.agg Q2v,.oi e] (VV 0 np nd M q s t h p d):=by
 refine G7 func30 rfl ?_;exact U3 [] [0,1,2,3,4,5,6] [.c Fl (Qb1 b),.c Fj ha,.t (by simpa using he)] rfl
abbrev Qpu(k i:Nat)(e:Int):LV:=match Nat.blt k i with
 |true=>.int .i64 e
 |false=>.int .i64 0
theorem Qjh{nd:Int}:Ge prog 55 [.one (.ow 0 0)] (VV 0 np nd M q s t h p d) [.agg [.int .i64 s.ev,.int .i64 t.ev,.int .i64 h.ev,.int .i64 p.ev,.int .i64 d.ev]] (VV 0 np nd M q s t h p d):=by
 refine G7 func55 rfl ?_;refine Ux [.c Fi IZ] rfl ?_;refine U4 (S:=Nat) 9 (λL1 i=>(8,.v (.oi i))::L1) (λi=>[.blk 111 (lN 0 q),tB np nd M,bS s M q,bT t M q,bH h M q,bP p M q,bD d M q,.blk 131 [.int .i64 0,.int .i64 0,.int .i64 0,.int .i64 0,.int .i64 0],.blk 131 [Qpu 0 i s.ev,Qpu 1 i t.ev,Qpu 2 i h.ev,Qpu 3 i p.ev,Qpu 4 i d.ev]]) (λi=>5-i) (λi=>i<=5) 0 Fp rfl rfl λi hi=>?_
 rcases(show i=0\/i=1\/i=2\/i=3\/i=4\/i=5 by omega)with rfl|rfl|rfl|rfl|rfl|rfl
 .exact go tt [.t rfl,.i 0,.c [2] WA,.i 0] rfl Fy (rd 1 Fo Fo rfl)
 .exact go tt [.t rfl,.i 1,.c [3] Qgg,.i 1] rfl Fy (rd 2 Fo Fo rfl)
 .exact go tt [.t rfl,.i 2,.c [4] WA,.i 2] rfl Fy (rd 3 Fo Fo rfl)
 .exact go tt [.t rfl,.i 3,.c [5] WA,.i 3] rfl Fy (rd 4 Fo Fo rfl)
 .exact go tt [.t rfl,.i 4,.c [6] WA,.i 4] rfl Fy (rd 5 Fo Fo rfl)
 .exact U3 [] [0,1,2,3,4,5,6] [.f rfl] rfl
abbrev ZY(l:List Wt):List Ct:=Gv (l.map (·.c))
def BP(s t h p d:Cr):Nat->Ff
 | 0=>[]
 | 1=>[]++Gk (ZY s.l)
 | 2=>[]++Gk (ZY s.l)++Gk (ZY t.l)
 | 3=>[]++Gk (ZY s.l)++Gk (ZY t.l)++Gk (ZY h.l)
 | 4=>[]++Gk (ZY s.l)++Gk (ZY t.l)++Gk (ZY h.l)++Gk (ZY p.l)
 |_=>[]++Gk (ZY s.l)++Gk (ZY t.l)++Gk (ZY h.l)++Gk (ZY p.l)++Gk (ZY d.l)
theorem Qr2{nd:Int}(hs:CrOk s)(ht:CrOk t)(a:CrOk h)(hp:CrOk p)(hd:CrOk d):Ge prog 9 [.one (.ow 0 0)] (VV 0 np nd M q s t h p d) [.one (.row (Gk (ZY s.l++ZY t.l++ZY h.l++ZY p.l++ZY d.l)))] (VV 0 np nd M q s t h p d):=by
 have e:Gk (ZY s.l++ZY t.l++ZY h.l++ZY p.l++ZY d.l)=BP s t h p d 5:=by simp[Gk,BP]
 rw[e];have ln:∀{c:Cr},CrOk c->(Gk (ZY c.l)).length<=1000:=λ{c} hc=>by rw[Nf,Cc,Ze];exact hc.k
 have l1:=ln hs;have l2:=ln ht;have l3:=ln a;have y:=ln hp;have n:=ln hd;have z:(Gk (Gv (s.l.map (·.c)))).length<=1000:=ln hs;have x:(Gk (Gv (t.l.map (·.c)))).length<=1000:=ln ht;have u:(Gk (Gv (h.l.map (·.c)))).length<=1000:=ln a;have j:(Gk (Gv (p.l.map (·.c)))).length<=1000:=ln hp;have g:(Gk (Gv (d.l.map (·.c)))).length<=1000:=ln hd;have m:(BP s t h p d 1).length<=1000:=by show([]++Gk (ZY s.l)).length<=_;simp only[Qw,Xt];omega
 have w:(BP s t h p d 2).length<=2000:=by show([]++Gk (ZY s.l)++Gk (ZY t.l)).length<=_;simp only[Qw,Xt];omega
 have r:(BP s t h p d 3).length<=3000:=by show([]++Gk (ZY s.l)++Gk (ZY t.l)++Gk (ZY h.l)).length<=_;simp only[Qw,Xt];omega
 have b:(BP s t h p d 4).length<=4000:=by show([]++Gk (ZY s.l)++Gk (ZY t.l)++Gk (ZY h.l)++Gk (ZY p.l)).length<=_;simp only[Qw,Xt];omega
 have m0:(BP s t h p d 0).length=0:=rfl;refine G7 func9 rfl ?_;refine Ux [.o 3 66 7,.c Fi IZ] rfl ?_;refine U4 (S:=Nat) 8 (λL1 i=>(8,.v (.oi i))::(3,.v (.one (.orow 7 7 none)))::L1) (λi=>[.blk 111 (lN 0 q),tB np nd M,bS s M q,bT t M q,bH h M q,bP p M q,bD d M q,.row false 66 7 (BP s t h p d i)]) (λi=>5-i) (λi=>i<=5) 0 Fp rfl rfl λi hi=>?_
 rcases(show i=0\/i=1\/i=2\/i=3\/i=4\/i=5 by omega)with rfl|rfl|rfl|rfl|rfl|rfl
 .exact go tt [.t rfl,.i 0,.c [2] (RU hs),.s (XX _)] rfl (by simp only[Gi];omega) (rd 1 Fo Fo rfl)
 .exact go tt [.t rfl,.i 1,.c [3] (Qki ht),.s (XX _)] rfl (by simp only[Gi];omega) (rd 2 Fo Fo rfl)
 .exact go tt [.t rfl,.i 2,.c [4] (RU a),.s (XX _)] rfl (by simp only[Gi];omega) (rd 3 Fo Fo rfl)
 .exact go tt [.t rfl,.i 3,.c [5] (RU hp),.s (XX _)] rfl (by simp only[Gi];omega) (rd 4 Fo Fo rfl)
 .exact go tt [.t rfl,.i 4,.c [6] (RU hd),.s (XX _)] rfl (by simp only[Gi];omega) (rd 5 Fo Fo rfl)
 .exact U3 [7] [0,1,2,3,4,5,6] [.f rfl] rfl
theorem Qwx:∀p∈([]:List Pt),Sc p.c:=λ_ h=>by cases h
theorem Qq7:∀x∈([]:List Ct),Cp x.p:=λ_ h=>by cases h
theorem lR:U5 111 [.one (.row [])] [.agg [.row []],.oi 0]:=by
 refine G7 func111 rfl ?_;refine Ux [.f rfl] rfl ?_;refine nlb 1 rfl rfl rfl ?_;refine U4 (S:=Unit) 2 (λL1 _=>(14,.v (.oi 0))::L1) (λ_=>[.blk 193 [.nils],.blk 193 [.row []]]) (λ_=>0) (λ_=>True) () trivial rfl rfl λ_ _=>?_
 exact Uz [.f rfl] rfl
abbrev zT(r0 r1 r2:LV):OB:=.blk 206 [.bool false,.nils,.bool false,.nils,.bool false,.nils,.bool false,.nils,.bool false,.nils,.nils,.int .i64 0,r0,r1,r2]
variable{a:Tm}
theorem Qwv:Ge prog 181 [.one (.ow 0 0),.agg (ta a),.one (.row [])] [zT (.row []) .nils (.orow 1 10 none),.row false 272 10 []] [.one (.row [])] [zT (.row []) .nils (.orow 1 10 none),.row false 272 10 []]:=by
 refine G7 func181 rfl ?_;exact U3 [] [0,1] [.t rfl] rfl
theorem Qq5:Ge prog 115 [.one (.ow 0 0),.agg (ta a)] [zT (.row []) .nils .nils] [.one (.row [])] [zT (.row []) (.row []) (.row [])]:=by
 refine G7 func115 rfl ?_;refine Ux [] rfl ?_;refine oz 0 14 272 10 rfl rfl ?_;refine Ux [.k (ZJ (l:=[])),.c [0,2] (Qwv (a:=a)),.o 5 66 7] rfl ?_;refine U4 (S:=Unit) 4 (λL1 _=>(29,.v (.oi 0))::(5,.v (.one (.orow 3 7 none)))::L1) (λ_=>[zT (.row []) (.row []) (.orow 2 10 none),.blk 72 (ta a),.row false 272 10 [],.row false 66 7 []]) (λ_=>0) (λ_=>True) () trivial rfl rfl λ_ _=>?_
 exact U3 [2,3] [0] [.f rfl] rfl
theorem Qq6:U5 184 [.agg [.row []]] [.one (.row [])]:=aF (l:=[]) (λ_ h=>by cases h) Fp
theorem Qyh(ha:Va a):U5 178 [.agg (ta a),.one (.row [])] [.one (.row [])]:=pW (l:=[]) Qwx Fp ha
theorem Qq3(ha:Va a):Ge prog 116 [.one (.ow 0 0),.agg (ta a)] [.blk 208 (aB (.row []) .nils)] [.one (.row [])] [.blk 208 (aB (.row []) (.row []))]:=by
 have e:U5 183 [.agg (ta a),.one (.row [])] [.one (.row [])]:=Qcn (R:=[]) Qwx Fp ha;have b:Ge prog 180 [.agg (ta a),.one (.row [])] [] [.one (.orow 0 7 none)] [.row false 66 7 []]:=BG (l:=[]) Qwx Fp ha;refine G7 func116 rfl ?_;exact U3 [2] [0] [.k Qq6,.k (Qyh ha),.k e,.k (ZJ (l:=[])),.k (Qyh ha),.c [2] b,.t rfl] rfl
theorem Qq4:Ge prog 117 [.one (.ow 0 0),.agg (ta a)] [.blk 210 (aB (.row []) .nils)] [.one (.row [])] [.blk 210 (aB (.row []) (.row []))]:=by
 refine G7 func117 rfl ?_;refine Ux [.k (ZJ (l:=[]))] rfl ?_;refine nlc 0 13 rfl rfl rfl ?_;exact U3 [] [0] [.t rfl] rfl
theorem Qq2:Ge prog 118 [.one (.ow 0 0),.agg (ta a)] [.blk 212 (aB (.row []) .nils)] [.one (.row [])] [.blk 212 (aB (.row []) (.row []))]:=by
 refine G7 func118 rfl ?_;refine Ux [.k Qq6,.o 6 66 7] rfl ?_;refine U4 (S:=Unit) 4 (λL1 _=>(42,.v (.oi 0))::(6,.v (.one (.orow 2 7 none)))::L1) (λ_=>[.blk 212 (aB (.row []) .nils),.blk 72 (ta a),.row false 66 7 [],.mpb (QK (VX (G6 a) []))]) (λ_=>0) (λ_=>True) () trivial rfl rfl λ_ _=>?_
 refine Ux [.f rfl] rfl ?_;refine U4 (S:=Unit) 5 (λL1 _=>(97,.v (.oi 0))::(6,.v (.one (.orow 2 7 none)))::L1) (λ_=>[.blk 212 (aB (.row []) .nils),.blk 72 (ta a),.row false 66 7 [],.mpb (QK (VX (G6 a) [])),.mpb (XU (QK (VX (G6 a) [])) (FK (G6 a) []))]) (λ_=>0) (λ_=>True) () trivial rfl rfl λ_ _=>?_
 refine Ux [.f rfl] rfl ?_;refine ozM 0 13 281 3 rfl rfl ?_;refine U4 (S:=Unit) 6 (λL1 _=>(174,.v (.oi 0))::L1) (λ_=>[.blk 212 [.bool false,.nils,.bool false,.nils,.bool false,.nils,.bool false,.nils,.bool false,.nils,.nils,.int .i64 0,.row [],.orow 5 3 none],.blk 72 (ta a),.row false 66 7 [],.mpb (QK (VX (G6 a) [])),.mpb (XU (QK (VX (G6 a) [])) (FK (G6 a) [])),.row false 281 3 []]) (λ_=>0) (λ_=>True) () trivial rfl rfl λ_ _=>?_
 exact U3 [2,5] [0] [.f rfl] rfl
section
variable{x y x' y':LV}{n d:Int}(h1:Hi x y n)(h2:Hi x' y' d)(bn:Gm n<=4294967295)(bd:Gm d<=4294967295)(ht:Qs 1640000 (Hn n d))
include h1 h2 bn bd ht
theorem Qwu:Ge prog 58 [.agg [x,y,x',y'],.one (.row [])] [] [.one (.ow 0 0),.oi 0] [.blk 200 (Te ⟨tq (Hn n d),[],0⟩ [] [])]:=by
 have a:=FH h1 h2 bn bd (ht.mono Fp);have cb:Ge prog 114 [.one (.ow 0 0),.agg (ta (tq (Hn n d)))] [.blk 200 (aB (.row []) .nils)] [.one (.row [])] [.blk 200 (aB (.row []) (.row []))]:=Qgd (l:=[]) Qwx Fp (BY ht);have e:=WL (T:=200) (r0:=[]) (r1:=[]) (BY ht) Qq7 Fp;obtain⟨b,l1,rfl,rfl,_⟩:=h1;obtain⟨b',l2,rfl,rfl,_⟩:=h2;refine G7 func58 rfl ?_;exact U3 [] [2] [.k lR,.f rfl,.k a,.c [2] cb,.c [2] e] rfl
theorem Qww:Ge prog 59 [.agg [x,y,x',y'],.one (.row [])] [] [.one (.ow 0 0),.oi 0] [.blk 206 (Pg ⟨tq (Hn n d),[],0⟩ [] ([],[]))]:=by
 have e:=FH h1 h2 bn bd (ht.mono Fp);have g:=Qge (T:=206) (r0:=[]) (r1:=([],[])) (BY ht) Qq7 Fp;obtain⟨b,l1,rfl,rfl,_⟩:=h1;obtain⟨b',l2,rfl,rfl,_⟩:=h2;refine G7 func59 rfl ?_;exact U3 [] [2] [.k lR,.f rfl,.k e,.c [2] (Qq5 (a:=tq (Hn n d))),.c [2] g] rfl
theorem Qws:Ge prog 60 [.agg [x,y,x',y'],.one (.row [])] [] [.one (.ow 0 0),.oi 0] [.blk 208 (Te ⟨tq (Hn n d),[],0⟩ [] [])]:=by
 have a:=FH h1 h2 bn bd (ht.mono Fp);have e:=WL (T:=208) (r0:=[]) (r1:=[]) (BY ht) Qq7 Fp;obtain⟨b,l1,rfl,rfl,_⟩:=h1;obtain⟨b',l2,rfl,rfl,_⟩:=h2;refine G7 func60 rfl ?_;exact U3 [] [2] [.k lR,.f rfl,.k a,.c [2] (Qq3 (BY ht)),.c [2] e] rfl
theorem Qwt:Ge prog 61 [.agg [x,y,x',y'],.one (.row [])] [] [.one (.ow 0 0),.oi 0] [.blk 210 (Te ⟨tq (Hn n d),[],0⟩ [] [])]:=by
 have e:=FH h1 h2 bn bd (ht.mono Fp);have g:=WL (T:=210) (r0:=[]) (r1:=[]) (BY ht) Qq7 Fp;obtain⟨b,l1,rfl,rfl,_⟩:=h1;obtain⟨b',l2,rfl,rfl,_⟩:=h2;refine G7 func61 rfl ?_;exact U3 [] [2] [.k lR,.f rfl,.k e,.c [2] (Qq4 (a:=tq (Hn n d))),.c [2] g] rfl
theorem Qwr:Ge prog 62 [.agg [x,y,x',y'],.one (.row [])] [] [.one (.ow 0 0),.oi 0] [.blk 212 (Te ⟨tq (Hn n d),[],0⟩ [] [])]:=by
 have e:=FH h1 h2 bn bd (ht.mono Fp);have g:=WL (T:=212) (r0:=[]) (r1:=[]) (BY ht) Qq7 Fp;obtain⟨b,l1,rfl,rfl,_⟩:=h1;obtain⟨b',l2,rfl,rfl,_⟩:=h2;refine G7 func62 rfl ?_;exact U3 [] [2] [.k lR,.f rfl,.k e,.c [2] (Qq2 (a:=tq (Hn n d))),.c [2] g] rfl
end
end Orr
namespace Orr
open Go Go.Proofs Tryz Orq
set_option maxRecDepth 10000
theorem Qzq{np nd:Int}(h1:1<=np/\np<=6)(h2:0<=nd/\nd<=2):Ge prog 56 [.oi np,.oi nd] [] [.one (.ow 0 0),.oi 0] [.blk 189 [.int .i64 np,.int .i64 nd,.nils]]:=by
 refine G7 func56 rfl ?_;exact U3 [] [0] [.F,.f Fq,.f Fq,.f Fq] rfl
theorem Qy0{np nd:Int}(h1:1<=np/\np<=6)(h2:0<=nd/\nd<=2):Ge prog 18 [.oi np,.oi nd] [] [.one (.ow 0 0),.oi 0] (VV 0 np nd [] 0 (Qrw [] (tq 0)) (Q22 [] (tq 0)) (Q20 [] (tq 0)) (Q21 [] (tq 0)) (Q2z [] (tq 0))):=by
 have i:Hn (0:Rat).num ((0:Rat).den:Int)=0:=Fp;have a:Qs 1640000 (Hn (0:Rat).num ((0:Rat).den:Int)):=by rw[i];exact⟨Fp,Fp⟩
 have i1:=Gb (0:Rat).num;have i2:=Gb ((0:Rat).den:Int);have d:=Qwu i1 i2 Fp Fp a;have h:=Qww i1 i2 Fp Fp a;have g:=Qws i1 i2 Fp Fp a;have j:=Qwt i1 i2 Fp Fp a;have e:=Qwr i1 i2 Fp Fp a;rw[i]at d h g j e;have b:=Qzp (n:=0) Fp;rw[show((0:Int):Rat)=0 from rfl,Av]at b;refine G7 func18 rfl ?_;refine Ux [.c [0] (Qzq h1 h2),.f rfl] rfl ?_;refine nlc 0 2 rfl rfl rfl ?_;exact U3 [] [1,0,2,3,4,5,6] [.k b,.c [2] d,.c [3] h,.c [4] g,.c [5] j,.c [6] e] rfl
def Em.ins(A:Em)(p:Pt):Em×Int:=(if Dd A.np A.nd A.M p=0 then { A with M:=put A.M p }else A,Dd A.np A.nd A.M p)
def Em.rep(A:Em)(p:Pt):Em×Int:=(if Cw A.nd A.M p=0 then { A with M:=A.M.set (S6 A.M p.id) p }else A,Cw A.nd A.M p)
def Em.del(A:Em)(id:Int):Em×Int:=if has A.M id=true then({ A with M:=A.M.take (S6 A.M id)++A.M.drop (S6 A.M id+1) },0)else(A,5)
open Classical in
noncomputable def Em.adv(A:Em)(t:Rat):Em×Int:=if Qs 128 t then(if t<A.q then(A,8)else({ A with q:=t,s:=A.s+(cnt (VY A.M) A.q t:Nat),t:=A.t+(cnt (xM A.M) A.q t:Nat),h:=A.h+(cnt (EI A.M) A.q t:Nat),p:=A.p+(cnt (sL A.M) A.q t:Nat),d:=A.d+(cnt (wL A.M) A.q t:Nat) },0))else(A,1)
theorem Qx7{np nd:Int}{k:Crv}(hn:WN k)(c:nd<=2)(h1:YG k=true)(h2:¬nd<DK k):Sc k:=by
 obtain⟨b,d,a⟩:=zC.1 h1;unfold DK at h2;exact⟨hn,b,d,a,Fo,Fo⟩
variable{p:Pt}
theorem Qn3(h:KR p=true):(0<=p.id/\p.id<=1048576)/\YG p.c=true:=by
 simp only[KR,Zr,decide_eq_true_iff]at h;exact⟨⟨h.1,h.2.1⟩,h.2.2⟩
variable{M:List Pt}
theorem Qa8(hs:Di M)(h:has M p.id=true):Di (M.set (S6 M p.id) p):=by
 have hl:=US h;have a:∀(x:Pt),M[S6 M p.id]? = some x->x.id=p.id:=λx hx=>by
  simp only[has,hx]at h;exact of_decide_eq_true h
 unfold Di;rw[Yz];intro i j hi d b;rw[Xd]at hi d;have hx:=Qf hi;have f:=Qf d;have c:=Q4i hs b hx f;rw[List.getElem_set,List.getElem_set]
 split
 .rename_i e;subst e;rw[if_neg Fo];have:=a _ hx;omega
 .split
  .rename_i e;subst e;have:=a _ f;omega
  .exact c
variable{i:Nat}
theorem KP{x:Pt}(h:x∈M.set i p):x=p\/x∈M:=by
 rcases J7 h with h|h
 .exact .inr h
 .exact .inl h
theorem qF{x:Pt}(h:x∈M.take i++M.drop (i+1)):x∈M:=by
 rcases Qr.1 h with h|h
 .exact Qn h
 .exact Q3 h
theorem dR(hs:Di M)(i:Nat):Di (M.take i++M.drop (i+1)):=by
 have h:=hs;unfold Di at h ⊢;rw[<-Zi i M,Ja]at h;refine Ja.2 ⟨h.1,?_,λx hx y a=>h.2.2 x hx y ?_⟩
 .have:M.drop (i+1)=(M.drop i).drop 1:=by rw[Yg]
  rw[this];exact h.2.1.sublist (List.drop_sublist _ _)
 .have:M.drop (i+1)=(M.drop i).drop 1:=by rw[Yg]
  rw[this]at a;exact Q3 a
abbrev EnD(f:Nat)(args:Fh)(E:Es)(res:Fh)(E':Es):Prop:=Ge prog f args (enB 0 E) res (enB 0 E')
variable{E:Es}{b:Int}
theorem OU(h:EOk b E){lx ly:Ff}{px py:U8}{x y:LV}{d id:Int}(hx:IsInts lx px)(g:IsInts ly py)(hd:Hi x y d)(i:Cs 4294967294 1073741824 (Crv.mk px py d)):
 ∃E',EOk b E'/\E'.m=(E.m.ins ⟨Crv.norm (Crv.mk px py d),id⟩).1/\EnD 25 [.one (.ow 0 0),.oi id,.agg [.row lx,.row ly,x,y]] E [.one (.int .i64 (E.m.ins ⟨Crv.norm (Crv.mk px py d),id⟩).2)] E':=by
 have hM:=h.m.m;have G:=hM.ln;have ct:=Qzr (np:=E.np) (nd:=E.nd) (l:=E.M) (id:=id) hx g hd i Fo;obtain⟨p,hp⟩:=nmE (Pt.mk (Crv.norm (Crv.mk px py d)) id);have v:WN p.c:=by rw[hp];exact Crv.nml _
 by_cases e:Dd E.np E.nd E.M p=0
 .have Q:KR p=true/\has E.M p.id=false/\¬E.nd<DK p.c/\¬E.np<=(E.M.length:Int):=by
   unfold Dd at e;by_cases a1:KR p=false
   .rw[if_pos a1]at e;cases e
   rw[if_neg a1]at e;by_cases a2:has E.M p.id=true
   .rw[if_pos a2]at e;cases e
   rw[if_neg a2]at e;by_cases j:E.nd<DK p.c
   .rw[if_pos j]at e;cases e
   rw[if_neg j]at e;by_cases o:E.np<=(E.M.length:Int)
   .rw[if_pos o]at e;cases e
   exact⟨by simpa using a1,by simpa using a2,j,o⟩
  obtain⟨f1,f2,f3,f4⟩:=Q;obtain⟨R,F⟩:=Qn3 f1;have u:=Qx7 (np:=E.np) v h.nd.2 F f3;have n:(put E.M p).length<=6:=by rw[Qe1];have:=h.np.2;omega
  have a:MOk (put E.M p):=⟨λz hz=>by rcases EK hz with rfl|hz;exact u;exact hM.sc z hz,n,zH hM.so f2⟩;have k:MEn E.np E.nd (put E.M p):=⟨a,by rw[Qe1];have:=h.np.2;omega,λz hz=>by rcases EK hz with rfl|hz;omega;exact h.m.deg z hz,λz hz=>by rcases EK hz with rfl|hz;exact R;exact h.m.id z hz⟩;have f:HY E.M p=0:=by unfold HY;rw[if_neg (by rw[f2];decide),if_neg (by have:=h.np.2;omega)]
  rw[hp]at e f a k n;rw[e,if_pos rfl]at ct;obtain⟨w1,l1,a1⟩:=h.s.again okS a;obtain⟨O,l2,a2⟩:=h.t.again okT a;obtain⟨I,l3,j⟩:=h.h.again okH a;obtain⟨K,J,o⟩:=h.p.again okP a;obtain⟨N,L,P⟩:=h.d.again okD a;have C:=Qzd (c:=E.s) (l:=E.M) (r1:=xN E.M (tq E.q)) hx g hd i Fo f h.s.st.inv.ok a.sc Fo l1;have A:=Qss (c:=E.t) (l:=E.M) (r1:=lS E.M (tq E.q)) hx g hd i Fo f h.t.st.inv.ok a.sc Fo l2;have w:=Qr8 (c:=E.h) (l:=E.M) (r1:=brH E.M (tq E.q)) hx g hd i Fo f h.h.st.inv.ok a.sc Fo l3;have B:=Qsg (c:=E.p) (l:=E.M) (r1:=brP E.M (tq E.q)) hx g hd i Fo f h.p.st.inv.ok a.sc Fo J;have D:=Qr4 (c:=E.d) (l:=E.M) (r1:=lT E.M (tq E.q)) hx g hd i Fo f h.d.st.inv.ok a.sc Fo L;rw[h.s.now]at C;rw[h.t.now]at A;rw[h.h.now]at w;rw[h.p.now]at B;rw[h.d.now]at D;obtain⟨b1,r,rfl,rfl,_⟩:=hd;refine⟨⟨E.np,E.nd,put E.M ⟨Crv.norm (Crv.mk px py d),id⟩,E.q,⟨tq E.q,w1,E.s.ev⟩,⟨tq E.q,O,E.t.ev⟩,⟨tq E.q,I,E.h.ev⟩,⟨tq E.q,K,E.p.ev⟩,⟨tq E.q,N,E.d.ev⟩⟩,⟨h.np,h.nd,k,h.q,a1,a2,j,o,P,h.es,h.et,h.eh,h.ep,h.ed⟩,?_,?_⟩
  .unfold Em.ins;show _=if Dd E.np E.nd E.M _=0 then _ else _
   rw[if_pos e];rfl
  .have H:(E.m.ins ⟨Crv.norm (Crv.mk px py d),id⟩).2=0:=e;rw[H];exact Qjt ct C A w B D
 .rw[hp]at e;rw[if_neg e]at ct;obtain⟨b1,r,rfl,rfl,_⟩:=hd;refine⟨E,h,?_,Qf8 e ct⟩;unfold Em.ins;show _=if Dd E.np E.nd E.M _=0 then _ else _
  rw[if_neg e]
theorem mS(h:EOk b E){lx ly:Ff}{px py:U8}{x y:LV}{d id:Int}(hx:IsInts lx px)(g:IsInts ly py)(hd:Hi x y d)(i:Cs 4294967294 1073741824 (Crv.mk px py d)):
 ∃E',EOk b E'/\E'.m=(E.m.rep ⟨Crv.norm (Crv.mk px py d),id⟩).1/\EnD 27 [.one (.ow 0 0),.oi id,.agg [.row lx,.row ly,x,y]] E [.one (.int .i64 (E.m.rep ⟨Crv.norm (Crv.mk px py d),id⟩).2)] E':=by
 have hM:=h.m.m;have k:=hM.ln;have ct:=Qtc (np:=E.np) (nd:=E.nd) (l:=E.M) (id:=id) hx g hd i Fo;obtain⟨p,hp⟩:=nmE (Pt.mk (Crv.norm (Crv.mk px py d)) id);have o:WN p.c:=by rw[hp];exact Crv.nml _
 have u:p.id=id:=by rw[hp]
 by_cases e:Cw E.nd E.M p=0
 .have O:KR p=true/\has E.M p.id=true/\¬E.nd<DK p.c:=by
   unfold Cw at e;by_cases a1:KR p=false
   .rw[if_pos a1]at e;cases e
   rw[if_neg a1]at e;by_cases a2:has E.M p.id=false
   .rw[if_pos a2]at e;cases e
   rw[if_neg a2]at e;by_cases j:E.nd<DK p.c
   .rw[if_pos j]at e;cases e
   exact⟨by simpa using a1,by simpa using a2,j⟩
  obtain⟨f1,f2,f3⟩:=O;obtain⟨Q,D⟩:=Qn3 f1;have n:=Qx7 (np:=E.np) o h.nd.2 D f3;have a:MOk (E.M.set (S6 E.M p.id) p):=⟨λz hz=>by rcases KP hz with rfl|hz;exact n;exact hM.sc z hz,by rw[Xd];exact k,Qa8 hM.so f2⟩;have f:MEn E.np E.nd (E.M.set (S6 E.M p.id) p):=⟨a,by rw[Xd];exact h.m.len,λz hz=>by rcases KP hz with rfl|hz;omega;exact h.m.deg z hz,λz hz=>by rcases KP hz with rfl|hz;exact Q;exact h.m.id z hz⟩;rw[u]at f2 a f;rw[hp]at e a f;rw[e,if_pos rfl]at ct;obtain⟨w1,l1,a1⟩:=h.s.again okS a;obtain⟨L,l2,a2⟩:=h.t.again okT a;obtain⟨G,l3,j⟩:=h.h.again okH a;obtain⟨I,H,P⟩:=h.p.again okP a;obtain⟨K,J,N⟩:=h.d.again okD a;have B:=Qsl (c:=E.s) (l:=E.M) (r1:=xN E.M (tq E.q)) hx g hd i Fo f2 h.s.st.inv.ok rfl a.sc l1;have w:=Qkl (c:=E.t) (l:=E.M) (r1:=lS E.M (tq E.q)) hx g hd i Fo f2 h.t.st.inv.ok rfl a.sc l2;have v:=Qjr (c:=E.h) (l:=E.M) (r1:=brH E.M (tq E.q)) hx g hd i Fo f2 h.h.st.inv.ok rfl a.sc l3;have A:=Qj4 (c:=E.p) (l:=E.M) (r1:=brP E.M (tq E.q)) hx g hd i Fo f2 h.p.st.inv.ok rfl a.sc H;have C:=Qjk (c:=E.d) (l:=E.M) (r1:=lT E.M (tq E.q)) hx g hd i Fo f2 h.d.st.inv.ok rfl a.sc J;rw[h.s.now]at B;rw[h.t.now]at w;rw[h.h.now]at v;rw[h.p.now]at A;rw[h.d.now]at C;obtain⟨b1,r,rfl,rfl,_⟩:=hd;refine⟨⟨E.np,E.nd,E.M.set (S6 E.M id) ⟨Crv.norm (Crv.mk px py d),id⟩,E.q,⟨tq E.q,w1,E.s.ev⟩,⟨tq E.q,L,E.t.ev⟩,⟨tq E.q,G,E.h.ev⟩,⟨tq E.q,I,E.p.ev⟩,⟨tq E.q,K,E.d.ev⟩⟩,⟨h.np,h.nd,f,h.q,a1,a2,j,P,N,h.es,h.et,h.eh,h.ep,h.ed⟩,?_,?_⟩
  .unfold Em.rep;show _=if Cw E.nd E.M _=0 then _ else _
   rw[if_pos e];rfl
  .have F:(E.m.rep ⟨Crv.norm (Crv.mk px py d),id⟩).2=0:=e;rw[F];exact Qka ct B w v A C
 .rw[hp]at e;rw[if_neg e]at ct;obtain⟨b1,r,rfl,rfl,_⟩:=hd;refine⟨E,h,?_,Qgc e ct⟩;unfold Em.rep;show _=if Cw E.nd E.M _=0 then _ else _
  rw[if_neg e]
theorem Qmb{id:Int}(h:EOk b E):
 ∃E',EOk b E'/\E'.m=(E.m.del id).1/\EnD 26 [.one (.ow 0 0),.oi id] E [.one (.int .i64 (E.m.del id).2)] E':=by
 have hM:=h.m.m;have u:=hM.ln;by_cases f2:has E.M id=true
 .have ct:=Qtb (np:=E.np) (nd:=E.nd) (l:=E.M) Fo f2;have g:=US f2;have x:=Qm4 g;have a:MOk (E.M.take (S6 E.M id)++E.M.drop (S6 E.M id+1)):=⟨λz hz=>hM.sc z (qF hz),Fo,dR hM.so _⟩;have e:MEn E.np E.nd (E.M.take (S6 E.M id)++E.M.drop (S6 E.M id+1)):=⟨a,by have:=h.m.len;omega,λz hz=>h.m.deg z (qF hz),λz hz=>h.m.id z (qF hz)⟩;obtain⟨w1,l1,a1⟩:=h.s.again okS a;obtain⟨y,l2,a2⟩:=h.t.again okT a;obtain⟨C,l3,r⟩:=h.h.again okH a;obtain⟨F,D,B⟩:=h.p.again okP a;obtain⟨w,v,A⟩:=h.d.again okD a;have i:=Qsj (c:=E.s) (l:=E.M) (r1:=xN E.M (tq E.q)) Fo f2 h.s.st.inv.ok rfl a.sc l1;have n:=Qkk (c:=E.t) (l:=E.M) (r1:=lS E.M (tq E.q)) Fo f2 h.t.st.inv.ok rfl a.sc l2;have k:=Qjq (c:=E.h) (l:=E.M) (r1:=brH E.M (tq E.q)) Fo f2 h.h.st.inv.ok rfl a.sc l3;have o:=Qj3 (c:=E.p) (l:=E.M) (r1:=brP E.M (tq E.q)) Fo f2 h.p.st.inv.ok rfl a.sc D;have j:=Qjj (c:=E.d) (l:=E.M) (r1:=lT E.M (tq E.q)) Fo f2 h.d.st.inv.ok rfl a.sc v;rw[h.s.now]at i;rw[h.t.now]at n;rw[h.h.now]at k;rw[h.p.now]at o;rw[h.d.now]at j;have f:E.m.del id=({ E.m with M:=E.M.take (S6 E.M id)++E.M.drop (S6 E.M id+1) },0):=if_pos f2;rw[f];exact⟨⟨E.np,E.nd,E.M.take (S6 E.M id)++E.M.drop (S6 E.M id+1),E.q,⟨tq E.q,w1,E.s.ev⟩,⟨tq E.q,y,E.t.ev⟩,⟨tq E.q,C,E.h.ev⟩,⟨tq E.q,F,E.p.ev⟩,⟨tq E.q,w,E.d.ev⟩⟩,⟨h.np,h.nd,e,h.q,a1,a2,r,B,A,h.es,h.et,h.eh,h.ep,h.ed⟩,rfl,Qjl ct i n k o j⟩
 .have f:E.m.del id=(E.m,5):=if_neg f2;rw[f];exact⟨E,h,rfl,Qf3 (show(5:Int)≠0 by decide) (Qlg Fo (by simpa using f2))⟩
variable{t:Rat}
theorem UY(h:EOk b E)(hb:b<=900000000000000000){v x1 x2 u:LV}{n m:Int}(ha:Hi v x1 n)(hc:Hi x2 u m)(r:Gm n<=4294967295)(sb:Gm m<=4294967295)(ht:Hn n m=t):
 ∃E',EOk (b+67000000) E'/\E'.m=(E.m.adv t).1/\((E.m.adv t).2≠0->E'=E)/\EnD 29 [.one (.ow 0 0),.agg [v,x1,x2,u]] E [.one (.int .i64 (E.m.adv t).2)] E':=by
 have hM:=h.m.m;have z:=hM.ln;by_cases hs:Qs 128 t
 .by_cases hp:t<E.q
  .have g:E.m.adv t=(E.m,8):=by unfold Em.adv;rw[if_pos hs];exact if_pos hp
   rw[g];exact⟨E,h.mono Fo,rfl,λ_=>rfl,xB ha hc r sb ht hs h.q hp⟩
  .have a:E.q<=t:=Ug.1 hp;have g:E.m.adv t=(({ E.m with q:=t,s:=E.s.ev+(cnt (VY E.M) E.q t:Nat),t:=E.t.ev+(cnt (xM E.M) E.q t:Nat),h:=E.h.ev+(cnt (EI E.M) E.q t:Nat),p:=E.p.ev+(cnt (sL E.M) E.q t:Nat),d:=E.d.ev+(cnt (wL E.M) E.q t:Nat) }:Em),0):=by unfold Em.adv;rw[if_pos hs];exact if_neg hp
   rw[g];have f:Qs 1640000 t:=hs.mono Fp;obtain⟨K1,j,W,P,a1,F,R,_⟩:=h.s.adv okS hM f a;obtain⟨K2,o,U,x,a2,w,u2,_⟩:=h.t.adv okT hM f a;obtain⟨S,l,k3,I,y,L,u3,_⟩:=h.h.adv okH hM f a;obtain⟨X,i,Z,G,O,Q,V,_⟩:=h.p.adv okP hM f a;obtain⟨T,k,Y,K,N,J,u5,_⟩:=h.d.adv okD hM f a;have e:∀{c:Cr},c.now=tq E.q->Gt c.now t<=0:=λ{c} hn=>by
    rw[hn,wF];exact Dm.2 a
   have A:=Qzb f hM.sc Fo h.s.st.inv.ok (by have:=h.es;omega) (e h.s.now) P;have D:=Qsr f hM.sc Fo h.t.st.inv.ok (by have:=h.et;omega) (e h.t.now) x;have C:=Qy1 f hM.sc Fo h.h.st.inv.ok (by have:=h.eh;omega) (e h.h.now) I;have H:=Qsf f hM.sc Fo h.p.st.inv.ok (by have:=h.ep;omega) (e h.p.now) G;have B:=Qyz f hM.sc Fo h.d.st.inv.ok (by have:=h.ed;omega) (e h.d.now) K;refine⟨⟨E.np,E.nd,E.M,t,j,o,l,i,k⟩,⟨h.np,h.nd,h.m,hs,a1,a2,y,O,N,?_,?_,?_,?_,?_⟩,?_,λh=>absurd rfl h,Qf1 ha hc r sb ht hs h.q a A D C H B⟩
   .have:=h.es;show 0<=j.ev/\j.ev<=_;omega
   .have:=h.et;show 0<=o.ev/\o.ev<=_;omega
   .have:=h.eh;show 0<=l.ev/\l.ev<=_;omega
   .have:=h.ep;show 0<=i.ev/\i.ev<=_;omega
   .have:=h.ed;show 0<=k.ev/\k.ev<=_;omega
   .unfold Es.m;simp only[F,w,L,Q,J]
 .have g:E.m.adv t=(E.m,1):=by unfold Em.adv;exact if_neg hs
  rw[g];exact⟨E,h.mono Fo,rfl,λ_=>rfl,wO ha hc r sb ht hs⟩
noncomputable def Em.ans(A:Em)(t:Rat):Fe:=if (A.adv t).2=0 then Qi5 A.M t else Q2v
theorem Qdc(h:EOk b E)(hb:b<=900000000000000000){g x1 x2 c:LV}{n m:Int}(ha:Hi g x1 n)(hc:Hi x2 c m)(j:Gm n<=4294967295)(sb:Gm m<=4294967295)(ht:Hn n m=t):
 EnD 30 [.one (.ow 0 0),.agg [g,x1,x2,c]] E [.agg (E.m.ans t),.one (.int .i64 (E.m.adv t).2)] E:=by
 obtain⟨E',h1,h2,h3,h4⟩:=UY h hb ha hc j sb ht;obtain⟨b1,r1,rfl,rfl,_⟩:=ha;obtain⟨k,r2,rfl,rfl,_⟩:=hc;unfold Em.ans;by_cases e:(E.m.adv t).2=0
 .rw[if_pos e];rw[e]at h4 ⊢;have hs:Qs 128 t/\¬t<E.q:=by
   unfold Em.adv at e;by_cases a:Qs 128 t
   .rw[if_pos a]at e;by_cases f:t<E.m.q
    .rw[if_pos f]at e;cases e
    .exact⟨a,f⟩
   .rw[if_neg a]at e;cases e
  have i:E.m.adv t=(({ E.m with q:=t,s:=E.s.ev+(cnt (VY E.M) E.q t:Nat),t:=E.t.ev+(cnt (xM E.M) E.q t:Nat),h:=E.h.ev+(cnt (EI E.M) E.q t:Nat),p:=E.p.ev+(cnt (sL E.M) E.q t:Nat),d:=E.d.ev+(cnt (wL E.M) E.q t:Nat) }:Em),0):=by unfold Em.adv;rw[if_pos hs.1];exact if_neg hs.2
  rw[i]at h2;obtain⟨np,nd,M,q,s,u,v,p,d⟩:=E';unfold Es.m at h2;injection h2 with i1 i2 i3 i4;dsimp only at i1 i2 i3 i4;subst i1 i2 i3 i4;exact Qgb h.q h.m.m.ln h4
 .rw[if_neg e];rw[h3 e]at h4;exact Qj8 e h.q h4
end Orr
namespace Orr
open Go Go.Proofs Tryz Orq
set_option maxRecDepth 10000
theorem sN{β:Type}{k:Knd β}{M:List Pt}{q:Rat}{c:Cr}(h:At k M q c):ZY c.l=Gv (Gv (k.bc M (tq q))):=by
 unfold ZY;rw[h.st.cs,h.now]
def Im(M:List Pt)(q:Rat):List Ct:=Gv (Gv (VY M (tq q)))++Gv (Gv (xM M (tq q)))++Gv (Gv (EI M (tq q)))++Gv (Gv (sL M (tq q)))++Gv (Gv (wL M (tq q)))
variable{b:Int}
theorem Qma{E:Es}(h:EOk b E):EnD 9 [.one (.ow 0 0)] E [.one (.row (Gk (Im E.M E.q)))] E:=by
 have hc:=Qr2 (np:=E.np) (nd:=E.nd) (M:=E.M) (q:=E.q) h.s.st.inv.ok h.t.st.inv.ok h.h.st.inv.ok h.p.st.inv.ok h.d.st.inv.ok;have e:ZY E.s.l++ZY E.t.l++ZY E.h.l++ZY E.p.l++ZY E.d.l=Im E.M E.q:=by
  rw[sN h.s,sN h.t,sN h.h,sN h.p,sN h.d];rfl
 rw[e]at hc;exact hc
theorem Qlm{E:Es}(h:EOk b E):(∀c∈Im E.M E.q,Cp c.p)/\(Im E.M E.q).length≤1000000:=by
 have hv:Va (tq E.q):=BY (h.q.mono Fp);have g:=okS.st _ h.m.m;have d:=okT.st _ h.m.m;have f:=okH.st _ h.m.m;have a:=okP.st _ h.m.m;have e:=okD.st _ h.m.m;constructor
 .intro c hc;unfold Im at hc;simp only[Qr]at hc;rcases hc with (((hc|hc)|hc)|hc)|hc
  .exact g.ok.p _ hv c (Tc (Tc hc))
  .exact d.ok.p _ hv c (Tc (Tc hc))
  .exact f.ok.p _ hv c (Tc (Tc hc))
  .exact a.ok.p _ hv c (Tc (Tc hc))
  .exact e.ok.p _ hv c (Tc (Tc hc))
 .unfold Im;simp only[Qw,Cc];have:=g.ok.n _ hv;have:=d.ok.n _ hv;have:=f.ok.n _ hv;have:=a.ok.n _ hv;have:=e.ok.n _ hv;have l:(kS.bc E.M (tq E.q)).length=(VY E.M (tq E.q)).length:=rfl;have i:(kT.bc E.M (tq E.q)).length=(xM E.M (tq E.q)).length:=rfl;have j:(kH.bc E.M (tq E.q)).length=(EI E.M (tq E.q)).length:=rfl;have o:(kP.bc E.M (tq E.q)).length=(sL E.M (tq E.q)).length:=rfl;have k:(kD.bc E.M (tq E.q)).length=(wL E.M (tq E.q)).length:=rfl;omega
def lst:List Tm->Option (Option Tm)
 | []=>some none
 |b::l=>(O1 b l).map some
def Qxu(E:Es)(s t h p d:List Wt):Nat->Es
 | 0=>E
 | 1=>{ E with s:={ E.s with l:=s } }
 | 2=>{ E with s:={ E.s with l:=s },t:={ E.t with l:=t } }
 | 3=>{ E with s:={ E.s with l:=s },t:={ E.t with l:=t },h:={ E.h with l:=h } }
 | 4=>{ E with s:={ E.s with l:=s },t:={ E.t with l:=t },h:={ E.h with l:=h },p:={ E.p with l:=p } }
 |_=>{ E with s:={ E.s with l:=s },t:={ E.t with l:=t },h:={ E.h with l:=h },p:={ E.p with l:=p },d:={ E.d with l:=d } }
theorem Qrn{o:List (Option Tm)}{i:Nat}{x:Option Tm}(h:o[i]? = some x):(o.take (i+1)).filterMap id=(o.take i).filterMap id++x.toList:=by
 rw[Zv,h,Wi];show _++List.filterMap id [x]=_;cases x <;> rfl
theorem Qr5{E:Es}{s t h p d:List Wt}{j w n y r m:Option Tm}(I:CrOk E.s)(N:CrOk E.t)(L:CrOk E.h)(O:CrOk E.p)(K:CrOk E.d)(l1:La E.s.now E.s.l=some s)(l2:La E.t.now E.t.l=some t)(l3:La E.h.now E.h.l=some h)(V:La E.p.now E.p.l=some p)(J:La E.d.now E.d.l=some d)(n1:KL s=some j)(n2:KL t=some w)(n3:KL h=some n)(R:KL p=some y)(U:KL d=some r)(hv:∀x∈[j,w,n,y,r].filterMap id,Va x)(hm:lst ([j,w,n,y,r].filterMap id)=some m) :
 EnD 14 [.one (.ow 0 0)] E [.agg (ota m),.one (.bool m.isSome)] (Qxu E s t h p d 5):=by
 have B:=QH (T:=200) (r0:=Ga E.M) (r1:=xN E.M (tq E.q)) I l1 n1;have z:=Qcb (T:=206) (r0:=Ga E.M) (r1:=lS E.M (tq E.q)) N l2 n2;have H:=QH (T:=208) (r0:=Ga E.M) (r1:=brH E.M (tq E.q)) L l3 n3;have G:=QH (T:=210) (r0:=Ga E.M) (r1:=brP E.M (tq E.q)) O V R;have F:=QH (T:=212) (r0:=Ga E.M) (r1:=lT E.M (tq E.q)) K J U;have hl:∀i,(([j,w,n,y,r].take i).filterMap id).length<=5:=λi=>Qa (Y6 _ _) (by rw[Qt];exact Un _ _)
 have hs:∀x:Tm,∀c∈[ta x],c.length=9:=λx c hc=>by rw[Qk.1 hc];rfl
 obtain⟨A,hA⟩:∃A:Nat->List Tm,∀i,A i=([j,w,n,y,r].take i).filterMap id:=⟨_,λ_=>rfl⟩;have a0:A 0=[]:=by rw[hA];rfl
 have as_:∀{i:Nat} {x:Option Tm},[j,w,n,y,r][i]? = some x->A (i+1)=A i++x.toList:=λh=>by rw[hA,hA,Qrn h]
 have g:∀i,(A i).length<=5:=λi=>by rw[hA];exact hl i
 have P:A 5=[j,w,n,y,r].filterMap id:=hA 5;refine G7 func14 rfl ?_;refine Ux [.o 4 72 9,.c Fi IZ] rfl ?_;refine lp (S:=Nat) 9 (λL1 i=>(11,.v (.oi i))::(4,.v (.one (.orow 8 9 none)))::L1) (λi=>enB 0 (Qxu E s t h p d i)++[.blk 72 [.nils,.bool false,.nils,.bool false,.nils,.bool false,.nils,.bool false,.nils],.row false 72 9 (tal (A i))]) (λi=>5-i) (λi=>i<=5) 0 Fp rfl (λ_ _=>rfl) (by rw[a0];rfl) λi hi=>?_
 have q0:=g 0;have W:=g 1;have X:=g 2;have Y:=g 3;have Z:=g 4;rcases(show i=0\/i=1\/i=2\/i=3\/i=4\/i=5 by omega)with rfl|rfl|rfl|rfl|rfl|rfl
 .have e:=as_ (i:=0) (x:=j) rfl;cases j with
  |none=>exact go tt [.t rfl,.i 0,.c [2] B,.f rfl] rfl Fy (rd 1 Fo Fo (by rw[e];simp;rfl))
  |some a=>exact go tt [.t rfl,.i 0,.c [2] B,.t rfl,.s (l:=[ta a]) (sz:=9) (hs a)] rfl Fw (rd 1 Fo Fo (by rw[e];simp[tal];rfl))
 .have e:=as_ (i:=1) (x:=w) rfl;cases w with
  |none=>exact go tt [.t rfl,.i 1,.c [3] z,.f rfl] rfl Fy (rd 2 Fo Fo (by rw[e];simp;rfl))
  |some a=>exact go tt [.t rfl,.i 1,.c [3] z,.t rfl,.s (l:=[ta a]) (sz:=9) (hs a)] rfl Fw (rd 2 Fo Fo (by rw[e];simp[tal];rfl))
 .have e:=as_ (i:=2) (x:=n) rfl;cases n with
  |none=>exact go tt [.t rfl,.i 2,.c [4] H,.f rfl] rfl Fy (rd 3 Fo Fo (by rw[e];simp;rfl))
  |some a=>exact go tt [.t rfl,.i 2,.c [4] H,.t rfl,.s (l:=[ta a]) (sz:=9) (hs a)] rfl Fw (rd 3 Fo Fo (by rw[e];simp[tal];rfl))
 .have e:=as_ (i:=3) (x:=y) rfl;cases y with
  |none=>exact go tt [.t rfl,.i 3,.c [5] G,.f rfl] rfl Fy (rd 4 Fo Fo (by rw[e];simp;rfl))
  |some a=>exact go tt [.t rfl,.i 3,.c [5] G,.t rfl,.s (l:=[ta a]) (sz:=9) (hs a)] rfl Fw (rd 4 Fo Fo (by rw[e];simp[tal];rfl))
 .have e:=as_ (i:=4) (x:=r) rfl;cases r with
  |none=>exact go tt [.t rfl,.i 4,.c [6] F,.f rfl] rfl Fy (rd 5 Fo Fo (by rw[e];simp;rfl))
  |some a=>exact go tt [.t rfl,.i 4,.c [6] F,.t rfl,.s (l:=[ta a]) (sz:=9) (hs a)] rfl Fw (rd 5 Fo Fo (by rw[e];simp[tal];rfl))
 .rw[<-P]at hm hv;have C:=g 5;cases D:A 5 with
  |
   nil =>
   rw[D]at hm;obtain rfl:=Option.some.inj hm;exact U3 [] [0,1,2,3,4,5,6] [.f rfl,.p 8,.k AN] rfl
  |
   cons b l =>
   rw[D]at hm hv C;obtain⟨u,Q,rfl⟩:=Js.1 hm;have cl:=Me (hv b (Qy ..)).tb (λt ht=>(hv t (Qi _ ht)).tb) (by simp at C;omega) Q;exact U3 [] [0,1,2,3,4,5,6] [.f rfl,.p 8,.k cl] rfl
end Orr
namespace Orq
open Orr Go
theorem nO{c x y:Rat}(hc:0<c)(h:c*x=c*y):x=y:=by
 have h1:1 / c*c=1:=Hq hc;have e:∀z:Rat,z=1 / c*(c*z):=λz=>Fu
 rw[e x,h,<-e y]
theorem yZ(p:U8):∀i,i<=p.length->QN p i=S8 (p.take i)
 | 0,_=>rfl
 |
  i+1,h=>by
  have hx:p[i]? = some (p.getD i 0):=by rw[Qe,Qf Fo];rfl
  rw[yI hx,<-yZ p i Fo];rfl
theorem Qtj(p:U8):((Orr.cont p:Nat):Int)=Py p:=by
 unfold Orr.cont Py;rw[yZ p _ (Nat.le_refl _),List.take_length]
theorem Qoy(p:U8):G0 p=Gp p:=rfl
theorem Qml(p:U8):Ci p=Ro p:=by unfold Ci Ro;rw[Qtj,Qoy]
theorem HJ(p:U8)(k:Nat):(Rf p).getD k 0=p.getD k 0 / Ro p:=by
 unfold Rf;rw[Pe,Qml]
 split
 .rfl
 .rename_i h;rw[Rt Fo,Int.zero_ediv]
theorem H9(p:U8):Rf p=Gj p:=by
 unfold Gj
 split
 .rename_i h;rw[List.eq_nil_of_length_eq_zero h];rfl
 .exact PU (xX p) (Tp _) λk=>by rw[HJ,D2]
theorem cH(p:U8)(k:Nat):(Se p).getD k 0=p.getD k 0 / Py p:=by
 unfold Se
 split
 .rename_i h;rw[kQ,HJ];have:Ro p=-Py p:=if_pos h;rw[this,Int.ediv_neg,Int.neg_neg]
 .rename_i h;rw[HJ];have:Ro p=Py p:=if_neg h;rw[this]
theorem DZ(p:U8):Gg (Se p):=by
 unfold Se;split
 .exact Gs _ _
 .exact xX p
theorem CS(p:U8):Se p=QQ p:=by
 unfold QQ
 split
 .rename_i h;rw[List.eq_nil_of_length_eq_zero h];rfl
 .exact PU (DZ p) (Tp _) λk=>by rw[cH,D2]
theorem kZ{p:U8}(a:Gg p)(h:p.length≠0):Prm (QQ p):=λd hd=>by
 refine(M6 a h).2.2.1 d λk=>?_
 have h1:=hd k;unfold QQ at h1;rw[if_neg h,D2]at h1;unfold Gj;rw[if_neg h,D2];unfold Ro
 split
 .rw[Int.ediv_neg];exact Uu.2 h1
 .exact h1
theorem mQ{a b c:Int}(h:Nat.Coprime a.natAbs b.natAbs)(h2:a∣b*c):a∣c:=Xv.1 (h.dvd_of_dvd_mul_left (by rw[<-Yf];exact Xv.2 h2))
theorem NR{p q:U8}(m:Gg p)(tq:Gg q)(hp:Prm p)(g:Prm q){c:Rat}(hc:0<c)(h:∀t,Gf p t=c*Gf q t):p=q:=by
 have hd:=c.den_nz;have d:((c.den:Int):Rat)≠0:=ZU Fo;have e:c*((c.den:Int):Rat)=(c.num:Rat):=by
  have h1:(c.num:Rat) / ((c.den:Int):Rat)=c:=by rw[To,Z9]
  have h2:(c.num:Rat) / ((c.den:Int):Rat)*((c.den:Int):Rat)=(c.num:Rat):=Zg d;rw[h1]at h2;exact h2
 have f:∀k,(c.den:Int)*p.getD k 0=c.num*q.getD k 0:=λk=>by
  have:=Lu (p:=G5 p (c.den:Int)) (q:=G5 q c.num) (λt=>by
   rw[Tn,Tn,h,<-e];grind) k
  rw[Pz,Pz]at this;rw[Kb,this,Kb]
 have i:(c.den:Int)∣1:=g _ λk=>mQ (a:=(c.den:Int)) (b:=c.num) (by simpa using c.reduced.symm) (by rw[<-f k];exact V7 _ _)
 have l:c.num∣1:=hp _ λk=>mQ (a:=c.num) (b:=(c.den:Int)) (by simpa using c.reduced) (by rw[f k];exact V7 _ _)
 have p1:0<c.num:=by
  have h0:=Rat.num_nonneg.2 (Qq hc);rcases Int.lt_or_eq_of_le h0 with h1|h1
  .exact h1
  .exfalso;rw[<-h1]at e;have j:((0:Int):Rat)=0:=rfl;rw[j]at e;rcases Yo.1 e with h2|h2
   .grind
   .exact d h2
 have n:=Int.le_of_dvd Fp i;have o:=Int.le_of_dvd Fp l;have n1:c.num=1:=Fo;have n2:(c.den:Int)=1:=Fo;refine PU m tq λk=>?_
 have:=f k;rw[n1,n2]at this;omega
theorem Qib{a b:U8}(hb:b.length<=a.length):QJ a b=str b ((Gp b).natAbs:Int) (a.length-b.length) (A0 a b) a:=by
 refine PU (Gs _ _) (Gs _ _) λk=>?_
 unfold QJ str;rw[Pe,E6,Pz,gX]
 split
 .rfl
 .rename_i h;rw[Rt (p:=a) Fo,Y4,if_pos Fo,Rt (p:=b) Fo,Kx];rfl
theorem Qpp{a b:U8}(hb:b.length<=a.length)(t:Rat):(((Gp b).natAbs:Int):Rat)*Gf a t=((A0 a b:Int):Rat)*t^(a.length-b.length)*Gf b t+Gf (QJ a b) t:=by
 rw[Qib hb];exact Qqf _ _ _ _ _ _
theorem Qia{a b:U8}(c:b.length≠0)(hb:b.length<=a.length):(QJ a b).length<a.length:=by
 have h:=fP (p:=QJ a b) (n:=a.length-1) (Gs _ _) (Qa (Oq _ _) Fo) (by
  unfold QJ Ij;rw[Pe,if_pos Fo,if_pos Fo,show a.length-1-(a.length-b.length)=b.length-1 by omega];show G0 a*((G0 b).natAbs:Int)-A0 a b*G0 b=0;unfold A0
  split
  .rw[show((G0 b).natAbs:Int)=-G0 b by omega,V2,Kq];omega
  .rw[show((G0 b).natAbs:Int)=G0 b by omega];omega)
 omega
theorem Qpo{a b:U8}{s t:Nat}(ha:Bd s a)(hb:Bd t b):Bd (s+t+1) (QJ a b):=JF λi _=>by
 have h1:=Gz ha i;have h2:Gm ((G0 b).natAbs:Int)<=t:=by
  have h:Gm (G0 b)<=t:=Gz hb (b.length-1);rw[Pi]at h ⊢;rw[Xc];exact h
 have h3:Gm (A0 a b)<=s:=by
  have:=Gz ha (a.length-1);unfold A0
  split
  .rw[Rq];exact this
  .exact this
 have h4:=G9 (a.getD i 0) ((G0 b).natAbs:Int);unfold Ij
 split
 .have h5:=G9 (A0 a b) (b.getD (i-(a.length-b.length)) 0);have c:=Gz hb (i-(a.length-b.length));have:=LI (a.getD i 0*((G0 b).natAbs:Int)) (A0 a b*b.getD (i-(a.length-b.length)) 0);omega
 .rw[Int.sub_zero];omega
theorem EH{b:U8}(tb:Gg b)(hb:b.length≠0){t:Nat}(bb:Bd t b):∀(k:Nat) (a:U8) (s:Nat),a.length<b.length+k->Gg a->a.length<=60->Bd s a->s+k*(t+1)<=9000000->t<=9000000 ->
 ∃n r,RRun b n a r/\Gg r/\r.length<b.length/\Bd (s+k*(t+1)) r/\∃(u:Rat) (X:Fb),0<u/\∀x,u*Gf a x=ev X x*Gf b x+Gf r x
 | 0,a,s,hl,ta,_,ba,_,_=>⟨0,a,.stop Fo,ta,Fo,by rw[Yv];exact ba,1,[],Fp,λx=>by simp only[ev];grind⟩
 |
  k+1,a,s,hl,ta,h6,ba,hs,ht=>by
  rcases Q7 a.length b.length with h|h
  .exact⟨0,a,.stop h,ta,h,Fz ba Fo,1,[],Fp,λx=>by simp only[ev];grind⟩
  .have h1:=Qia hb h;have e:s+t+1+k*(t+1)=s+(k+1)*(t+1):=by rw[Xh];omega
   obtain⟨n,r,r1,r2,d,j,u,X,hu,g⟩:=EH tb hb bb k (QJ a b) (s+t+1) Fo (Gs _ _) Fo (Qpo ba bb) Fo ht;have c:((0:Int):Rat)<(((Gp b).natAbs:Int):Rat):=Jc.2 (by have:=Do tb hb;omega);have c:(0:Rat)<(((Gp b).natAbs:Int):Rat):=by simpa using c
   refine⟨n+1,r,.step h Fo (Fz ba Fo) (Fz bb ht) r1,r2,d,by rw[<-e];exact j,u*(((Gp b).natAbs:Int):Rat),Ty (Nq (u*((A0 a b:Int):Rat)) (cz (mono (a.length-b.length) 1))) X,Xx hu c,λx=>?_⟩;have i:=Qpp h x;have l:=g x;rw[Hg,G8,Gd,XC];have f:((1:Int):Rat)=1:=rfl;rw[f];have:u*(((Gp b).natAbs:Int):Rat)*Gf a x=u*((((Gp b).natAbs:Int):Rat)*Gf a x):=Fu;rw[this,i];grind
theorem Qvs{a b r:U8}(ta:Gg a)(tb:Gg b)(hb:b.length≠0)(hl:a.length<=60)(tr:Gg r)(hr:r.length<b.length){u:Rat}{X:Fb}(hu:0<u)(B:∀x,u*Gf a x=ev X x*Gf b x+Gf r x):Se r=Rz a b:=by
 obtain⟨h1,h2,_,u',v',up,w,j,n⟩:=SD ta tb hb hl;have i:∀x,ev (Ty (Nq (u*v') (cz (Rz a b))) (Nq (-u') (cz r))) x=ev (Hz (Ty (Nq u' X) (Nq (-u) j)) (cz b)) x:=λx=>by
  have s:=B x;have k:=n x;rw[Hg,G8,G8,Gl,Hg,G8,G8,Gd,Gd,Gd];have D:u'*(u*Gf a x)=u'*(ev X x*Gf b x+Gf r x):=by rw[s]
  have C:u*(u'*Gf a x)=u*(ev j x*Gf b x+v'*Gf (Rz a b) x):=by rw[k]
  grind
 have hz:∀x,ev (Ty (Nq u' X) (Nq (-u) j)) x=0:=by
  rcases BO (Ty (Nq u' X) (Nq (-u) j))with h|⟨m,_,h⟩
  .exact h
  .exfalso;have hm:=MD h (FP tb Fo);have h3:=(Qnc (λt=>(i t).symm) hm).1;rw[Tz,Pn,Pn,Nh,Nh,Rt (p:=Rz a b) Fo,Rt (p:=r) Fo]at h3;have A:((0:Int):Rat)=0:=rfl;rw[A]at h3;exact h3 Fu
 have f:∀x,Gf r x=u*v' / u'*Gf (Rz a b) x:=λx=>by
  have g:=i x;rw[Gl,hz x,Hg,G8,G8,Gd,Gd]at g;have hd:u*v' / u'*u'=u*v':=Hq up;have y:u'≠0:=Fu;have:u'*Gf r x=u'*(u*v' / u'*Gf (Rz a b) x):=by
   have e:u'*(u*v' / u'*Gf (Rz a b) x)=(u*v' / u'*u')*Gf (Rz a b) x:=Fu;rw[e,hd];grind
  exact nO up this
 have o:0<u*v' / u':=Ev (Xx hu w) up;rw[CS];have d:=Iz tr h1 (by grind:u*v' / u'≠0) f;by_cases h0:r.length=0
 .rw[Qg h0,Qg (l:=Rz a b) Fo];rfl
 .obtain⟨c,cp,hc⟩:=bI tr;have z:c≠0:=Fu;have q:Prm (Rz a b):=by
   unfold Rz at d ⊢;have ht:Gg (Ck a b (Bb a b)):=by
    unfold Ck;split
    .exact Gs _ _
    .exact(rP hb _ _ _ ta Fo).1
   refine kZ ht λe=>?_
   rw[Qg e]at d;exact h0 d
  have v:Gg (QQ r):=by rw[<-CS];exact DZ r
  refine NR v h1 (kZ tr h0) q (c:=u*v' / u' / c) (Ev o cp) λt=>?_
  have s:=hc t;have k:=f t;have hd:u*v' / u' / c*c=u*v' / u':=Hq cp;refine nO cp ?_;have e:c*(u*v' / u' / c*Gf (Rz a b) t)=(u*v' / u' / c*c)*Gf (Rz a b) t:=Fu;rw[e,hd,<-s,k]
theorem C9{p:U8}(h:Pr1 p):Gj p=p:=by
 obtain⟨h1,h2,h3,h4,_,d,b⟩:=M6 h.t h.n;have hl:=h.l;have hc:0<Ro p:=by
  have:=XN h.t h.n;unfold Ro;rw[if_neg Fo];unfold Py at this ⊢;omega
 have a:((0:Int):Rat)<(Ro p:Rat):=Jc.2 hc;exact(NR h.t h1 h.m h3 (c:=(Ro p:Rat)) (by simpa using a) b).symm
theorem WX{r:U8}(tr:Gg r):(Gj r).length=r.length/\((Gj r).length=0\/Pr1 (Gj r)):=by
 by_cases h:r.length=0
 .rw[Qg h];exact⟨rfl,.inl rfl⟩
 .exact⟨(M6 tr h).2.1,.inr (Qhz tr h)⟩
variable{s:Nat}
theorem NA{m lb la:Nat}(e:la-1=m+(lb-1))(hm:1<=m)(hs:(s+8)*3^(la-1)<=9000000):(s+(m+1)*(s+8)+8)*3^(lb-1)<=9000000/\s+(m+1)*(s+8)<=9000000:=by
 have a:s+(m+1)*(s+8)+8=(m+2)*(s+8):=by
  rw[show m+2=(m+1)+1 by omega,Xh (m+1)];omega
 have b:(m+2)*(s+8)*3^(lb-1)<=(s+8)*3^(la-1):=by
  rw[e,Xj,<-Xy,Zt (s+8)];exact Qz _ (Qz _ (Qu7 m hm))
 have:(m+2)*(s+8)<=(m+2)*(s+8)*3^(lb-1):=Yl _ (Zz Fp);exact⟨by rw[a];omega,Fo⟩
theorem dV{a b:U8}(ta:Gg a)(tb:Gg b)(hb:b.length≠0)(g:b.length<a.length)(hl:a.length<=60)(e:Bd s a)(bb:Bd s b)(hs:(s+8)*3^(a.length-1)<=9000000):
 ∃n r,RRun b n a r/\Gg r/\r.length<b.length/\Bd (s+(a.length-b.length+1)*(s+8)) r/\Se r=Rz a b/\∃(u:Rat) (X:Fb),0<u/\∀x,u*Gf a x=ev X x*Gf b x+Gf r x:=by
 obtain⟨i,h⟩:=NA (s:=s) (m:=a.length-b.length) (lb:=b.length) (la:=a.length) Fo Fo hs;have h1:(a.length-b.length+1)*(s+1)<=(a.length-b.length+1)*(s+8):=Zl _ Fo;obtain⟨n,r,r1,r2,d,f,u,X,hu,c⟩:=EH tb hb bb (a.length-b.length+1) a s Fo ta hl e Fo Fo;exact⟨n,r,r1,r2,d,Fz f Fo,Qvs ta tb hb hl r2 d hu c,u,X,hu,c⟩
theorem fF:∀(k:Nat) (a b:U8) (s:Nat),b.length<k->Pr1 a->(b.length=0\/Pr1 b)->Gg b->b.length<a.length->a.length<=60->Bd s a->Bd s b->(s+8)*3^(a.length-1)<=9000000 ->
 ∃n g,GRun n a b g/\Pr1 g/\Ee (cz g) (cz a)/\Ee (cz g) (cz b)/\∀d,Ee d (cz a)->Ee d (cz b)->Ee d (cz g)
 | 0,_,_,_,h,_,_,_,_,_,_,_,_=>Fo
 |
  k+1,a,b,s,hk,pa,pb,tb,hab,hl,ba,bb,hs=>by
  rcases pb with h0|pb
  .rw[Qg h0];exact⟨0,a,.stop a,pa,dvd_refl _,⟨[],λt=>by simp only[cz,X8,ev];grind⟩,λ_ h _=>h⟩
  .have hb:=pb.n;obtain⟨n,r,r1,r2,H,p,_,u,X,hu,o⟩:=dV pa.t tb hb hab hl ba bb hs;obtain⟨B,A⟩:=NA (s:=s) (m:=a.length-b.length) (lb:=b.length) (la:=a.length) Fo Fo hs;obtain⟨p1,p2⟩:=WX r2;obtain⟨_,I,C,c,w,i⟩:=Ly r2;have G:Gg (Gj r):=by
    rcases p2 with h|h
    .rw[Qg h];rfl
    .exact h.t
   obtain⟨j,g,F,q,l,x,D⟩:=fF k b (Gj r) (s+(a.length-b.length+1)*(s+8)) Fo pb p2 G Fo Fo (Fz bb Fo) (C _ p) B;refine⟨j+1,g,.step Fo Fo (Fz bb Fo) r1 Fo (Fz p A) r2 (by rw[H9];exact F),q,?_,l,λd ⟨y,f⟩ ⟨z,hz⟩=>D d ⟨z,hz⟩ ((I7 w i).1 ⟨Ty (Nq u y) (Nq (-1) (Hz X z)),λt=>by
    have a1:=o t;have a2:=f t;have e:=hz t;rw[Gd]at a2 e ⊢;rw[Hg,G8,G8,Gl];have:Gf r t=u*Gf a t-ev X t*Gf b t:=Fu;rw[this,a2,e];grind⟩)⟩
   obtain⟨y,f⟩:=l;obtain⟨z,hz⟩:=x;have v:1 / u*u=1:=Hq hu;refine⟨Nq (1 / u) (Ty (Hz X y) (Nq c z)),λt=>?_⟩;have a1:=o t;have a2:=f t;have e:=hz t;have E:=i t;rw[Gd]at a2 e ⊢;rw[G8,Hg,Gl,G8];have:Gf a t=1 / u*(u*Gf a t):=Fu;rw[this,a1,a2,E,e];grind
theorem Qac{c:Int}(h:c≠0):G5 [1] c=[c]:=by
 show B7 1 _=_;rw[Ot,FA];show(if 1*c=0 then _ else [1*c])=_;rw[Vn,if_neg h]
theorem Qaz(k:Nat)(c:Int)(i:Nat):(Pj k [c]).getD i 0=if i=k then c else 0:=by
 unfold Pj;rw[Qe];rcases V9 i k with h|h|h
 .rw[Zc (by simpa using h),if_neg Fo];simp[h]
 .subst h;rw[Zy Ft];simp
 .rw[Qu Fq,if_neg Fo];rfl
theorem OY:∀(k:Nat) (a q p:U8),a.length<=k->Gg a->a.length<=60->Bd 9000000 a->a.length<=q.length->q.length=p.length->(∀i,i<a.length->a.getD i 0=p.getD i 0)->(∀i,i<a.length->q.getD i 0=0)->(∀i,a.length<=i->q.getD i 0=p.getD i 0)->∃n,DRun [1] n a q p []
 |
  0,a,q,p,h,_,_,_,_,hq,_,_,h3=>by
  have e:=Qg (l:=a) Fo;subst e;have o:q=p:=by
   refine List.ext_getElem hq λi h1 h2=>?_
   have:=h3 i Ft;rw[Qe,Qe,Qf h1,Qf h2]at this;exact this
  rw[o];exact⟨0,.stop Fp⟩
 |
  k+1,a,q,p,h,ta,h6,ba,haq,hq,h1,h2,h3=>by
  by_cases h0:a.length=0
  .exact OY k a q p Fo ta h6 ba haq hq h1 h2 h3
  .have c:G0 a≠0:=Tg ta Fo;have b:G0 [1]=1:=rfl;have m:Mh a (Pj (a.length-1) (G5 [1] (G0 a / G0 [1])))=Mh a (Pj (a.length-1) [G0 a]):=by
    rw[b,Ka,Qac c]
   have g:∀i,(Mh a (Pj (a.length-1) [G0 a])).getD i 0=if i=a.length-1 then 0 else a.getD i 0:=λi=>by
    rw[E6,Qaz]
    split
    .rename_i e;subst e;exact Int.sub_self _
    .rw[Int.sub_zero]
   have ll:(Mh a (Pj (a.length-1) [G0 a])).length<=a.length-1:=by
    refine fP (Gs _ _) (Qa (No _ _) ?_) (by rw[g,if_pos rfl]);rw[HU];simp;omega
   have gz:∀i,(Mh a (Pj (a.length-1) [G0 a])).length<=i->i<a.length-1->a.getD i 0=0:=λi d r=>by
    have:=g i;rw[Rt d,if_neg Fo]at this;exact this.symm
   have j:∀i,(q.set (a.length-1) (G0 a)).getD i 0=if i=a.length-1 then G0 a else q.getD i 0:=λi=>by
    rw[Qe,Ju];by_cases e:a.length-1=i
    .rw[if_pos e,if_pos Fo,if_pos e.symm];rfl
    .rw[if_neg e,if_neg (λh=>e h.symm),Qe]
   have f:G0 a=p.getD (a.length-1) 0:=h1 _ Fo;obtain⟨n,hn⟩:=OY k (Mh a (Pj (a.length-1) [G0 a])) (q.set (a.length-1) (G0 a)) p Fo (Gs _ _) Fo (λz hz=>by
    obtain⟨i,hi⟩:=Xz hz;have e:z=(Mh a (Pj (a.length-1) [G0 a])).getD i 0:=by rw[Qe,hi];rfl
    rw[e,g]
    split
    .exact Qj _
    .exact Gz ba i) (by rw[Xd];omega) (by rw[Xd];exact hq) (λi hi=>by rw[g,if_neg Fo];exact h1 i Fo) (λi hi=>by rw[j,if_neg Fo];exact h2 i Fo) (λi hi=>by
    rw[j]
    split
    .rename_i e;rw[e];exact f
    .rename_i e;by_cases d:a.length<=i
     .exact h3 i d
     .rw[h2 i Fo,<-h1 i Fo,gz i hi Fo])
   refine⟨n+1,.step (by show 1<=a.length;omega) Fo ba Fp (by rw[b];exact Uw _) (by show a.length-1<q.length;omega) ?_⟩;show DRun [1] n (Mh a (Pj (a.length-1) (G5 [1] (G0 a / G0 [1])))) (q.set (a.length-1) (G0 a / G0 [1])) p [];rw[m,b,Ka];exact hn
theorem Qc7{p:U8}(b:Gg p)(hl:p.length<=60)(a:Bd 9000000 p):DOk p [1] p:=by
 obtain⟨n,hn⟩:=OY p.length p (List.replicate (p.length+1-1) 0) p (Ql _) b hl a Ft Ft (λ_ _=>rfl) (λi _=>Tw _ i) (λi hi=>by rw[Tw,Rt hi]);exact⟨Fp,Fp,Fo,b1 Fp,p,[],n,a,Fo,hn,b.symm⟩
theorem Qc2:∀(k:Nat) (pre:U9) (a b:U8) (s:Nat) (L:U9),xU k a b=some L->Gg a->Gg b->b.length<a.length->a.length<=60->Bd s a->Bd s b->(s+8)*3^(a.length-1)<=9000000->pre.length+a.length<=500 ->
 ∃n,CRun n (pre++[a]) b (pre++[a]++L)/\L.length<=b.length
 | 0,_,_,_,_,_,h,_,_,_,_,_,_,_,_=>by cases h
 |
  k+1,pre,a,b,s,L,h,ta,tb,hab,hl,ba,bb,hs,hp=>by
  simp only[xU]at h
  split at h
  .rename_i h0;injection h with h;subst h;rw[Zx];exact⟨0,.stop h0,Ft⟩
  .rename_i h0;obtain⟨r0,c,h⟩:=Qd.1 h;obtain⟨l,d,h⟩:=Qd.1 h;injection h with h;subst h;have i:r0=Rz a b:=by
    unfold xF at c
    split at c
    .injection c with c;exact c.symm
    .cases c
   rw[i]at d;obtain⟨n,r,r1,r2,w,g,q,_⟩:=dV ta tb h0 hab hl ba bb hs;obtain⟨v,u⟩:=NA (s:=s) (m:=a.length-b.length) (lb:=b.length) (la:=a.length) Fo Fo hs;have o:=YJ r;have p:=O2 (Se r);rw[<-q]at d;obtain⟨j,t,x⟩:=Qc2 k (pre++[a]) b (Bt (Se r)) (s+(a.length-b.length+1)*(s+8)) l d tb (Gs _ _) Fo Fo (Fz bb Fo) (RJ (jU g)) v Fq;have f:M3 (pre++[a])=a:=by unfold M3;simp
   refine⟨j+1,.step Fo Fo (Fz bb Fo) (by rw[f];exact r1) r2 (Fz g u) Fo Ft Fq ?_,Fq⟩;have e:pre++[a]++b::l=pre++[a]++[b]++l:=Ft;rw[e];exact t
theorem jO{P g q:U8}(sq:Sqp P g q)(l2:2<=q.length)(J:q.length<=9)(bq:Bd s q)(hs:(s+4+8)*3^8<=9000000){L:U9}(C:xU 66 q (Gj (Hh q))=some L):FRun q 1 (λ_=>q)/\ChRun q q (q::L):=by
 have pq:=sq.pq;have d:(s+4+8)*3^(q.length-1)<=9000000:=Qa (Zl _ (Zp Fp Fo)) hs;have x:s+4<=8000000:=by
  have:(s+4+8)*3^8=(s+4+8)*6561:=rfl;omega
 have E:=P7 q;have bd:Bd (s+4) (Hh q):=PE bq Fo;obtain⟨p1,p2⟩:=WX (r:=Hh q) (Gs _ _);obtain⟨_,I,v,c,H,A⟩:=Ly (a:=Hh q) (Gs _ _);have w:Gg (Gj (Hh q)):=by
  rcases p2 with h|h
  .rw[Qg h];rfl
  .exact h.t
 obtain⟨m,h,F,u,D,y,_⟩:=fF 66 q (Gj (Hh q)) (s+4) Fo pq p2 w Fo Fo (Fz bq Fo) (v _ bd) d;have e:h=[1]:=by
  obtain⟨c',_,o⟩:=sq.num D (by
   obtain⟨z,hz⟩:=y;exact⟨Nq c z,λt=>by
    have:=hz t;rw[Gd]at this;rw[Si,<-C6,A,this,G8];grind⟩)
  refine u.one (Um λh2=>?_);have hd:=FP u.t Fo;have:=Lr (p:=cz h) (q:=[c']) (λt=>by rw[o t];simp only[ev];grind) (h.length-1);rw[Qe (l:=[c']),Qu Fq]at this;exact hd.1 this
 subst e;have b:=C9 pq;have M:Gg [1]:=rfl;have dq:=Qc7 pq.t Fo (Fz bq (by omega:s<=9000000));have fr:FRun q 1 (λ_=>q):=by
  refine⟨⟨1,[q,[1]],?_,rfl,?_⟩,Fp⟩
  .rw[H9,b];refine .step (m:=m) (g:=[1]) (by show 1<q.length;omega) (by show q.length<=1000;omega) (by show Gg q;exact pq.t) (by show Bd 9000000 q;exact Fz bq Fo) (by show Bd 9000000 (Hh q);exact Fz bd Fo) ?_ (by show 1<=1000;decide) ?_
   .show GRun m (Rf q) (Rf (Hh q)) [1];rw[H9,H9,b];exact F
   .exact .stop (by show 1<=1;decide)
  .intro k G;have:k=0:=Fo;subst this;exact⟨q,[1],q,dq,div_one,by rw[H9,b,cY];exact dq,by rw[H9,b]⟩
 obtain⟨n,B,K⟩:=Qc2 66 [] q (Gj (Hh q)) (s+4) L C pq.t w Fo Fo (Fz bq Fo) (v _ bd) d Fq;have hsz:Se (Hh q)=Gj (Hh q):=by
  have j:¬G0 (Hh q)<0:=by
   have h1:G0 (Hh q)=Gp q*((q.length-1:Nat):Int):=by
    have f:(Hh q).length=q.length-1:=by
     refine Vz E (Yc λh=>?_);have h1:=M4 q (q.length-2);rw[Rt Fo,show q.length-2+1=q.length-1 by omega]at h1;have h3:q.getD (q.length-1) 0≠0:=Tg pq.t Fo;rcases J5.1 h1.symm with h4|h4
     .exact h3 h4
     .omega
    unfold G0 Gp;rw[f,M4,show q.length-1-1+1=q.length-1 by omega]
   have:=W7 pq.l (show(0:Int)<((q.length-1:Nat):Int) by omega);omega
  unfold Se;rw[if_neg j,H9]
 refine⟨fr,⟨1,λ_=>q,fr,λi hi=>?_,?_⟩,⟨n,?_⟩,Fz bq Fo,Fo,Fq⟩
 .have:i=0:=Fo;subst this;exact⟨b1 Fp,by show 1<=1000;decide,Fz bq Fo,show q.length<=1000 by omega⟩
 .show q=Hb [1] q;rw[vH pq.t Fo]
 .rw[hsz];exact B
theorem pD{P g q:U8}(sq:Sqp P g q)(l2:2<=q.length)(b:q.length<=9)(bq:Bd s q)(hs:(s+4+8)*3^8<=9000000){L:U9}(a:xU 66 q (Gj (Hh q))=some L):ChRun q q (q::L):=(jO sq l2 b bq hs a).2
theorem Qem(p q:U8)(x:Rat):Gf (p++q) x=Gf p x+x^p.length*Gf q x:=by
 induction p with
 |nil=>simp only[Jn,Gf,Xt,Xo];grind
 |cons a p b=>simp only[Xg,Gf,Q5,b,Xi];grind
theorem oL(k:Nat)(x:Rat):Gf (List.replicate k 0) x=0:=by
 induction k with
 |zero=>rfl
 |succ k a=>rw[J4];simp only[Gf,a];push_cast;grind
theorem oC(k:Nat)(p:U8)(x:Rat):Gf (Pj k p) x=x^k*Gf p x:=by
 unfold Pj;rw[Qem,oL,Ji];grind
theorem Qc9{b:U8}(tb:Gg b)(hb:b.length≠0)(lb:b.length<=60){s t:Nat}(bb:Bd t b)(C:t+s+6<=9000000):∀(k:Nat) (a h q H:U8),h.length<=k->Gg a->Gg h->(∀x,Gf a x=Gf b x*Gf h x)->a.length<=60->Bd s h->h.length<=q.length->q.length=H.length->(∀i,i<h.length->h.getD i 0=H.getD i 0)->(∀i,i<h.length->q.getD i 0=0)->(∀i,h.length<=i->q.getD i 0=H.getD i 0)->∃n,DRun b n a q H []
 |
  k,a,[],q,H,_,ta,_,e,_,_,_,hq,_,_,h3=>by
  have E:a=[]:=UT ta rfl λx=>by rw[e];simp only[Gf];grind
  have N:q=H:=Xu λi=>by
   by_cases hi:i<q.length
   .have:=h3 i (Qj _);rw[Qe,Qe,Qf hi,Qf Fo]at this;rw[Qf hi,Qf Fo];exact congrArg some this
   .rw[Qu Fo,Qu Fo]
  rw[E,N];exact⟨0,.stop (by show 0<b.length;omega)⟩
 | 0,a,c::h,q,H,hk,_,_,_,_,_,_,_,_,_,_=>by simp at hk
 |
  k+1,a,c0::h0,q,H,hk,ta,th,e,hl,bh,hlq,hq,h1,h2,h3=>by
  obtain⟨h,G⟩:=nmE (c0::h0);rw[<-G]at hk th e bh hlq h1 h2 h3;have f:0<h.length:=by rw[G];simp
  have K:a.length≠0:=λg=>by
   have:=IT (p:=cz b) (q:=cz h) (r:=[]) (λh0=>YN tb Fo λt=>by rw[<-Gd];exact h0 t) (λt=>by rw[Gd,Gd,<-e,Dq g];simp only[ev];grind);exact YN th f λt=>by rw[<-Gd];have:=this t;rw[this];rfl
  have M:=Sx tb th ta e Fo f;have B:=KW tb th ta e Fo f;have w:=Do tb hb;obtain⟨m,hm⟩:=nmE (h.length-1);have o:G0 a / G0 b=Gp h:=by
   show Gp a / Gp b=_;rw[B,Jf _ w]
  have y:a.length-b.length=m:=Fo;have E:a=Hb b h:=UT ta (Hf _ _) λx=>by rw[e,Gx]
  have L:Bd 9000000 a:=by rw[E];exact Fz (Mv (u:=6) bb bh Fo) C
  obtain⟨g,d⟩:∃g,g=trim (h.take m):=⟨_,rfl⟩;have D:(h.take m).length=m:=by rw[Qt];omega
  have j:h=h.take m++[Gp h]:=by
   have:h.drop m=[Gp h]:=by
    have v:m<h.length:=Fo;rw[Zo v,Yq Fo];unfold Gp;rw[Qe,<-hm,Qf v];rfl
   rw[<-this,Zi]
  have J:∀x,Gf h x=Gf g x+x^m*(Gp h:Rat):=λx=>by
   have:=congrArg (Gf · x) j;rw[Qem,D]at this;rw[this,d,O9];simp only[Gf];grind
  have F:∀i,i<m->g.getD i 0=h.getD i 0:=λi hi=>by
   rw[d,E7,Qe,Vp hi,<-Qe]
  have I:∀i,m<=i->g.getD i 0=0:=λi hi=>by
   rw[d,E7];exact Rt Fo
  have P:g.length<=m:=by rw[d];exact Qa (Tu _) Fo
  have O:∀i,i<h.length->g.length<=i->i≠m->H.getD i 0=0:=λi hi hi' Q=>by
   rw[<-h1 i hi,<-F i Fo];exact Rt hi'
  obtain⟨n,hn⟩:=Qc9 tb hb lb bb C k (Mh a (Pj (a.length-b.length) (G5 b (G0 a / G0 b)))) g (q.set (a.length-b.length) (G0 a / G0 b)) H Fo (Gs _ _) (by rw[d];exact Tp _) (λx=>by
   rw[Bs,oC,Tn,o,y,e,J];grind)
   (by
    have l1:=No a (Pj (a.length-b.length) (G5 b (G0 a / G0 b)));have l2:=Ha b (G0 a / G0 b);rw[HU]at l1;omega)
   (by rw[d];exact Pv λz hz=>bh z (Qn hz)) (by rw[Xd];omega) (by rw[Xd];omega)
   (λi hi=>by rw[F i Fo];exact h1 i Fo)
   (λi hi=>by
    rw[Qe,Ju,if_neg Fo,<-Qe];exact h2 i Fo)
   (λi hi=>by
    rw[Qe,Ju,y,o];by_cases l:m=i
    .rw[if_pos l,if_pos Fo];show Gp h=_;rw[<-h1 i Fo,<-l,hm];rfl
    .rw[if_neg l,<-Qe];by_cases A:i<h.length
     .rw[h2 i A,O i A hi (λe=>l e.symm)]
     .exact h3 i Fo)
  refine⟨n+1,.step Fo Fo L w ?_ Fo hn⟩;show Gp b∣Gp a;rw[B];exact V7 _ _
theorem aA{a b h:U8}(ta:Gg a)(tb:Gg b)(c:Gg h)(hb:b.length≠0)(l:h.length≠0)(e:∀x,Gf a x=Gf b x*Gf h x)(la:a.length<=60){s t:Nat}(bb:Bd t b)(f:Bd s h)(d:t+s+6<=9000000):DOk a b h:=by
 have g:a.length≠0:=λj=>by
  have:=IT (p:=cz b) (q:=cz h) (r:=[]) (λh0=>YN tb Fo λt=>by rw[<-Gd];exact h0 t) (λt=>by rw[Gd,Gd,<-e,Dq j];simp only[ev];grind);exact YN c Fo λt=>by rw[<-Gd];have:=this t;rw[this];rfl
 have k:=Sx tb c ta e Fo Fo;obtain⟨n,hn⟩:=Qc9 tb hb Fo bb d h.length a h (List.replicate (a.length+1-b.length) 0) h (Ql _) ta c e la f Fq Fq (λ_ _=>rfl) (λi _=>Tw _ i) (λi hi=>by rw[Tw,Rt hi]);exact⟨Fo,Fo,Fo,Fz bb Fo,h,[],n,Fz f Fo,Fo,hn,c.symm⟩
theorem iJ{p q:U8}(hp:Pr1 p)(a:Pr1 q)(h1:Ee (cz p) (cz q))(h2:Ee (cz q) (cz p)):p=q:=by
 obtain⟨u,g,e⟩:=BD hp.m h1;obtain⟨v,j,d⟩:=BD a.m h2;obtain⟨a1,a2⟩:=Rv a.t a.n e;obtain⟨b1,i⟩:=Rv hp.t hp.n d;have l1:=Sx hp.t g a.t e a1 a2;have l2:=Sx a.t j hp.t d b1 i;obtain⟨c,rfl⟩:∃c,u=[c]:=V3.1 Fo;have hl:=KW hp.t g a.t e a1 a2;have f:=hp.l;have b:=a.l;have hc:0<c:=by
  rw[hl]at b;have:Gp [c]=c:=rfl;rw[this]at b;rcases Ym c 0 with h|h|h
  .have:=Vl f h;omega
  .rw[h]at b;omega
  .exact h
 refine(NR a.t hp.t a.m hp.m (c:=(c:Rat)) (by exact_mod_cast hc) λt=>?_).symm;rw[e];simp only[Gf];grind
theorem Qm8{g h w:U8}{s:Nat}(sq:Sqp g h w)(l2:2<=g.length)(F:g.length<=9)(j:Bd s g)(hs:(s+4+8)*3^8<=9000000):∃n,GRun n (Rf g) (Rf (Hh g)) h:=by
 have pg:=sq.pp;have b:(s+4+8)*3^(g.length-1)<=9000000:=Qa (Zl _ (Zp Fp Fo)) hs;have E:=P7 g;have bd:Bd (s+4) (Hh g):=PE j Fo;obtain⟨p1,p2⟩:=WX (r:=Hh g) (Gs _ _);obtain⟨_,D,u,c,l,i⟩:=Ly (a:=Hh g) (Gs _ _);have C:Gg (Gj (Hh g)):=by
  rcases p2 with h|h
  .rw[Qg h];rfl
  .exact h.t
 obtain⟨m,B,A,k,q,o,v⟩:=fF 66 g (Gj (Hh g)) (s+4) Fo pg p2 C Fo Fo (Fz j Fo) (u _ bd) b;have e:B=h:=by
  refine iJ k sq.pg ?_ (v _ ⟨cz w,λt=>by rw[Gd,Gd,Gd,sq.e]⟩ ?_)
  .obtain⟨U,V,hc⟩:=sq.c;obtain⟨y,p⟩:=q;obtain⟨z,hz⟩:=o;refine⟨Ty (Hz U y) (Nq c (Hz V z)),λt=>?_⟩;have a1:=hc t;have a2:=p t;have f:=hz t;have x:=i t;rw[Gd]at a2 f ⊢;rw[Hg,Gl,G8,Gl,a1,<-C6,x,a2,f];grind
  .obtain⟨z,hz⟩:=sq.d;exact(I7 l i).1 ⟨z,λt=>by rw[Gd,Gd,C6,hz]⟩
 rw[H9,H9,C9 pg,<-e];exact⟨m,A⟩
theorem Qd1{s:Nat}(hz:Szz 9 (s+73))(b:(s+69+4+8)*3^8<=9000000){p0:U8}(b0:Bd s p0)(l0:p0.length<=10)(j:Gg p0)(f:p0.length≠0):∀(k:Nat) (g h0:U8) (pre:U9),Pr1 g->g.length<=k->g.length<=9->Gg h0->(∀t,Gf p0 t=Gf h0 t*Gf g t)->pre.length+g.length<=500 ->
 ∃ws gs n,YO k g=some ws/\LW g ws/\LRun n (pre++[g]) (pre++gs)/\gs.length=ws.length+1/\ws.length<g.length/\gs.getD 0 []=g/\gs.getD ws.length []=[1]/\∀i,i<ws.length->Sqp (gs.getD i []) (gs.getD (i+1) []) (ws.getD i [])
 | 0,g,_,_,pg,hk,_,_,_,_=>absurd pg.n Fo
 |
  k+1,g,h0,pre,pg,hk,hn,th0,e0,hp=>by
  simp only[YO];by_cases h2:g.length<2
  .have e:=pg.one h2;rw[if_pos h2,e];exact⟨[],[[1]],0,rfl,.nil,.stop (by unfold M3;simp),rfl,Fp,rfl,rfl,λi hi=>absurd hi (Nat.not_lt_zero i)⟩
  .rw[if_neg h2];have d:Bd (s+69) g:=Ex b0 l0 j pg.t th0 f λt=>by rw[e0];grind
   obtain⟨h,w,h3,h4,h5,c,v⟩:=tJ hz pg Fo hn d b0 l0 j th0 f e0;obtain⟨ws,gs,n,i1,i2,i3,l,u,p,o,q⟩:=Qd1 hz b b0 l0 j f k h (Hb h0 w) (pre++[g]) c.pg Fo Fo (Hf _ _) (λt=>by rw[e0,Gx,c.e];grind) Fq;obtain⟨m,hm⟩:=Qm8 c Fo hn d b;have a:M3 (pre++[g])=g:=by unfold M3;simp
   have r:s+69+4<=9000000:=by
    have:(s+69+4+8)*3^8=(s+69+4+8)*6561:=rfl;omega
   refine⟨w::ws,g::gs,n+1,?_,.cons c i2,.step (by rw[a];omega) (by rw[a];omega) (by rw[a];exact pg.t) (by rw[a];exact Fz d Fo) (by rw[a];exact Fz (PE d Fo) Fo) (by rw[a];exact hm) Fq ?_,by simp[l],Fq,rfl,?_,?_⟩
   .rw[h3];show(XI g (Hh g)).bind _=_;rw[h4];show(XA g h).bind _=_;rw[h5];show(YO k h).bind _=_;rw[i1];rfl
   .have e:pre++g::gs=pre++[g]++gs:=Ft;rw[e];exact i3
   .rw[Q5,Q4];exact o
   .intro i hi;cases i with
    |zero=>rw[Zu,Q4,Zu,p];exact c
    |
     succ i =>
     rw[Q4,Q4,Q4];exact q i (by simpa using hi)
def B9(f:Nat->U8):Nat->U8
 | 0=>[1]
 |i+1=>if i % 2=0 then Hb (B9 f i) (f i)else B9 f i
theorem Qdy:∀{ws fs:U9},Lay (ws.map cz) (fs.map cz)->fs.length=ws.length/\∀i,i<ws.length->∀t,Gf (ws.getD i []) t=Gf (fs.getD i []) t*Gf ((ws++[[1]]).getD (i+1) []) t
 | [],[],_=>⟨rfl,λi h=>absurd h (Ut i)⟩
 | [],f::fs,h=>h.elim
 |
  [w],[f],h=>⟨rfl,λi hi t=>by
  have hi:i<1:=hi;obtain rfl:i=0:=Fo;have:=h t;rw[Gd,Gd]at this;show Gf w t=Gf f t*Gf [1] t;rw[Rx,this];grind⟩
 | [w],[],h=>h.elim
 | [w],_::_::_,h=>h.elim
 |
  w::v::ws,f::fs,h=>by
  obtain⟨h1,h2⟩:=h;obtain⟨i1,i2⟩:=Qdy (ws:=v::ws) (fs:=fs) h2;refine⟨by simp only[Q5]at i1 ⊢;omega,λi hi t=>?_⟩;cases i with
  |
   zero =>
   have:=h1 t;rw[Gd,Gd,Gd]at this;exact this
  |succ i=>exact i2 i (by simpa using hi) t
 |w::v::ws,[],h=>h.elim
theorem oG{f:Nat->U8}:∀(fs:U9) (i:Nat) (o:U8),VZ i (B9 f i) fs=some o->(∀j,j<fs.length->fs.getD j []=f (i+j))->o=B9 f (i+fs.length)
 | [],i,o,h,_=>by injection h with h;exact h.symm
 |
  g::fs,i,o,h,hf=>by
  have h0:=hf 0 Ft;have hn:∀j,j<fs.length->fs.getD j []=f (i+1+j):=λj b=>by
   have:=hf (j+1) (by simpa using b);rw[Q4]at this;rw[this];congr 1;omega
  have e:i+(g::fs).length=i+1+fs.length:=Fq;rw[e];by_cases hi:i % 2=0
  .simp only[VZ]at h;rw[if_pos hi]at h;obtain⟨q,a,h⟩:=Qd.1 h;have a:=uM a;refine oG fs (i+1) o ?_ hn;have:B9 f (i+1)=q:=by
    simp only[B9];rw[if_pos hi,a];congr 1;exact h0.symm
   rw[this];exact h
  .simp only[VZ]at h;rw[if_neg hi]at h;refine oG fs (i+1) o ?_ hn;have:B9 f (i+1)=B9 f i:=by simp only[B9];rw[if_neg hi]
   rw[this];exact h
theorem tY{p:U8}{w:U8}{ws:U9}(h2:¬(Gj p).length<2)(h:YO 66 (Gj p)=some (w::ws)):Ma p=some w:=by
 have a:(if (Gj p).length<2 then some []else(xF (Hh (Gj p))).bind λd=>(XI (Gj p) d).bind λh=>(XA (Gj p) h).bind λw=>(YO 65 h).bind λl=>some (w::l))=some (w::ws):=h;rw[if_neg h2]at a;unfold Ma;rw[if_neg h2];obtain⟨d,c,a⟩:=Qd.1 a;obtain⟨h,b,a⟩:=Qd.1 a;obtain⟨w',e,a⟩:=Qd.1 a;obtain⟨l,f,a⟩:=Qd.1 a;injection a with a;injection a with a _;rw[c];show(XI (Gj p) d).bind _=_;rw[b];show XA (Gj p) h=_;rw[e,a]
theorem Qdl{s:Nat}{p:U8}(h:Okp 9 s p)(l2:2<=p.length)(V:(s+69+4+8)*3^8<=9000000) :
 ∃m f,1<=m/\m<=9/\FRun p m f/\Qiy m f/\Ma p=some (Na f m)/\DC p=some (B9 f m)/\Pr1 (B9 f m)/\∀i,i<=m->Bd 9000000 (B9 f i)/\(B9 f i).length<=1000:=by
 obtain⟨pp,hl,hb⟩:=h.pr;have hpl:=h.l;have hss:=Qff h.z;have h9:s+69+4+8<=1371:=by
  have:(s+69+4+8)*3^8=(s+69+4+8)*6561:=rfl;omega
 obtain⟨ws,d,n,i1,i2,i3,i4,i5,i6,P,J⟩:=Qd1 h.z V hb Fo pp.t pp.n 66 (Gj p) [1] [] pp Fo Fo rfl (λt=>by rw[Rx];grind) Fq;rw[Jn,Jn]at i3;obtain⟨fs,f1,f2,f3⟩:=iY hb Fo pp.t pp.n Fo ws (Gj p) [1] i2 rfl λt=>by rw[Rx];grind
 obtain⟨o1,o2⟩:=Qdy f2;obtain⟨m,hm⟩:=nmE (ws.length);obtain⟨f,Y⟩:∃f:Nat->U8,f=λi=>fs.getD i []:=⟨_,rfl⟩
 obtain⟨v,hv⟩:∃v:Nat->U8,v=λi=>(ws++[[1]]).getD i []:=⟨_,rfl⟩
 have Z:1<=m:=by
  rcases Q0 m with e|e
  .exfalso;have:ws=[]:=Qg Fo;rw[this]at P;have:d.getD 0 []=[1]:=P;rw[i6]at this;rw[this]at hl;simp at hl;omega
  .exact e
 have B:∀i,i<m->v i=ws.getD i []:=λi hi=>by
  rw[hv];dsimp only;rw[Qe,Zc Fo,<-Qe]
 have S:v m=[1]:=by
  rw[hv];dsimp only;rw[Qe,hm,Zy (Ql _)];simp
 have NK:Pr1 [1]:=one_sqp.pp;have x:∀i,i<=m->Pr1 (v i):=λi hi=>by
  rcases Q7 i m with h|h
  .rw[B i h];exact(J i Fo).pq
  .rw[show i=m by omega,S];exact NK
 have R:∀i,i<m->∀t,Gf (v i) t=Gf (v (i+1)) t*Gf (f i) t:=λi hi t=>by
  rw[B i hi,o2 i Fo t,Y,hv];dsimp only;grind
 have N:∀i,i<m->Pr1 (f i):=λi hi=>by
  refine Qeu (x i Fo) (x (i+1) Fo).l (x (i+1) Fo).t ?_ (R i hi);have:fs.getD i []∈fs:=by
   rw[Qe,Qf (show i<fs.length by omega)];exact Xs _
  rw[Y];exact f3 _ this
 have gp:∀i,i<=m->∃H,Gg H/\∀t,Gf (Gj p) t=Gf (d.getD i []) t*Gf H t:=λi=>by
  induction i with
  |zero=>intro _;exact⟨[1],rfl,λt=>by rw[i6,Rx];grind⟩
  |
   succ i ih =>
   intro hi;obtain⟨H,r,c⟩:=ih Fo;exact⟨Hb H (ws.getD i []),Hf _ _,λt=>by rw[c,Gx,(J i Fo).e];grind⟩
 have T:∀i,i<=m->Pr1 (d.getD i []):=λi hi=>by
  rcases Q7 i m with h|h
  .exact(J i Fo).pp
  .rw[show i=ws.length by omega,P];exact NK
 have I:∀i,i<=m->∃H,Gg H/\∀t,Gf (Gj p) t=Gf (v i) t*Gf H t:=λi hi=>by
  rcases Q7 i m with h|h
  .obtain⟨H,r,c⟩:=gp i hi;exact⟨Hb H (d.getD (i+1) []),Hf _ _,λt=>by rw[c,B i h,Gx,(J i Fo).e];grind⟩
  .exact⟨Gj p,pp.t,λt=>by rw[show i=m by omega,S,Rx];grind⟩
 have sz:∀{a H:U8},Gg a->Gg H->(∀t,Gf (Gj p) t=Gf a t*Gf H t)->Bd (s+69) a/\a.length<=9:=λ{a H} ta r e=>by
  obtain⟨p1,p2⟩:=Rv pp.t pp.n e;have:=Sx ta r pp.t e p1 p2;exact⟨Ex hb Fo pp.t ta r pp.n e,Fo⟩
 have C:∀i,i<=m->Bd (s+69) (d.getD i [])/\(d.getD i []).length<=9:=λi hi=>by
  obtain⟨H,r,c⟩:=gp i hi;exact sz (T i hi).t r c
 have L:∀i,i<=m->Bd (s+69) (v i)/\(v i).length<=9:=λi hi=>by
  obtain⟨H,r,c⟩:=I i hi;exact sz (x i hi).t r c
 have M:∀i,i<m->Bd (s+69) (f i)/\(f i).length<=9:=λi hi=>by
  obtain⟨H,r,c⟩:=I i Fo;exact sz (H:=Hb H (v (i+1))) (N i hi).t (Hf _ _) λt=>by rw[c,R i hi,Gx];grind
 have pv:∀i,i<=m->Gg (Na f i)/\∀t,Gf (Na f i) t*Gf (v i) t=Gf (v 0) t:=λi=>by
  induction i with
  |zero=>intro _;exact⟨rfl,λt=>by simp only[Na];rw[Rx];grind⟩
  |
   succ i ih =>
   intro hi;obtain⟨y,A⟩:=ih Fo;exact⟨Hf _ _,λt=>by rw[<-A t,R i Fo];simp only[Na];rw[Gx];grind⟩
 have U:∀i,i<=m->Bd (s+69) (Na f i)/\(Na f i).length<=9:=λi hi=>by
  obtain⟨H,r,c⟩:=I 0 Fo;obtain⟨y,A⟩:=pv i hi;exact sz (H:=Hb (v i) H) y (Hf _ _) λt=>by rw[c,Gx,<-A t];grind
 have ov:∀i,i<=m->Gg (B9 f i)/\0<Gp (B9 f i)/\∃E,Gg E/\∀t,Gf (Na f i) t=Gf (B9 f i) t*Gf E t:=λi=>by
  induction i with
  |zero=>intro _;exact⟨rfl,(show 0<Gp [1] by decide),[1],rfl,λt=>by simp only[Na,B9];rw[Rx];grind⟩
  |
   succ i ih =>
   intro hi;obtain⟨y,G,E,A,D⟩:=ih Fo;simp only[B9,Na];by_cases h2:i % 2=0
   .rw[if_pos h2];have hne:0<(B9 f i).length:=by
     rcases Q0 (B9 f i).length with e|e
     .rw[Qg e]at G;exact absurd G Fp
     .exact e
    have f1:=N i Fo;have:=KW y f1.t (Hf _ _) (λt=>Gx (B9 f i) (f i) t) hne (by have:=f1.n;omega);exact⟨Hf _ _,by rw[this];exact W7 G f1.l,E,A,λt=>by rw[Gx,Gx,D];grind⟩
   .rw[if_neg h2];exact⟨y,G,Hb E (f i),Hf _ _,λt=>by rw[Gx,Gx,D];grind⟩
 refine⟨m,f,Z,Fo,⟨⟨n,d,by rw[H9];exact i3,Fo,λk F=>?_⟩,Fo⟩,λi hi=>?_,?_,?_,?_,λi hi=>?_⟩
 .have ga:(d++[[1]]).getD k []=d.getD k []:=by rw[Qe,Zc Fo,<-Qe]
  have gb:(d++[[1]]).getD (k+1) []=d.getD (k+1) []:=by rw[Qe,Zc Fo,<-Qe]
  rw[ga,gb];have O:=J k Fo;have a1:=C k Fo;have a2:=C (k+1) Fo;have a3:=L k Fo;have a4:=L (k+1) Fo;have a5:=M k F;have nz:∀{q},Pr1 q->q.length≠0:=λh=>h.n
  refine⟨v k,v (k+1),f k,?_,?_,?_,?_⟩
  .exact aA O.pp.t O.pg.t (x k Fo).t O.pg.n (x k Fo).n (λt=>by rw[B k F];exact O.e t) Fo a2.1 a3.1 Fo
  .rcases Q7 (k+1) m with h|h
   .have gc:(d++[[1]]).getD (k+2) []=d.getD (k+2) []:=by rw[Qe,Zc Fo,<-Qe]
    have Q:=J (k+1) Fo;rw[gc];exact aA Q.pp.t Q.pg.t (x (k+1) Fo).t Q.pg.n (x (k+1) Fo).n (λt=>by rw[B (k+1) h];exact Q.e t) Fo (C (k+2) Fo).1 a4.1 Fo
   .have gc:(d++[[1]]).getD (k+2) []=[1]:=by
     rw[Qe,Zy Fo];rw[show k+2-d.length=0 by omega];rfl
    rw[gc,show k+1=m by omega,S,hm,P];exact Qc7 rfl Fp (b1 Fp)
  .rw[H9,H9,C9 (x k Fo),C9 (x (k+1) Fo)];exact aA (x k Fo).t (x (k+1) Fo).t (N k F).t (x (k+1) Fo).n (N k F).n (R k F) Fo a4.1 a5.1 Fo
  .rw[H9,C9 (N k F)]
 .have a:=U i Fo;have b:=M i hi;exact⟨Fz a.1 Fo,Fo,Fz b.1 Fo,Fo⟩
 .have e0:Na f m=v 0:=by
   obtain⟨y,A⟩:=pv m (Ql _);exact UT y (x 0 Fo).t λt=>by rw[<-A t,S,Rx];grind
  rw[e0,B 0 Fo];cases ws with
  |nil=>simp at hm;omega
  |cons w ws=>exact tY Fo i1
 .unfold DC;rw[if_neg Fo,i1];show(DF ws).bind _=_;rw[f1];show VZ 0 [1] fs=_;obtain⟨E0,X,hE0⟩:∃E,Gg E/\∀t,Gf (Gj p) t=Gf [1] t*Gf (Cj fs) t*Gf E t:=by
   obtain⟨q,o,W,K,pt⟩:=rQ h;unfold DC at K;rw[if_neg Fo,i1]at K;have K:(DF ws).bind _=_:=K;rw[f1]at K;obtain⟨H,r,c⟩:=pt.oh;cases ws with
   |nil=>simp at hm;omega
   |
    cons w ws' =>
    obtain⟨E,tE,eE⟩:=MP f2 f3 λu hu=>(qU i2 u hu).1.t
    obtain⟨H,r,c⟩:=I 0 Fo;exact⟨Hb E H,Hf _ _,λt=>by
     have:=eE t;have e0:v 0=w:=B 0 Fo;rw[c,e0,this,Rx,Gx];grind⟩
  obtain⟨o,W,_,_⟩:=YU hb Fo pp.t pp.n Fo fs 0 [1] E0 rfl rfl X f3 hE0;have:=oG (f:=f) fs 0 o W λj hj=>by rw[Y,Zw]
  rw[W,this,Zw,o1,<-hm]
 .obtain⟨y,G,E,A,D⟩:=ov m (Ql _);obtain⟨H,r,c⟩:=I 0 Fo;obtain⟨u1,u2⟩:=pv m (Ql _);exact⟨y,Qew (g:=Hb E (Hb (v m) H)) pp.m λt=>by rw[c,Gx,Gx,<-u2 t,D];grind,G⟩
 .obtain⟨y,_,E,A,D⟩:=ov i hi;obtain⟨H,r,c⟩:=I 0 Fo;obtain⟨u1,u2⟩:=pv i hi;have:=sz (H:=Hb E (Hb (v i) H)) y (Hf _ _) λt=>by rw[c,Gx,Gx,<-u2 t,D];grind
  exact⟨Fz this.1 Fo,Fo⟩
def crR(C:U9)(p:U8)(lo hi t:Rat):Int :=
 if Hu lo hi=0 then Hu lo t else if Hu t lo<=0 then 1 else if 0<Hu t hi then -1 else if Hw C lo t=0 then 1 else if Hp p t=0 then 0 else -1
theorem Qzy{p:U8}{C:U9}{lo hi:Rat}(V:Vt (cz p) (C.map cz) lo hi)(q:Rat):crR C p lo hi q=cq (cz p) lo hi q:=by
 have hl:=V.l;unfold crR;rw[if_neg (λh=>by have:=Rh.1 h;grind)];rcases Classical.em (q<=lo)with h1|h1
 .rw[if_pos (Dm.2 h1),Cf h1]
 rw[if_neg (λh=>h1 (Dm.1 h))];rcases Classical.em (hi<q)with h2|h2
 .rw[if_pos (Dl.2 h2),VP hl h2]
 rw[if_neg (λh=>h2 (Dl.1 h))];have c:lo<q:=Jp.1 h1;have d:q<=hi:=Ug.1 h2;rw[Nb (Qq c),M7];rcases V.two c d with⟨a,b,_⟩|⟨a,b,_⟩
 .rw[if_pos (by rw[a];omega),b]
 .rw[if_neg (by have:=V.v;omega)];rw[A7 c d,Gd]at *
  split
  .rfl
  .rename_i h0;rw[if_neg h0]at b
   split at b
   .exact absurd rfl b
   .rename_i e;rw[if_neg e]
theorem Qzx{p:U8}{C:U9}(x q:Rat):crR C p x x q=Hu x q:=by
 unfold crR;rw[if_pos (Rh.2 rfl)]
end Orq
namespace Orr
open Go Go.Proofs Tryz Orq
set_option maxRecDepth 10000
abbrev ax(p:U8)(C:U9)(lo hi:Rat):Fe:=[rp (zp p),.row (xW C)]++fr lo++fr hi
variable{p:U8}
theorem nK{sg:U8->Int}{l:U9}{i:Nat}(h:l[i]? = some p):(idl (l.map sg))[i]? = some [.int .i64 (sg p)]:=TS (by rw[Q9,h];rfl)
theorem Qk9{l:U9}{sg:U8->Int}(hl:l.length<=1000)(hs:∀p,-1<=sg p/\sg p<=1):U5 207 [.one (.row (idl (l.map sg)))] [.oi (De sg l:Nat)]:=by
 have c:(idl (l.map sg)).length=l.length:=Ft;refine G7 func207 rfl ?_;refine Ux [] rfl ?_;refine U4 (S:=Nat) 0 (λL1 i=>(8,.v (.oi i))::(3,.v (.oi ((Oi sg l i).1:Int)))::(4,.v (.one (.int .i64 (Oi sg l i).2)))::L1) (λ_=>[]) (λi=>l.length-i) (λi=>i<=l.length) 0 (Qj _) rfl rfl λi hi=>?_
 by_cases a:i<l.length
 .obtain⟨p,hp⟩:=gxE (l:=l) (i:=i) a;have b:Oi sg l (i+1)=Pf sg (Oi sg l i) p:=Ph _ _ _ hp;obtain⟨b1,e,h⟩:=xJ hs l i;have d:=hs p;have hx:=nK (sg:=sg) hp;have ht:decide ((i:Int)<((idl (l.map sg)).length:Int))=true:=decide_eq_true Fo;by_cases h0:sg p=0
  .refine Uy [.t ht,.x hx,.f (by simpa using h0)] rfl ?_;exact rd (i+1) Fo a (by rw[b,show Pf sg (Oi sg l i) p=Oi sg l i from by unfold Pf;rw[if_pos h0]];rfl)
  .by_cases h2:(Oi sg l i).2=0
   .refine Uy [.t ht,.x hx,.t (by simpa using h0),.g 18 false (by simp[h2]),.f rfl,.x hx] rfl ?_;exact rd (i+1) Fo a (by rw[b,show Pf sg (Oi sg l i) p=((Oi sg l i).1,sg p) from by unfold Pf;rw[if_neg h0,if_neg Fo]];rfl)
   .by_cases h1:(Oi sg l i).2=-(sg p)
    .refine Uy [.t ht,.x hx,.t (by simpa using h0),.g 18 true (by simpa using h2),.x hx,.t Fq,.x hx] rfl ?_;exact rd (i+1) Fo a (by rw[b,show Pf sg (Oi sg l i) p=((Oi sg l i).1+1,sg p) from by unfold Pf;rw[if_neg h0,if_pos h1]];rfl)
    .refine Uy [.t ht,.x hx,.t (by simpa using h0),.g 18 true (by simpa using h2),.x hx,.f Fq,.x hx] rfl ?_;exact rd (i+1) Fo a (by rw[b,show Pf sg (Oi sg l i) p=((Oi sg l i).1,sg p) from by unfold Pf;rw[if_neg h0,if_neg h1]];rfl)
 .obtain rfl:i=l.length:=Fo;refine Uz [.F] rfl ?_ trivial;unfold Oi De;rw[List.take_length]
def Cok(C:U9):Prop:=C.length≤1000/\∀p∈C,Bd 9000000 p/\p.length≤64
variable{C:U9}
theorem IG{q:Rat}(c:Cok C)(b:Qs 2000000 q):U5 159 [.one (.row (xW C)),.agg (fr q)] [.oi (Mw C q:Nat)]:=by
 obtain⟨hl,hp⟩:=c;have d:=I6 C;refine G7 func159 rfl ?_;refine Ux [.o 5 3 1] rfl ?_;refine U4 (S:=Nat) 2 (λL1 i=>(9,.v (.oi i))::(5,.v (.one (.orow 1 1 none)))::L1) (λi=>[.blk 52 (fr q),.row false 3 1 (idl ((C.take i).map λp=>Hp p q))]) (λi=>C.length-i) (λi=>i<=C.length) 0 (Qj _) rfl rfl λi hi=>?_
 have a:(idl ((C.take i).map λp=>Hp p q)).length=i:=Fq;by_cases h:i<C.length
 .have hx:=YM h;have hm:=Xs h;have he:C.getD i []=C[i]:=by rw[Qe,Qf h];rfl
  rw[he]at hx;have cs:=RL (Fz (hp _ hm).1 Fp) (hp _ hm).2 b;have hg:idl ((C.take (i+1)).map λp=>Hp p q)=idl ((C.take i).map λp=>Hp p q)++[[.int .i64 (Hp C[i] q)]]:=by
   have e:(C.take (i+1)).map (λp=>Hp p q)=(C.take i).map (λp=>Hp p q)++[Hp C[i] q]:=by rw[Zv,Qf h,Jx];rfl
   rw[e];exact Jx
  refine go tt [.T,.x hx,.k cs,.s (sz:=1) (NK _)] rfl (by simp[Gi,a,-List.map_take];omega) ?_;exact rd (i+1) Fo h (by rw[hg];rfl)
 .have e:i=C.length:=Fo;rw[e,Q6];exact Uz [.F,.p 1,.k (Qk9 (sg:=λp=>Hp p q) hl λp=>Lz p q)] rfl
theorem Du{lo hi:Rat}(a:Cok C)(ql:Qs 2000000 lo)(qh:Qs 2000000 hi):U5 90 [.one (.row (xW C)),.agg (fr lo),.agg (fr hi)] [.oi (Hw C lo hi)]:=by
 have b1:Mw C lo<=C.length:=Df (λp=>Lz p lo) C;have c:Mw C hi<=C.length:=Df (λp=>Lz p hi) C;have hl:=a.1;have b:=Lp (qh.mono Fp) (ql.mono Fp);unfold Hw;by_cases h:Hu hi lo<0
 .rw[if_pos h];exact U0 func90 rfl [.k b,.t (by simpa using h)] rfl
 .rw[if_neg h];exact U0 func90 rfl [.k b,.f (by simpa using h),.k (IG a ql),.k (IG a qh)] rfl rfl Fw
theorem pF{lo hi:Rat}(ql:Qs 2000000 lo)(qh:Qs 2000000 hi):U5 43 [.agg (ax p C lo hi)] [.one (.bool (decide (Hu lo hi=0)))] :=
 U0 func43 rfl [.k (Lp (ql.mono Fp) (qh.mono Fp))] rfl
theorem Qgj{lo hi t:Rat}(hp:Bd 30000000 p)(e:p.length<=64)(h:Cok C)(ql:Qs 2000000 lo)(qh:Qs 2000000 hi)(a:Qs 2000000 t):U5 44 [.agg (ax p C lo hi),.agg (fr t)] [.oi (crR C p lo hi t)]:=by
 have c0:=pF (p:=p) (C:=C) ql qh;have i:=Lp (ql.mono (t:=40000000) Fp) (a.mono Fp);have b:=Lp (a.mono (t:=40000000) Fp) (ql.mono Fp);have c:=Lp (a.mono (t:=40000000) Fp) (qh.mono Fp);have d:=Du h ql a;have g:=RL hp e a;unfold crR;by_cases h0:Hu lo hi=0
 .rw[if_pos h0];exact U0 func44 rfl [.k c0,.t (decide_eq_true h0),.k i] rfl
 rw[if_neg h0];by_cases h1:Hu t lo<=0
 .rw[if_pos h1];exact U0 func44 rfl [.k c0,.f (decide_eq_false h0),.k b,.t (decide_eq_true h1)] rfl
 rw[if_neg h1];by_cases h2:0<Hu t hi
 .rw[if_pos h2];exact U0 func44 rfl [.k c0,.f (decide_eq_false h0),.k b,.f (decide_eq_false h1),.k c,.t (decide_eq_true h2)] rfl
 rw[if_neg h2];by_cases h3:Hw C lo t=0
 .rw[if_pos h3];exact U0 func44 rfl [.k c0,.f (decide_eq_false h0),.k b,.f (decide_eq_false h1),.k c,.f (decide_eq_false h2),.k d,.t (decide_eq_true h3)] rfl
 rw[if_neg h3];by_cases h4:Hp p t=0
 .rw[if_pos h4];exact U0 func44 rfl [.k c0,.f (decide_eq_false h0),.k b,.f (decide_eq_false h1),.k c,.f (decide_eq_false h2),.k d,.f (decide_eq_false h3),.k g,.t (decide_eq_true h4)] rfl
 rw[if_neg h4];exact U0 func44 rfl [.k c0,.f (decide_eq_false h0),.k b,.f (decide_eq_false h1),.k c,.f (decide_eq_false h2),.k d,.f (decide_eq_false h3),.k g,.f (decide_eq_false h4)] rfl
variable{q:Rat}
theorem VU(c:Qs 2000000 q):U5 7 [.agg (rl q)] [.agg (fr q)]:=by
 have h1:Gm q.num<=2000000:=c.1;have h2:Gm (q.den:Int)<=2000000:=c.2;have d:=JP (a:=q.num) (b:=(q.den:Int)) Fo Fo;have e:Hn q.num (q.den:Int)=q:=by rw[UN (by have:=den_pos q;omega),Z9]
 rw[e]at d;exact U0 func7 rfl [.k (aX (z:=q.num) Fo),.k (aX (z:=(q.den:Int)) Fo),.k d] rfl
def ZK(p:U8)(lo hi:Rat):Rat:=if Hu lo hi≠0/\Hp p hi=0 then hi else lo
theorem LK{p:U8}{C:U9}{lo hi:Rat}(hp:Bd 30000000 p)(a:p.length<=64)(ql:Qs 2000000 lo)(qh:Qs 2000000 hi):U5 97 [.agg (ax p C lo hi)] [.agg (ax p C (ZK p lo hi) hi)]:=by
 have b:=Lp (ql.mono (t:=40000000) Fp) (qh.mono Fp);have c:=RL hp a qh;unfold ZK;by_cases h0:Hu lo hi=0
 .rw[if_neg (λh=>h.1 h0)];exact U0 func97 rfl [.k b,.g 9 false (by simp[h0]),.f rfl] rfl
 by_cases h1:Hp p hi=0
 .rw[if_pos ⟨h0,h1⟩];exact U0 func97 rfl [.k b,.g 9 true (by simp[h0]),.k c,.t (decide_eq_true h1)] rfl
 .rw[if_neg (λh=>h1 h.2)];exact U0 func97 rfl [.k b,.g 9 true (by simp[h0]),.k c,.f (decide_eq_false h1)] rfl
theorem Qr6{p:U8}{C:U9}{lo hi:Rat}(b:Gg p)(hp:Bd 8000000 p)(h2:2<=p.length)(a:p.length<=64)(c:Rf p=p)(f:ChRun p p C)(ql:Qs 2000000 lo)(qh:Qs 2000000 hi):U5 50 [.agg (ta ⟨p,lo,hi⟩)] [.agg (ax p C (ZK p lo hi) hi)]:=by
 have d:=LF (p:=p) (Fz hp Fp) Fo;rw[b]at d;have cp:=QT b (Fz hp Fp) Fo;rw[c]at cp;have e:=VG b (Fz hp Fp) Fo h2 f;have g:=LK (p:=p) (C:=C) (lo:=lo) (hi:=hi) (Fz hp Fp) a ql qh;exact U0 func50 rfl [.k d,.k cp,.k e,.k (VU ql),.k (VU qh),.k g] rfl
theorem Q3j(h:Qs 2000000 q):Cok [[-q.num,(q.den:Int)],[1]]:=⟨by show 2<=1000;decide,λp hp=>by
 simp only[Qm,Jg,or_false]at hp;rcases hp with rfl|rfl
 .exact⟨Fz (bd2 (s:=2000000) (by rw[Rq];exact h.1) h.2) Fp,by show 2<=64;decide⟩
 .exact⟨b1 Fp,by show 1<=64;decide⟩⟩
theorem Qcd{lo hi:Rat}(ql:Qs 2000000 lo)(qh:Qs 2000000 hi):U5 96 [.agg (fr lo),.agg (fr hi)] [.agg (fr (NY lo hi))]:=by
 have c:=AH (ql.mono (t:=20000000) Fp) (qh.mono Fp);have b:=Qw7 (n:=1) (d:=2) Fp Fp;have e:Hn 1 2=(1:Rat) / 2:=by rw[UN Fp];decide +kernel
 rw[e]at b;have f:Qs 40000000 (lo+hi):=(Qpa ql qh).mono Fp;have g:Qs 40000000 ((1:Rat) / 2):=by rw[<-e];exact⟨Fp,Fp⟩
 have a:=aJ f g;have em:(lo+hi)*((1:Rat) / 2)=NY lo hi:=by rw[YV];grind
 rw[em]at a;exact U0 func96 rfl [.k c,.k b,.k a] rfl
theorem Qrh(z:Int):[nd ((z:Rat)).num.natAbs,.bool false,nd ((((z:Rat)).den:Int)).natAbs,sg (((z:Rat)).den:Int)]=fr ((z.natAbs:Int):Rat):=by
 simp only[fr,ri,Rat.num_intCast,Rat.den_intCast,Xg,Jn,Xc];have:sg (z.natAbs:Int)=.bool false:=by
  show LV.bool (decide ((z.natAbs:Int)<0))=_;rw[decide_eq_false Fo]
 rw[this]
theorem Qti(a b:Nat):Hu ((a:Int):Rat) ((b:Int):Rat)=if a<b then -1 else if a=b then 0 else 1:=by
 rcases Bl ((a:Int):Rat) ((b:Int):Rat)with⟨e,h⟩|⟨e,h⟩|⟨e,h⟩
 .have h:(b:Int)<(a:Int):=by exact_mod_cast h
  rw[e,if_neg Fo,if_neg Fo]
 .have h:(a:Int)=(b:Int):=by exact_mod_cast h
  rw[e,if_neg Fo,if_pos Fo]
 .have h:(a:Int)<(b:Int):=by exact_mod_cast h
  rw[e,if_pos Fo]
theorem Qfz{p:U8}(h:Gp p≠0):((1:Int):Rat)+((most (p.take (p.length-1)):Int):Rat) / (((Gp p).natAbs:Int):Rat)=Hm p:=by
 have e:=VW h;have hp:(0:Rat)<((Gp p).natAbs:Rat):=nat_pos Fo;have b:((Gp p).natAbs:Rat)≠0:=Fu;have f:=Zg (a:=((most (p.take (p.length-1)):Nat):Rat)) b;have c:((((Gp p).natAbs:Int)):Rat)=((Gp p).natAbs:Rat):=rfl;have d:(((most (p.take (p.length-1)):Nat):Int):Rat)=((most (p.take (p.length-1)):Nat):Rat):=rfl;rw[c,d];generalize ((most (p.take (p.length-1)):Nat):Rat) / ((Gp p).natAbs:Rat)=y at *;have:(Hm p-(((1:Int):Rat)+y))*((Gp p).natAbs:Rat)=0:=by push_cast;grind
 rcases Yo.1 this with h'|h'
 .grind
 .exact absurd h' b
theorem Qk2{p:U8}{s:Nat}(I:Gg p)(h2:2<=p.length)(hl:p.length<=1000)(hb:Bd s p)(hs:s<=1000000):U5 160 [.one (rp (zp p))] [.agg (fr (Hm p))]:=by
 have H:(frow (zp p)).length=p.length:=by rw[Bm,E8]
 have D:=JS (n:=1) Fp;have u:Gp p≠0:=Do I Fo;have hm:∀i,Gm (most (p.take i):Int)<=s:=λi=>gJ λz hz=>hb z (Qn hz)
 have E:Gm ((Gp p).natAbs:Int)<=s:=by rw[Iy];exact Nn hb
 have m:∀z:Int,Gm z<=s->Qs 1000000 (z:Rat):=λz hz=>⟨by rw[Rat.num_intCast];omega,by rw[Rat.den_intCast];decide⟩
 have cq:=uJ (a:=((most (p.take (p.length-1)):Int):Rat)) (b:=(((Gp p).natAbs:Int):Rat)) ((m _ (hm _)).mono Fp) ((m _ E).mono Fp) (ZU Fo);have C:Qs 20000000 (((most (p.take (p.length-1)):Int):Rat) / (((Gp p).natAbs:Int):Rat)):=by
  have hp:(0:Rat)<((Gp p).natAbs:Rat):=nat_pos Fo;have y:((most (p.take (p.length-1)):Int):Rat) / (((Gp p).natAbs:Int):Rat)*((Gp p).natAbs:Rat)=((most (p.take (p.length-1)):Int):Rat):=Zg (a:=((most (p.take (p.length-1)):Int):Rat)) (b:=((Gp p).natAbs:Rat)) Fu;have g:Gr (Gp p).natAbs (most (p.take (p.length-1))+1) 0 (((most (p.take (p.length-1)):Int):Rat) / (((Gp p).natAbs:Int):Rat)):=by
   refine⟨⟨(most (p.take (p.length-1)):Int),by rw[Yu,Ye];exact y⟩,?_,Fo⟩;have hn:(0:Rat)<=((most (p.take (p.length-1)):Int):Rat):=Xm;have q:(0:Rat)<=((most (p.take (p.length-1)):Int):Rat) / (((Gp p).natAbs:Int):Rat):=by
    rcases Hk (0:Rat) (((most (p.take (p.length-1)):Int):Rat) / (((Gp p).natAbs:Int):Rat))with h'|h'
    .exact h'
    .exfalso;have:=Jz h' hp;rw[y]at this;grind
   have:Gw (((most (p.take (p.length-1)):Int):Rat) / (((Gp p).natAbs:Int):Rat))=((most (p.take (p.length-1)):Int):Rat) / (((Gp p).natAbs:Int):Rat):=by unfold Gw;rw[if_neg Fu]
   rw[this];have w:(1:Rat)<=((Gp p).natAbs:Rat):=by
    have:((1:Nat):Rat)<=((Gp p).natAbs:Rat):=Zd.2 Fo;exact this
   have h3:=Bq (a:=((most (p.take (p.length-1)):Int):Rat) / (((Gp p).natAbs:Int):Rat)) (c:=1) q Qp Fp w;rw[y]at h3;have h4:(((most (p.take (p.length-1))+1:Nat):Nat):Rat)=((most (p.take (p.length-1)):Int):Rat)+1:=by push_cast;rfl
   rw[h4];grind
  have G:Gm ((most (p.take (p.length-1))+1:Nat):Int)<=s+1:=TN (s:=s) (by
   have:=hm (p.length-1);rw[Pi]at this;rwa[Xc]at this)
  exact(QI g (K6 _) (B:=20000000) Fo)
 have A:=AH (a:=((1:Int):Rat)) (b:=((most (p.take (p.length-1)):Int):Rat) / (((Gp p).natAbs:Int):Rat)) ⟨Fp,Fp⟩ C;rw[Qfz u]at A;have d:∀i z,p[i]? = some z->(frow (zp p))[i]? = some (fr ((z:Int):Rat)):=λi z hz=>by unfold frow zp;rw[List.getElem?_map,List.getElem?_map,hz];rfl
 refine G7 func160 rfl ?_;refine Ux [.k aG] rfl ?_;refine U4 (S:=Nat) 2 (λL1 i=>(4,.v (.oi i))::L1) (λi=>[.blk 52 [.nils,.bool false,.nils,.bool false],.blk 52 (fr ((most (p.take i):Int):Rat))]) (λi=>p.length-i) (λi=>i<=p.length-1) 0 (Qj _) rfl rfl λi hi=>?_
 by_cases h:i+1<p.length
 .obtain⟨z,hz⟩:=gxE (l:=p) (i:=i) Fo;have o:=hb z (Qc hz);have e:most (p.take (i+1))=if most (p.take i)<z.natAbs then z.natAbs else most (p.take i):=by
   rw[Vb,hz,Option.toList_some,vG]
  have j:=Lp (a:=((z.natAbs:Int):Rat)) (b:=((most (p.take i):Int):Rat)) ((m _ (by rw[Iy];exact o)).mono Fp) ((m _ (hm i)).mono Fp);rw[Qti]at j;by_cases f:most (p.take i)<z.natAbs
  .rw[if_neg Fo,if_neg Fo]at j;rw[if_pos f]at e;refine go tt [.T,.x (d i z hz),.r 21 (v:=.agg (fr ((z.natAbs:Int):Rat))) (congrArg TV.agg (Qrh z)),.k j,.t rfl,.r 25 (v:=.agg (fr ((z.natAbs:Int):Rat))) (congrArg TV.agg (Qrh z))] rfl Fx ?_;exact rd (i+1) Fo Fo (by rw[e];rfl)
  .rw[if_neg f]at e;obtain⟨v,hv,hv0⟩:∃v:Int,v=(if z.natAbs<most (p.take i)then -1 else if z.natAbs=most (p.take i)then 0 else 1)/\v<=0:=⟨_,rfl,by
    split
    .decide
    .rw[if_pos Fo];decide⟩
   rw[<-hv]at j;refine go tt [.T,.x (d i z hz),.r 21 (v:=.agg (fr ((z.natAbs:Int):Rat))) (congrArg TV.agg (Qrh z)),.k j,.F] rfl Fx ?_;exact rd (i+1) Fo Fo (by rw[e];rfl)
 .obtain rfl:i=p.length-1:=Fo;have hz:p[p.length-1]? = some (Gp p):=by
   unfold Gp;rw[Qe,Qf Fo];rfl
  exact Uz [.F,.F,.r 33 (eI (b:=((p.length-1:Nat):Int)) Fo),.x (d _ _ hz),.k D,.r 40 (v:=.agg (fr (((Gp p).natAbs:Int):Rat))) (congrArg TV.agg (Qrh (Gp p))),.k cq,.k A] rfl rfl Fx
inductive SRun (q:List Int) (c:List (List Int)):Rat->Rat->List Tm->Prop
 |none {lo hi:Rat} (a:Qs 2000000 lo) (b:Qs 2000000 hi) (h:Hw c lo hi=0):SRun q c lo hi []
 |one {lo hi:Rat} (a:Qs 2000000 lo) (b:Qs 2000000 hi) (h:Hw c lo hi=1):SRun q c lo hi [⟨q,lo,hi⟩]
 |more {lo hi:Rat} {l r:List Tm} (a:Qs 2000000 lo) (b:Qs 2000000 hi) (h0:Hw c lo hi≠0) (h1:Hw c lo hi≠1) (hl:SRun q c lo (NY lo hi) l) (hr:SRun q c (NY lo hi) hi r):SRun q c lo hi (l++r)
theorem tK{q:U8}{c:U9}{D M:Nat}(hM:0<M):∀(k j:Nat) (lo hi:Rat) (n:Int) (r:List Tm),Az q c k lo hi n=some r->lo<hi->n=Hw c lo hi->Gr D M j lo->Gr D M j hi->Gm (D:Int)+Gm (M:Int)+(j+k)<=1600000->SRun q c lo hi r
 | 0,_,_,_,_,_,h,_,_,_,_,_=>by cases h
 |
  k+1,j,lo,hi,n,r,h,hl,hn,g1,g2,hs=>by
  have d:Qs 2000000 lo:=QI g1 hM Fo;have f:Qs 2000000 hi:=QI g2 hM Fo;simp only[Az]at h
  split at h
  .rename_i h0;injection h with h;subst h;exact .none d f Fo
  .rename_i h0
   split at h
   .rename_i h1;injection h with h;subst h;exact .one d f Fo
   .rename_i h1;obtain⟨m,hm,h⟩:=Qd.1 h;have hm:NY lo hi=m:=by
     unfold chq at hm
     split at hm
     .injection hm with hm
     .cases hm
    subst hm;obtain⟨x,hx,h⟩:=Qd.1 h;obtain⟨y,l,h⟩:=Qd.1 h;injection h with h;subst h;have h2:(lo+hi) / 2*2=lo+hi:=Hq Fp;have i:Gr D M (j+1) (NY lo hi):=by rw[YV];exact OO g1 g2
    have l1:lo<NY lo hi:=by rw[YV];grind
    have l2:NY lo hi<hi:=by rw[YV];grind
    have g:∀{a b:Rat},a<b->Hw c a b=(Mw c a:Int)-(Mw c b:Int):=λ{a b} h=>by
     unfold Hw;rw[if_neg (by
      rcases Bl b a with⟨e,_⟩|⟨e,_⟩|⟨e,o⟩
      .omega
      .omega
      .exfalso;grind)]
    exact .more d f Fo Fo (tK hM k (j+1) lo _ _ x hx l1 rfl (FS g1) i Fo) (tK hM k (j+1) _ hi _ y l l2 (by rw[hn,g hl,g l1,g l2];omega) i (FS g2) Fo)
abbrev axr(q:U8)(c:U9)(t:Tm):Fe:=ax q c (ZK q t.lo t.hi) t.hi
abbrev DY(q:U8)(c:U9)(r:List Tm):Ff:=r.map (axr q c)
theorem Qi8(q:U8)(c:U9)(r:List Tm):∀y∈DY q c r,y.length=10:=λy a=>by
 obtain⟨t,_,rfl⟩:=Q8.1 a;rfl
theorem pN{q:U8}{c:U9}(j:Bd 9000000 q)(d:q.length<=64)(hc:Cok c){lo hi:Rat}{r:List Tm}(h:SRun q c lo hi r):r.length<=1000000->Ge prog 161 [.one (rp (zp q)),.one (.row (xW c)),.agg (fr lo),.agg (fr hi)] [] [.one (.orow 0 10 none)] [.row false 54 10 (DY q c r)]:=by
 induction h with
 |
  @none lo hi a b h =>
  intro _;have cb:=Du hc a b;rw[h]at cb;refine G7 func161 rfl ?_;exact U3 [] [2] [.k cb,.t rfl,.o 8 54 10] rfl
 |
  @one lo hi a b h =>
  intro _;have cb:=Du hc a b;rw[h]at cb;have m:=LK (p:=q) (C:=c) (Fz j Fp) d a b;refine G7 func161 rfl ?_;exact U3 [] [2] [.k cb,.f rfl,.t rfl,.k m,.lo] rfl
 |
  @more lo hi l r a b h0 h1 hl hr ih1 ih2 =>
  intro hn;rw[Qw]at hn;have cb:=Du hc a b;have e:=ih1 Fo;have g:=ih2 Fo;have n:(DY q c l).length=l.length:=Ft;have i:(DY q c r).length=r.length:=Ft;rw[show DY q c (l++r)=DY q c l++DY q c r from Jx];refine G7 func161 rfl ?_;exact U3 [] [3] [.k cb,.f (decide_eq_false h0),.f (decide_eq_false h1),.k (Qcd a b),.c [3] e,.c [4] g,.s (Qi8 q c r)] rfl Fw
end Orr
namespace Orq
open Orr Go
def p2(k:Nat):Rat:=((2^k:Nat):Rat)
theorem Q09(a b:Nat):p2 (a+b)=p2 a*p2 b:=by unfold p2;rw[Nat.pow_add,Rat.natCast_mul]
theorem Qej{a b:Nat}(h:a<=b):p2 a<=p2 b:=Zd.2 (Zp Fp h)
theorem Qom(k:Nat):0<=p2 k:=Xm
theorem rV(k:Nat):p2 (k+1)=p2 k+p2 k:=by have:=kY k;unfold p2;rw[this];grind
theorem Q1a(k:Nat):1<=p2 k:=Qej (Qj k)
theorem Q0x{β:Type}{Bc:Tm->List Ct}{Br:Tm->β}{c:Cr}{r:β}(t:KSt Bc Br c r):∃ws o,La c.now c.l=some ws/\KL ws=some o/\KSt Bc Br { c with l:=ws } r/\match o with
 |none=>∀x∈Bc c.now,T0 x.p c.now none
 |some a=>Va a/\M9 c.now a/\(∃x∈Bc c.now,T0 x.p c.now (some a)/\a∈CO x.p)/\∀x∈Bc c.now,∃j,T0 x.p c.now j/\∀u,j=some u->¬M9 u a:=by
 obtain⟨⟨ok,s⟩,i,hr⟩:=t;obtain⟨ws,w1,h,g⟩:=fE ok.n ok.l s;have d:=Af ok w1;rw[i]at h;have hc_w:∀x∈Bc c.now,∃w∈ws,w.c=x:=λx hx=>by
  have:x∈ws.map (·.c):=by rw[h];exact Og.2 hx
  exact Q8.1 this
 have hw_c:∀w∈ws,w.c∈Bc c.now:=λw b=>Og.1 (by rw[<-h];exact Kr b)
 obtain⟨o,q,m⟩:=Qoi d.l;refine⟨ws,o,w1,q,⟨⟨d,λw b _=>(g w b).2⟩,h,hr⟩,?_⟩;cases o with
 |none =>
  intro x hx;obtain⟨w,b,rfl⟩:=hc_w x hx;have:=(g w b).2.1;rw[m w b]at this;exact this
 |
  some a =>
  obtain⟨va,⟨w,b,f⟩,e⟩:=m;have k:=(g w b).2.1;rw[f]at k;exact⟨va,k.2.2.1,⟨w.c,hw_c w b,k,(g w b).2.2 a f⟩,λx hx=>by
   obtain⟨v,hv,rfl⟩:=hc_w x hx;exact⟨v.fails,(g v hv).2.1,λu hu=>e v hv u hu⟩⟩
structure LwS(t:Tm)(L:List (List Rat))(D M k0 w0 j:Nat)(lo hi:Rat):Prop where
 hv:Hv t D M (k0+j) ⟨t.p,lo,hi⟩
 v:Vt (cz t.p) L lo hi
 w:(hi-lo)*p2 j<=p2 w0
theorem Qm6{D M k s:Nat}{x:Rat}(h:Gr D M k x)(hs:Gm (M:Int)<=s):Gw x<=p2 s:=by
 refine Zn h.b ?_;have h1:=Pi.1 hs;rw[Xc]at h1;exact Zd.2 (Ys h1)

theorem Q1m(q:Rat)(p:U8):G6 (tq q) p=Hp p q:=by
 unfold G6 FD
 split
 .rename_i h;rw[List.eq_nil_of_length_eq_zero h];rfl
 .rw[if_pos (Nv.2 (Qp (a:=q)))];rfl
theorem nX(q:Rat)(p:U8):Rp (G6 (tq q)) p=iT p q:=by
 have:G6 (tq q)=λp=>Hp p q:=funext (Q1m q)
 rw[this];rfl
variable{k:Nat}
theorem Qas{b a r:U8}(h:RRun b k a r):r.length<b.length:=by
 induction h with
 |stop h=>exact h
 |step _ _ _ _ _ c=>exact c
theorem aN{l f:U9}{g:U8}(h:CRun k l g f):(∀p∈l,Bd 9000000 p/\p.length≤64)->g.length≤64->∀p∈f,Bd 9000000 p/\p.length≤64:=by
 induction h with
 |stop _=>exact λh _=>h
 |
  step h1 h2 h3 h4 h5 h6 h7 h8 h9 _ ih =>
  intro hl hg;refine ih (λp hp=>?_) ?_
  .rcases Qr.1 hp with hp|hp
   .exact hl p hp
   .rw[Qk.1 hp];exact⟨h3,hg⟩
  .have:=Qas h4;exact Qa (O2 _) (Qa (YJ _) Fo)
theorem VR{p:U8}{C:U9}(h:ChRun p p C)(hl:p.length≤60):∀x∈C,Bd 9000000 x/\x.length≤64:=by
 obtain⟨n,hn⟩:=h.chain;refine aN hn (λx hx=>?_) ?_
 .rw[Qk.1 hx];exact⟨Fz h.bd Fp,Fo⟩
 .refine Qa (YJ _) ?_;have:=P7 p;omega
def bq(n:Nat):Nat->Nat
 | 0=>100
 |i+1=>21431+n*bq n i
structure HI(a:Tm)(L:List (List Rat))(j:Nat)(lo hi:Rat):Prop where
 w:∃D M k0,LwS a L D M k0 273 j lo hi/\0<M/\Gm (D:Int)<=271/\Gm (M:Int)<=272/\k0<=17886
structure HX(a:Tm)(C:List (List Int))(q:Rat)(b j:Nat)(lo hi:Rat):Prop where
 ql:Qs b lo
 qh:Qs b hi
 c:lo=hi/\q<lo/\Gt a hi=0\/HI a (C.map cz) j lo hi
structure HA(a:Tm)(n:Nat)(C:List (List Int)):Prop where
 va:Va a
 pt:a.point=false
 n:a.p.length<=n+1
 b:Bd 271 a.p
 ch:ChRun a.p a.p C
 pr:Rf a.p=a.p
 i:HI a (C.map cz) 0 a.lo a.hi
end Orq
namespace Orr
open Go Go.Proofs Tryz Orq
set_option maxRecDepth 10000
variable{a:U8}
theorem BR(h:a.length<2):U5 100 [.one (rp (zp a))] [.one (.row [])]:=by
 have b:=FT a;exact U0 func100 rfl [.T] rfl
theorem IF(h:a.length=1):U5 83 [.one (rp (zp a))] [.one (rp (zp [1]))]:=by
 have b:=FT a;refine G7 func83 rfl ?_;refine Ux [.F,.k IK,.k (BR Fo)] rfl ?_;refine U4 (S:=Unit) 0 (λL1 _=>(15,.v (.oi 0))::(3,.v (.one (rp (zp [1]))))::L1) (λ_=>[]) (λ_=>0) (λ_=>True) () trivial rfl rfl λ_ _=>?_
 exact Uz [.f rfl] rfl
theorem Qgr(h:a.length=1):U5 35 [.one (rp (zp a))] [.one (.row (xW [[1]]))]:=by
 have c:=uR (p:=[1]) (b1 Fp) Fp;have b:=IU (p:=[]) rfl Om Fp;refine G7 func35 rfl ?_;refine Ux [.k (IF h),.lo,.k c,.k b] rfl ?_;refine U4 (S:=Unit) 1 (λL1 _=>(5,.v (.one (.row [])))::(4,.v (.one (.orow 0 1 none)))::L1) (λ_=>[.row false 45 1 (xW [[1]])]) (λ_=>0) (λ_=>True) () trivial rfl rfl λ_ _=>?_
 exact Uz [.f rfl] rfl
theorem Qgt:U5 92 [.one (rp (zp [1]))] [.one (.row [])]:=by
 have hc:Cok [[1]]:=⟨Fp,λp hp=>by rw[Qk.1 hp];exact⟨b1 Fp,Fp⟩⟩;have cb:U5 160 [.one (rp (zp [1]))] [.agg (fr 1)]:=by
  have b:=JS (n:=1) Fp;rw[show((1:Int):Rat)=1 from rfl]at b;refine G7 func160 rfl ?_;refine Ux [.k aG] rfl ?_;refine U4 (S:=Unit) 2 (λL1 _=>(4,.v (.oi 0))::L1) (λ_=>[.blk 52 [.nils,.bool false,.nils,.bool false],.blk 52 (fr 0)]) (λ_=>0) (λ_=>True) () trivial rfl rfl λ_ _=>?_
  exact Uz [.f rfl,.t rfl,.k b] rfl rfl Fy
 have d:=aY (a:=1);have h0:Hw [[1]] (-1) 1=0:=by decide +kernel
 have cs:=pN (q:=[1]) (b1 Fp) Fp hc (.none (lo:=-1) (hi:=1) ⟨Fp,Fp⟩ ⟨Fp,Fp⟩ h0) Fp;refine G7 func92 rfl ?_;exact U3 [1] [] [.k (IF rfl),.k (Qgr rfl),.k cb,.k d,.c [1] cs] rfl
variable{p q:U8}{m:Nat}{f:Nat->U8}{l:List Tm}
theorem Qk6{c:U9}(e:Gg p)(d:Bd 9000000 p)(lp_:p.length<=1000)(h2:2<=p.length)(g:FRun p m f)(r:Qiy m f)(eq_:q=Na f m)(h:ChRun p q c)(tq:Gg q)(o:2<=q.length)(ql:q.length<=64)(bq:Bd 1000000 q)(hc:Cok c)(hr:SRun q c (-Hm q) (Hm q) l)(hl:l.length<=1000000):U5 92 [.one (rp (zp p))] [.one (.row (DY q c l))]:=by
 have b:=jC e d lp_ h2 g r;rw[<-eq_]at b;have n:=VG e d lp_ h2 h;have j:=Qk2 tq o Fo bq Fp;have s:=aY (a:=Hm q);have i:=pN (Fz bq Fp) ql hc hr hl;refine G7 func92 rfl ?_;exact U3 [1] [] [.k b,.k n,.k j,.k s,.c [1] i] rfl
theorem Qzo(ta:Gg a)(ha:Bd 9000000 a)(la:a.length<=1000)(h2:2<=a.length)(d:FRun a m f)(o:Qiy m f)(j:∀i,i<=m->Bd 9000000 (B9 f i)/\(B9 f i).length<=1000):U5 93 [.one (rp (zp a))] [.one (rp (zp (B9 f m)))]:=by
 have hms:=d.small;have n:=FT a;have c:=I6 (BQ f m);rw[PX]at c;refine G7 func93 rfl ?_;refine Ux [.F,.k IK,.k (GK ta ha la h2 d)] rfl ?_;refine U4 (S:=Nat) 0 (λL1 i=>(5,.v (.oi i))::(3,.v (.one (rp (zp (B9 f i)))))::L1) (λ_=>[]) (λi=>m+1-i) (λi=>i<=m+1/\i % 2=0) 0 ⟨Qj _,rfl⟩ rfl rfl λi ⟨hi,b⟩=>?_
 by_cases h:i<m
 .obtain⟨_,_,g,s⟩:=o i h;obtain⟨l,r⟩:=j i Fo;have e:B9 f (i+2)=Hb (B9 f i) (f i):=by
   simp only[B9];rw[if_neg Fo,if_pos b]
  refine Uy [.T,.x (Ra (f:=λp=>[rp (zp p)]) (dC h)),.k (Qk4 (p:=B9 f i) (q:=f i) Fo Fo l g Fp)] rfl ?_;exact rd (i+2) Fo ⟨Fo,Fo⟩ (by rw[e];rfl)
 .have e:B9 f i=B9 f m:=by
   rcases(show i=m\/i=m+1 by omega)with e|e
   .rw[e]
   .rw[e];simp only[B9];rw[if_neg Fo]
  rw[e];exact Uz [.F] rfl
theorem Qs7(h:a.length=1):U5 93 [.one (rp (zp a))] [.one (rp (zp [1]))]:=by
 have b:=FT a;refine G7 func93 rfl ?_;refine Ux [.F,.k IK,.k (BR Fo)] rfl ?_;refine U4 (S:=Unit) 0 (λL1 _=>(5,.v (.oi 0))::(3,.v (.one (rp (zp [1]))))::L1) (λ_=>[]) (λ_=>0) (λ_=>True) () trivial rfl rfl λ_ _=>?_
 exact Uz [.f rfl] rfl
theorem Qv8{P g:U8}(sq:Sqp P g q)(h:2<=P.length):2<=q.length:=by
 rcases Q7 q.length 2 with h2|h2
 .exfalso;have e:=sq.pq.one h2;have hd:Ee (cz P) (cz (Hh P)):=by
   obtain⟨z,hz⟩:=sq.d;exact⟨z,λt=>by rw[Gd,Gd,C6,hz,sq.e,e,Rx];grind⟩
  obtain⟨u,c,b⟩:=BD sq.pp.m hd;have f:=P7 P;have a:(Hh P).length≠0:=λh=>by
   have h1:=M4 P (P.length-2);rw[Qg h,show P.length-2+1=P.length-1 by omega]at h1;have h2:P.getD (P.length-1) 0≠0:=Tg sq.pp.t Fo;rcases J5.1 (h1.symm.trans Ft)with h3|h3
   .exact h2 h3
   .omega
  obtain⟨p1,p2⟩:=Rv (Gs _ _) a b;have:=Sx sq.pp.t c (Gs _ _) b p1 p2;have i:(Hh P).length=P.length+u.length-1:=this;omega
 .exact h2
theorem Qje{s:Nat}(e:Gp q≠0)(bq:Bd s q):∃D M,0<M/\Gr D M 0 (Hm q)/\Gm (D:Int)<=s/\Gm (M:Int)<=s+1:=by
 obtain⟨D,j⟩:=nmE ((Gp q).natAbs);obtain⟨m,hm⟩:=nmE (most (q.take (q.length-1)));have i:m<2^s:=by rw[hm];exact Qby λz hz=>bq z (Qn hz)
 have b:0<D:=Fo;have d:=VW e;rw[<-j,<-hm]at d;have k:=ZL e;refine⟨D,m+1,K6 m,⟨⟨(D+m:Nat),?_⟩,?_,b⟩,?_,TN i⟩
 .rw[Yu,Ye,d];rw[show((((D+m:Nat):Int)):Rat)=((D+m:Nat):Rat) from rfl];push_cast;rfl
 .have:Gw (Hm q)=Hm q:=by unfold Gw;rw[if_neg Fu]
  rw[this];have h:=nat_pos b;have f:(1:Rat)<=(D:Rat):=by
   have:((1:Nat):Rat)<=(D:Rat):=Zd.2 b;exact this
  have g:(0:Rat)<=(m:Rat):=Xm;have h3:=Bq (a:=(m:Rat)) (c:=1) g Qp Fp f;rcases Hk (Hm q) ((m+1:Nat):Rat)with h'|h'
  .exact h'
  .exfalso;have:=Jz h' h
   push_cast at this;grind
 .have:=Nn bq;rw[Pi]at this ⊢;rw[Xc,j];exact this
theorem Q1f{L:Fc}{lo hi:Rat}(h:RI q L lo l hi){t:Tm}(ht:t∈l):Vt (cz q) L t.lo t.hi/\t.p=q:=by
 induction h with
 |nil=>cases ht
 |
  cons h hv ht' hp hl ih =>
  rcases Qm.1 ht with rfl|ht
  .exact⟨ht',hp⟩
  .exact ih ht
def Anc(p:U8):Prop:=∃w y,Gg w/\w.length≠0/\w.length<=10/\Bd 1110 w/\Gg y/\∀x:Rat,Gf w x=Gf p x*Gf y x
theorem Anc.bd(h:Anc p)(a:Gg p):Bd 1179 p:=by
 obtain⟨w,y,h1,h2,h3,h4,h5,b⟩:=h;exact Ex (s:=1110) h4 h3 h1 a h5 h2 b
theorem Anc.div{g z:U8}(h:Anc p)(e:∀x:Rat,Gf p x=Gf g x*Gf z x):Anc g:=by
 obtain⟨w,y,h1,h2,h3,h4,h5,a⟩:=h;exact⟨w,Hb z y,h1,h2,h3,h4,Hf _ _,λx=>by rw[a,e,Gx];grind⟩
theorem Q2u:Anc [1]:=⟨[1],[1],rfl,Fp,Fp,b1 Fp,rfl,λx=>by rw[Rx];grind⟩
structure TnOk(p:List Int)(q:List Int)(c:List (List Int))(l:List Tm):Prop where
 t:Ik p=some l
 n:l.length<=67
 ck:Cok c
 va:∀t∈l,Va t
 vt:∀t∈l,t.p=q/\t.lo<t.hi/\Vt (cz q) (c.map cz) t.lo t.hi
 ch:l≠[]->ChRun q q c/\∃P g,Sqp P g q
 sz:Anc q/\q.length<=9
 gr:∀t∈l,∃D M k,Gr D M k t.lo/\Gr D M k t.hi/\0<M/\Gm (D:Int)+Gm (M:Int)+k≤82000
theorem UI(h:Cp p):∃q c l,TnOk p q c l/\U5 42 [.one (rp (zp p))] [.one (.row (DY q c l))]:=by
 have hal:=FT p;have C:Cok [[1]]:=⟨Fp,λp hp=>by rw[Qk.1 hp];exact⟨b1 Fp,Fp⟩⟩;have noroots:WV [1]=some []:=by
  have h:(WV [1]).map (·.length)=some 0:=by decide +kernel
  obtain⟨l,hl,h⟩:=Js.1 h;rw[hl,Qg h]
 obtain⟨l0,A,K,_⟩:=A6 h;have nothing:∀t∈([]:List Tm),False:=λt ht=>by cases ht
 by_cases h0:p.length=0
 .have e:p=[]:=Qg h0;subst e;exact⟨[1],[[1]],[],⟨rfl,Fp,C,λt ht=>(nothing t ht).elim,λt ht=>(nothing t ht).elim,λh=>absurd rfl h,⟨Q2u,Fp⟩,λt ht=>(nothing t ht).elim⟩,U0 func42 rfl [.t rfl] rfl⟩
 have none_:DC p=some [1]->U5 93 [.one (rp (zp p))] [.one (rp (zp [1]))]->∃q c l,TnOk p q c l/\U5 42 [.one (rp (zp p))] [.one (.row (DY q c l))]:=λV y =>
  ⟨[1],[[1]],[],⟨by unfold Ik;rw[V];exact noroots,Fp,C,λt ht=>(nothing t ht).elim,λt ht=>(nothing t ht).elim,λh=>absurd rfl h,⟨Q2u,Fp⟩,λt ht=>(nothing t ht).elim⟩,U0 func42 rfl [.F,.k y,.k Qgt] rfl⟩
 have hpl:=h.l;have r:Okp 9 1110 p:=⟨⟨Fp,Fp⟩,h.t,h0,h.l,h.b⟩;by_cases h2:p.length<2
 .refine none_ ?_ (Qs7 Fo);obtain⟨pp,hl,hb⟩:=r.pr;unfold DC;rw[if_neg Fo,pp.one Fo];decide +kernel
 obtain⟨m,f,m1,m9,hF,hP,hsq,R,w,hO⟩:=Qdl r Fo Fp;have y:=Qzo h.t (Fz h.b Fp) Fo Fo hF hP hO;obtain⟨qp,o',q1,x,v⟩:=rQ r;have eo:o'=B9 f m:=Option.some.inj (x.symm.trans R);rw[eo]at v x;obtain⟨o,V⟩:=nmE (B9 f m);rw[<-V]at y w v x;by_cases l2:o.length<2
 .have e:=w.one l2;rw[e]at y x;exact none_ x y
 obtain⟨pp,hl,hb⟩:=r.pr;obtain⟨hh,th,eh⟩:=v.oh;have bo:Bd 1179 o:=Ex (s:=1110) hb Fo pp.t w.t th pp.n eh;obtain⟨X,W⟩:=Rv pp.t pp.n eh;have hlen:=Sx w.t th pp.t eh X W;have i:Okp 9 1179 o:=⟨⟨Fp,Fp⟩,w.t,Fo,Fo,bo⟩;obtain⟨m',f',k1,k9,kF,kP,Z,_,_,_⟩:=Qdl i Fo Fp;obtain⟨q,c,l,r1,r2,u,hS,Q,U,_,hlq,hz⟩:=cO Fp i;have eq_:q=Na f' m':=Option.some.inj (r1.symm.trans Z);obtain⟨g,q0,e0,sq⟩:=Oh i;have:q0=q:=Option.some.inj (e0.symm.trans r1);subst this;obtain⟨I,hlo,Y⟩:=i.pr;have q2:=Qv8 sq Fo;have e1:∀t,Gf (Gj o) t=Gf q0 t*Gf g t:=λt=>by rw[sq.e];grind
 have bq:Bd 1248 q0:=Ex (s:=1179) Y Fo I.t sq.pq.t sq.pg.t I.n e1;obtain⟨L,hcL,N⟩:∃L,c=q0::L/\xU 66 q0 (Gj (Hh q0))=some L:=by
  have h2:=r2;unfold chain at h2;rw[r1]at h2;simp only[Xl]at h2;rw[if_neg Fo]at h2;obtain⟨d,hd,h2⟩:=Qd.1 h2;obtain⟨l',H,h2⟩:=Qd.1 h2;injection h2 with h2;rw[uM hd]at H;exact⟨l',h2.symm,H⟩
 subst hcL;have z:=jI (i.pb Fp) r2 sq.pq.n;have B:q0.length<=9:=Fo;have a:=pD sq q2 B bq Fp N;have O:ChRun o q0 (q0::L):=⟨⟨m',f',kF,kP,eq_⟩,a.chain,a.bd,a.len,a.small⟩;have ck:Cok (q0::L):=⟨a.small,VR a Fo⟩;have G:Gp q0≠0:=by have:=sq.pq.l;omega
 obtain⟨D,M,hM,gb,hD,hMs⟩:=Qje G bq;have hb1:=ZL G;have J:Az q0 (q0::L) 100000 (-Hm q0) (Hm q0) (WW (q0::L))=some l:=by
  unfold WV at u;rw[r2,Xl,r1,Xl]at u;obtain⟨b,j,u⟩:=Qd.1 u;have:Hm q0=b:=by
   unfold chq at j
   split at j
   .injection j with j
   .cases j
  rw[<-this]at u;exact u
 have E:(-Hm q0)<Hm q0:=Fu;have S:=tK hM 100000 0 _ _ _ l J E (by rw[kL hS z,Nb (Qq E)]) (Qm5 gb) gb Fo;have T:l.length<=67:=by
  have e:Ik p=some l:=by
   unfold Ik;rw[x,Xl,if_neg Fo];exact u
  rw[e]at A;rw[Option.some.inj A];exact K
 have cr:=Qk6 w.t (Fz bo Fp) Fo Fo kF kP eq_ O sq.pq.t q2 Fo (Fz bq Fp) ck S Fo;have P:Anc q0:=⟨Gj p,Hb g hh,pp.t,pp.n,Fo,hb,Hf g hh,λt=>by
  rw[eh,<-C9 w,e1,Gx];grind⟩
 refine⟨q0,q0::L,l,⟨?_,T,ck,U,λt ht=>?_,λ_=>⟨a,_,_,sq⟩,⟨P,B⟩,λt ht=>?_⟩,U0 func42 rfl [.F,.k y,.k cr] rfl⟩
 .unfold Ik;rw[x,Xl,if_neg Fo];exact u
 .obtain⟨h1,h2⟩:=Q1f Q ht;exact⟨h2,(hz t ht).2.1,h1⟩
 .obtain⟨_,_,_,D,M,k,x1,x2,x3,x4,x5,x6⟩:=hz t ht;exact⟨D,M,k,x1,x2,x3,Fo⟩
end Orr
