/- R7 RatOkL R8 R9 RefCL R10 RawL NewsL KGoL SortQ BegL R11 R12 R13 R14 R15 R16 R17 R18 PairN PairQ SplitL PW1 R21 DetL H1 R22 HullG TurnL HullQ HullS H2 H3 R23 R24 R25 -/
import Derived.Test.YtpnhifedfcgjbaaGreatPart07
import Derived.Test.YtpnhifedfcgjbaaGreatPart00
import Derived.Test.YtpnhifedfcgjbaaGreatPart05
import Derived.Test.YtpnhifedfcgjbaaGreatPart06
set_option linter.all false
namespace Orr
open Go Go.Proofs
set_option maxRecDepth 10000
theorem RRun.inv {b a r:List Int} {k:Nat} (h:RRun b k a r):(k=0/\a=r/\a.length<b.length)\/(∃ j,k=j+1/\b.length<=a.length/\a.length<=1000/\Bd 9000000 a/\Bd 9000000 b/\RRun b j (Qne a b) r):=by
 cases h with
 | stop h=>exact .inl ⟨rfl,rfl,h⟩
 | step h1 h2 h3 h4 h5=>exact .inr ⟨_,rfl,h1,h2,h3,h4,h5⟩
theorem Ze8 {a b:List Int} (ha:Bd 9000000 a):Ur (Oz a b)<=9000000:=by
 unfold Oz; split
 ·rw [Gy]; exact Uu ha _
 ·exact Uu ha _
theorem Ze3 (n:Nat):ri (n:Int)=[nd n,.bool false]:=by
 show [nd n,sg (n:Int)]=_;unfold sg;rw [decide_eq_false (by omega)]
def Qqc (a b:List Int) (n:Nat):List Int:=(List.range n).map (Ed a b)
theorem Q90 (a b:List Int) (n:Nat):(Qqc a b n).length=n:=by simp [Qqc]
theorem Qng (a b:List Int) (n:Nat):Qqc a b (n+1)=Qqc a b n++[Ed a b n]:=by simp [Qqc,K5]
theorem Qy0 {a0 b res:List Int} {n:Nat} (hb0:0<b.length) (hb1:b.length<=1000) (hbb0:Bd 9000000 b) (hrun:RRun b n a0 res):Uh Tryz.prog 105 [.one (rp (zp a0)),.one (rp (zp b))] [.one (rp (zp res))]:=by
 have hbl:=fzl b;have hle:Ur (((Fh b).natAbs:Nat):Int)<=9000000:=Uu hbb0 _;refine Ha Tryz.func105 rfl ?_;refine go tt [.r 15 (eI (b:=((b.length-1:Nat):Int)) (by omega)),.x (Hz (p:=b) (i:=b.length-1) (by omega))] rfl (by simp [Uf]; omega) ?_;refine sb [(0,.v (.one (rp (zp a0)))),(1,.v (.one (rp (zp b)))),(5,.v (.one (.ow 0 0))),(6,.v (.one (.ow 1 0)))] [.blk 33 (ri (Fh b)),.blk 33 [nd (Fh b).natAbs,.bool false]] rfl rfl ?_;refine lp (S:=Nat×List Int) 2 (λL1 s=>(0,.v (.one (rp (zp s.2))))::L1) (λ_=>[.blk 33 (ri (Fh b)),.blk 33 [nd (Fh b).natAbs,.bool false]]) (λs=>s.1) (λs=>RRun b s.1 s.2 res) (n,a0) hrun rfl (λ_ _=>rfl) rfl λ⟨k,a⟩ hs=>?_
 have hal:=fzl a;have hs:RRun b k a res:=hs;rcases RRun.inv hs with ⟨rfl,rfl,h1⟩ | ⟨j,rfl,h1,h2,ha,hb,hr⟩
 ·exact en tt [.f (decide_eq_false (by dsimp only; omega))] rfl rfl trivial
 obtain ⟨K,hK⟩:=nmE (a.length-b.length);have htb:=Ze8 (b:=b) ha;have cc:=Ix (p:=zp (Qqc a b a.length));rw [Ng,show trim (Qqc a b a.length)=Qne a b from rfl] at cc;refine go tt [.t (decide_eq_true (by dsimp only; omega)),.r 30 (eI (b:=(K:Int)) (by dsimp only; omega)),.r 34 (eI (b:=((a.length-1:Nat):Int)) (by dsimp only; omega)),.x (Hz (p:=a) (i:=a.length-1) (by omega))] rfl (by simp [Uf]; omega) ?_;refine ct 1 (S:=Unit) (λ_=>[(0,.v (.one (rp (zp a)))),(1,.v (.one (rp (zp b)))),(5,.v (.one (.ow 0 0))),(6,.v (.one (.ow 1 0))),(7,.v (.one (.int .i64 (K:Int)))),(8,.v (.one (.ow 2 0)))]) (λ_=>[.blk 33 (ri (Fh b)),.blk 33 [nd (Fh b).natAbs,.bool false],.blk 33 (ri (Oz a b))]) (λ_=>True) rfl ?_ (λ_ _=>?_)
 ·by_cases hn:Fh b<0
  ·have e:Oz a b=-(Fh a):=if_pos hn;rw [e];exact go tt [.t (decide_eq_true hn),.c [] (Aq (z:=Fh a))] rfl trivial (rc () trivial rfl)
  ·have e:Oz a b=Fh a:=if_neg hn;rw [e];exact go tt [.f (decide_eq_false hn)] rfl trivial (rc () trivial rfl)
 refine go tt [.o 9 35 4] rfl trivial ?_;refine lp (S:=Nat) 4 (λL1 i=>(44,.v (.one (.int .i64 (i:Int))))::(9,.v (.one (.orow 3 4 none)))::L1) (λi=>[.blk 33 (ri (Fh b)),.blk 33 [nd (Fh b).natAbs,.bool false],.blk 33 (ri (Oz a b)),.row false 35 4 (frow (zp (Qqc a b i)))]) (λi=>a.length-i) (λi=>i<=a.length) 0 (Qg _) rfl (λ_ _=>rfl) rfl λi hi=>?_
 have hfl:=fzl (Qqc a b i);rw [Q90] at hfl;by_cases h:i<a.length
 ·have cm:=Sj (a:=a.getD i 0) (b:=(((Fh b).natAbs:Nat):Int)) (Qd (Uu ha i) (by decide)) (by omega);have hm:=U6 (a.getD i 0) (((Fh b).natAbs:Nat):Int);have hai:=Uu ha i;rw [Ze3 (Fh b).natAbs] at cm;by_cases hk:K<=i
  ·have hbi:=Uu hb (i-K);have hm2:=U6 (Oz a b) (b.getD (i-K) 0);have e:Ed a b i=a.getD i 0*(((Fh b).natAbs:Nat):Int)-Oz a b*b.getD (i-K) 0:=by unfold Ed; rw [if_pos (by omega),hK]
   refine go tt [.t (decide_eq_true (by omega)),.x (Hz h),.c [] cm,.t (decide_eq_true (by omega)),.r 62 (eI (b:=((i-K:Nat):Int)) (by omega)),.x (Hz (p:=b) (i:=i-K) (by omega)),.c [] (Sj (a:=Oz a b) (b:=b.getD (i-K) 0) (by omega) (by omega)),.c [] (Q5o (by omega) (by omega)),.c [] (Cd (n:=1) (by decide)),.c [] (Pp (n:=a.getD i 0*(((Fh b).natAbs:Nat):Int)-Oz a b*b.getD (i-K) 0)),.s (sz:=4) (Qw0 _)] rfl (by simp [Uf,hfl,-List.getD_eq_getElem?_getD] <;> omega) ?_;exact rd (i+1) (by omega) h (by rw [Qng,Qq0,e]; rfl)
  ·have e:Ed a b i=a.getD i 0*(((Fh b).natAbs:Nat):Int):=by unfold Ed; rw [if_neg (by omega),Int.sub_zero]
   refine go tt [.t (decide_eq_true (by omega)),.x (Hz h),.c [] cm,.f (decide_eq_false (by omega)),.c [] (Cd (n:=1) (by decide)),.c [] (Pp (n:=a.getD i 0*(((Fh b).natAbs:Nat):Int))),.s (sz:=4) (Qw0 _)] rfl (by simp [Uf,hfl,-List.getD_eq_getElem?_getD] <;> omega) ?_;exact rd (i+1) (by omega) h (by rw [Qng,Qq0,e]; rfl)
 ·have e:i=a.length:=by omega
  rw [e];exact go tt [.f (decide_eq_false (by omega)),.c [] cc] rfl trivial (rd (j,Qne a b) (by omega) hr rfl)
theorem Zh2:Uh Tryz.prog 36 [.agg (ri 1),.agg (ri 1)] [.agg (ri 1)]:=Sj (a:=1) (b:=1) (by decide) (by decide)
theorem Zci:Uh Tryz.prog 100 [.agg (ri 1),.agg (ri 1)] [.agg (ri 1)]:=Qil (a:=1) (b:=1) (by decide) (by decide)
theorem Zca {z:Int} (hz:Ur z<=90000000):Uh Tryz.prog 36 [.agg (ri z),.agg (ri 1)] [.agg (ri z)]:=by
 have h:=Sj (a:=z) (b:=1) (by omega) (by decide);rwa [Wg] at h
theorem Qyq {z:Int} (hz:Ur z<=90000000):Uh Tryz.prog 101 [.agg (ri z),.agg (ri 1)] [.agg (ri z)]:=by
 have h:=Qew (a:=z) (b:=1) hz (by decide) (by decide) (Int.emod_one z);rwa [Kw] at h
theorem Q47 {z:Int}:Uh Tryz.prog 47 [.agg (fr (z:Rat))] [.agg (fr ((-z:Int):Rat))]:=by
 have h:=Zht (a:=(z:Rat));rwa [<-Vj] at h
theorem Zjf {c:Int} (hc:c≠0) (hs:Ur c<=9000000):Qs 40000000 (((1:Int):Rat) / (c:Rat)):=by
 have h0:(c:Rat)≠0:=λe=>hc (by exact_mod_cast e)
 rw [<-Qm8 h0];unfold Gd;rw [if_neg (Jj (Nu _) (λe=>hc (by simpa using e)))];refine Qs.divInt (by show Ur (1*1)<=_; decide) ?_ (by decide);show Ur (1*c)<=_;rw [Y3]; omega
theorem Qvi {p:List Int} {c:Int} (hc:c≠0) (hs:Ur c<=9000000) (hd:∀ j,c∣p.getD j 0) (hp:Bd 9000000 p) (hl:p.length<=1000):Uh Tryz.prog 156 [.one (rp (zp p)),.agg (fr (((1:Int):Rat) / (c:Rat)))] [.one (rp (zp (Pk p.length λi=>p.getD i 0 / c)))]:=by
 have h:=Ek ((Qbk hp (by omega)).mono (by omega)) (Zjf hc hs) (by rw [Ty]; omega);rwa [show ((1:Int):Rat)=1 from rfl,Qxm hc hd] at h
theorem As {p:List Int} (tp:Um p) (hp:Bd 9000000 p) (hl:p.length<=1000):Uh Tryz.prog 127 [.one (rp (zp p))] [.agg (fr ((Ml p:Int):Rat)),.one (rp (zp (G7 p)))]:=by
 have hpl:=fzl p;rcases Qy p.length with h0 | h0
 ·have e:=Qi h0;subst e;exact w tt Tryz.func127 rfl [.t rfl,.c [] Q5n] rfl rfl trivial
 have hc:=Q67 tp h0;refine Ha Tryz.func127 rfl ?_;refine go tt [.f (decide_eq_false (by omega)),.c [] (Cd (n:=1) (by decide))] rfl trivial ?_;refine lp (S:=Nat) 2 (λL1 i=>(16,.v (.one (.int .i64 (i:Int))))::L1) (λi=>[.blk 35 [.nils,.bool false,.nils,.bool false],.blk 33 (ri 1)]) (λi=>p.length-i) (λi=>i<=p.length) 0 (Qg _) rfl (λ_ _=>rfl) rfl λi hi=>?_
 by_cases h:i<p.length
 ·refine go tt [.t (decide_eq_true (by omega)),.x (Hz h),.c [] Zh2,.x (Hz h),.c [] Zci,.c [] (Qyq (z:=1) (by decide))] rfl (by simp [Uf]; omega) ?_;exact rd (i+1) (by omega) h rfl
 refine go tt [.f (decide_eq_false (by omega))] rfl trivial ?_;clear h hi;refine nlb 2 rfl rfl rfl ?_;rw [Q1a];refine lp (S:=Nat) 3 (λL1 i=>(37,.v (.one (.int .i64 (i:Int))))::L1) (λi=>[.blk 35 [.nils,.bool false,.nils,.bool false],.blk 33 (ri 1),.blk 33 (ri ((Em p i:Nat):Int))]) (λi=>p.length-i) (λi=>i<=p.length) 0 (Qg _) rfl (λ_ _=>rfl) rfl λi hi=>?_
 by_cases h:i<p.length
 ·have hb:=Uu hp i;have hg:=Iz hp i;refine go tt [.t (decide_eq_true (by omega)),.x (Hz h),.c [] (Zca (z:=p.getD i 0) (by omega)),.x (Hz h),.c [] (Qyq (z:=p.getD i 0) (by omega)),.c [] (Qil (a:=((Em p i:Nat):Int)) (b:=p.getD i 0) (by omega) (by omega))] rfl (by simp [Uf]; omega) ?_;exact rd (i+1) (by omega) h rfl
 have e:i=p.length:=by omega
 rw [e];have co:=Qii (n:=1) (by decide);have cs:=Qvi hc (Qly hp) (Q2u p) hp hl;by_cases hn:Fh p<0
 ·have e2:Ml p=-((Qa9 p:Nat):Int):=if_pos hn;rw [show (λi=>p.getD i 0 / Ml p)=λi=>p.getD i 0 / Ml p from rfl] at cs;have cn:=Q47 (z:=((Qa9 p:Nat):Int));rw [<-e2] at cn;exact en tt [.f (decide_eq_false (by omega)),.c [] (Pp (n:=((Qa9 p:Nat):Int))),.r 62 (eI (b:=((p.length-1:Nat):Int)) (by omega)),.x (Hz (p:=p) (i:=p.length-1) (by omega)),.t (decide_eq_true hn),.c [] cn,.c [] co,.c [] (Qvh (a:=((1:Int):Rat)) (b:=((Ml p:Int):Rat)) ⟨by decide,by decide⟩ (Ca (by have:=Qly hp; omega) (by decide)) (λe=>hc (by exact_mod_cast e))),.c [] cs] rfl rfl (by simp [Uf]; omega)
 ·have e2:Ml p=((Qa9 p:Nat):Int):=if_neg hn;have cm:=Pp (n:=Ml p);rw [e2] at cm cs hc ⊢;exact en tt [.f (decide_eq_false (by omega)),.c [] cm,.r 62 (eI (b:=((p.length-1:Nat):Int)) (by omega)),.x (Hz (p:=p) (i:=p.length-1) (by omega)),.f (decide_eq_false hn),.c [] co,.c [] (Qvh (a:=((1:Int):Rat)) (b:=((((Qa9 p:Nat):Int):Int):Rat)) ⟨by decide,by decide⟩ (Ca (by have:=Iz hp p.length; unfold Qa9; omega) (by decide)) (λe=>hc (by exact_mod_cast e))),.c [] cs] rfl (by unfold G7; rw [e2]; rfl) (by simp [Uf]; omega)
theorem Ar {p:List Int} (tp:Um p) (hp:Bd 9000000 p) (hl:p.length<=1000):Uh Tryz.prog 67 [.one (rp (zp p))] [.one (rp (zp (G7 p)))] :=
 w tt Tryz.func67 rfl [.c [] (As tp hp hl)] rfl rfl trivial
theorem Qlz {p:List Int} (tp:Um p):Ml p<0↔Fh p<0:=by
 unfold Ml;rcases Qy p.length with h0 | h0
 ·have:=Qi h0; subst this; decide
 ·have:=Qro tp h0
  split <;> omega
theorem Qvo {p:List Int} (hp:Bd 9000000 p) (hl:p.length<=1000000):Uh Tryz.prog 104 [.one (rp (zp p))] [.one (rp (zp (H5 p)))]:=by
 have h:=Qvs ((Qbk hp (by decide)).mono (by decide)) (by rw [Ty]; exact hl);rwa [Q1b] at h
theorem Qre {p:List Int} (tp:Um p) (hp:Bd 9000000 p) (hl:p.length<=1000):Uh Tryz.prog 103 [.one (rp (zp p))] [.one (rp (zp (Po p)))]:=by
 by_cases hn:Fh p<0
 ·have e:Po p=H5 (G7 p):=if_pos hn;rw [e];exact w tt Tryz.func103 rfl [.c [] (As tp hp hl),.t (decide_eq_true ((Qlz tp).2 hn)),.c [] (Qvo (Qie hp) (Qd (Qfg p) (by omega)))] rfl rfl trivial
 ·have e:Po p=G7 p:=if_neg hn;rw [e];exact w tt Tryz.func103 rfl [.c [] (As tp hp hl),.f (decide_eq_false λh=>hn ((Qlz tp).1 h))] rfl rfl trivial
end Orr
namespace Orr
theorem Ep (f:Nat->Int):Pk 1 f=trim [f 0]:=rfl
theorem Qi3 (f:Nat->Int):Pk 2 f=trim [f 0,f 1]:=rfl
theorem Qeb (x:Int):trim [x]=if x=0 then [] else [x]:=rfl
theorem Qnq (x y:Int):trim [x,y]=if y=0 then trim [x] else [x,y]:=by
 simp only [trim]; split <;> split <;> simp_all
theorem bd1 {s:Nat} {x:Int} (h:Ur x<=s):Bd s [x]:=λz hz=>by simp at hz; subst hz; exact h
theorem bd2 {s:Nat} {x y:Int} (h:Ur x<=s) (h':Ur y<=s):Bd s [x,y]:=λz hz=>by
 simp only [Qo,X8,or_false] at hz;rcases hz with rfl | rfl <;> assumption
section
variable {x d:Int} (hd:0<d) (hg:Int.gcd x d=1) (hx:Ur x<=1000000) (hs:Ur d<=1000000)
theorem b1 {s:Nat} (h:1<=s):Bd s [1]:=bd1 (Qd (show Ur 1<=1 by decide) h)
include hd in
theorem Qdq (hg:Int.gcd x d=1):G7 [x,d]=[x,d]:=by
 have hc:Ml [x,d]=1:=by
  have h1:Qa9 [x,d]=1:=by
   show Int.gcd (Int.gcd ((0:Nat):Int) x:Nat) d=1;rw [show Int.gcd ((0:Nat):Int) x=x.natAbs by simp,show Int.gcd ((x.natAbs:Nat):Int) d=Int.gcd x d by simp [Int.gcd],hg]
  unfold Ml;rw [if_neg (show ¬Fh [x,d]<0 from by show ¬d<0; omega),h1]; rfl
 unfold G7;rw [hc];show Pk 2 _=_;rw [Qi3,Qnq];show (if d / 1=0 then _ else [x / 1,d / 1])=_;rw [Kw,if_neg (by omega),Kw]
theorem Q86:G7 [1]=[1]:=by decide
include hd in
theorem Qke:G7 [d]=[1]:=by
 have hc:Ml [d]=d:=by
  have h1:((Qa9 [d]:Nat):Int)=d:=by
   show ((Int.gcd ((0:Nat):Int) d:Nat):Int)=d;simp; omega
  unfold Ml;rw [if_neg (show ¬Fh [d]<0 from by show ¬d<0; omega),h1]
 unfold G7;rw [hc];show Pk 1 _=_;rw [Ep,Qeb];show (if d / d=0 then _ else [d / d])=_;rw [Int.ediv_self (by omega)]; rfl
include hd in
theorem Qom:Fg [x,d]=[d]:=by
 show Pk 1 _=_;rw [Ep,Qeb];show (if d*1=0 then _ else [d*1])=_;rw [Wg,if_neg (by omega)]
include hd hx hs in
theorem Qtv:∃ m,RRun [1] m [x,d] []:=by
 have h1:Qne [x,d] [1]=trim [x]:=by
  show Pk 2 _=_;rw [Qi3,Qnq];have e1:Ed [x,d] [1] 1=0:=by
   show d*1-(if 1<=1 then Oz [x,d] [1]*1 else 0)=0;have:Oz [x,d] [1]=d:=by unfold Oz; rw [if_neg (by decide)]; rfl
   rw [this]; simp
  have e0:Ed [x,d] [1] 0=x:=by
   show x*1-(if 1<=0 then _ else 0)=x;simp
  rw [e1,if_pos rfl,e0]
 have hb:Bd 9000000 [x,d]:=bd2 (by omega) (by omega);by_cases h0:x=0
 ·refine ⟨1,.step (by show 1<=2; decide) (by show 2<=1000; decide) hb (b1 (by decide)) ?_⟩;rw [h1,h0];exact .stop (by decide)
 ·refine ⟨2,.step (by show 1<=2; decide) (by show 2<=1000; decide) hb (b1 (by decide)) ?_⟩;rw [h1,Qeb,if_neg h0];refine .step (Qm 1) (by show 1<=1000; decide) (bd1 (by omega)) (b1 (by decide)) ?_;have h2:Qne [x] [1]=[]:=by
   show Pk 1 _=_;rw [Ep,Qeb];have e0:Ed [x] [1] 0=0:=by
    show x*1-(if 0<=0 then Oz [x] [1]*1 else 0)=0;have:Oz [x] [1]=x:=by unfold Oz; rw [if_neg (by decide)]; rfl
    rw [this]; simp
   rw [e0,if_pos rfl]
  rw [h2];exact .stop (by decide)
include hd hx hs in
theorem Q7r:∃ m,GRun m [x,d] [1] [1]:=by
 obtain ⟨m,h⟩:=Qtv hd hx hs;exact ⟨1,.step (by decide) (by decide) (b1 (by decide)) h (by decide) Iw rfl (by rw [show G7 []=[] by decide]; exact .stop _)⟩
theorem Q3j (c:Int):Sx [c] [c]=[]:=by
 show Pk 1 _=_;rw [Ep,Qeb];show (if c-c=0 then _ else _)=_;rw [if_pos (by omega)]
include hd hx hs in
theorem Qzj:DOk [x,d] [1] [x,d]:=by
 refine ⟨by decide,by decide,by show 2<=1000; decide,b1 (by decide),[x,d],[],?_⟩;have hpl:Fh [x,d] / Fh [1]=d:=by show d / 1=d; rw [Kw]
 have hsc:Uz [1] d=[d]:=by
  show Pk 1 _=_;rw [Ep,Qeb];show (if 1*d=0 then _ else [1*d])=_;rw [Y3,if_neg (by omega)]
 have hsub:Sx [x,d] (D9 1 [d])=trim [x]:=by
  show Pk 2 _=_;rw [Qi3,Qnq];show (if d-d=0 then trim [x-0] else _)=_;rw [if_pos (by omega),Int.sub_zero]
 have hb:Bd 9000000 [x,d]:=bd2 (by omega) (by omega);have ht:trim [x,d]=[x,d]:=by rw [Qnq,if_neg (by omega)]
 by_cases h0:x=0
 ·refine ⟨1,hb,by show 2<=1000; decide,?_,ht.symm⟩;refine .step (by show 1<=2; decide) (by show 2<=1000; decide) hb (by decide) (by show (1:Int)∣d; exact Int.one_dvd d) (by show 1<2; decide) ?_;rw [hpl,hsc,show [x,d].length-[(1:Int)].length=1 from rfl,hsub,Qeb,if_pos h0];show DRun [1] 0 [] [0,d] [x,d] [];rw [h0]; exact .stop (by decide)
 ·refine ⟨2,hb,by show 2<=1000; decide,?_,ht.symm⟩;refine .step (by show 1<=2; decide) (by show 2<=1000; decide) hb (by decide) (by show (1:Int)∣d; exact Int.one_dvd d) (by show 1<2; decide) ?_;rw [hpl,hsc,show [x,d].length-[(1:Int)].length=1 from rfl,hsub,Qeb,if_neg h0];refine .step (by show 1<=1; decide) (by show 1<=1000; decide) (bd1 (by omega)) (by decide) (by show (1:Int)∣x; exact Int.one_dvd x) (by show 0<2; decide) ?_;have hpl2:Fh [x] / Fh [1]=x:=by show x / 1=x; rw [Kw]
  have hsc2:Uz [1] x=[x]:=by
   show Pk 1 _=_;rw [Ep,Qeb];show (if 1*x=0 then _ else [1*x])=_;rw [Y3,if_neg h0]
  rw [hpl2,hsc2,show [x].length-[(1:Int)].length=0 from rfl,show D9 0 [x]=[x] from rfl,Q3j];exact .stop (by decide)
theorem div_one:DOk [1] [1] [1]:=by
 refine ⟨by decide,by decide,by decide,b1 (by decide),[1],[],1,b1 (by decide),by decide,?_,by decide⟩;refine .step (by decide) (by decide) (b1 (by decide)) (by decide) (by decide) (by decide) ?_;exact .stop (by decide)
include hd hg hx hs in
theorem Q7b:FRun [x,d] 1 (λ_=>[x,d]):=by
 obtain ⟨m,hm⟩:=Q7r (x:=x) hd hx hs;refine ⟨⟨1,[[x,d],[1]],?_,rfl,?_⟩,by decide⟩
 ·rw [Qdq hd hg];refine .step (by show 1<2; decide) (by show 2<=1000; decide) (by show trim [x,d]=[x,d]; rw [Qnq,if_neg (by omega)]) (by show Bd 9000000 [x,d]; exact bd2 (by omega) (by omega)) ?_ ?_ (by show 1<=1000; decide) (m:=m) (g:=[1]) ?_
  ·show Bd 9000000 (Fg [x,d]);rw [Qom hd]; exact bd1 (by omega)
  ·show GRun m (G7 [x,d]) (G7 (Fg [x,d])) [1];rw [Qdq hd hg,Qom hd,Qke hd]; exact hm
  ·exact .stop (by show 1<=1; decide)
 ·intro k hk;have:k=0:=by omega
  subst this;exact ⟨[x,d],[1],[x,d],Qzj hd hx hs,div_one,by rw [Qdq hd hg,Q86]; exact Qzj hd hx hs,(Qdq hd hg).symm⟩
theorem Q29 {p:List Int} (hp:Um p) (h0:0<p.length):Uq [1] p=p:=by
 refine Qf9 (Gv _ _) hp λk=>?_
 unfold Uq;rw [if_neg (by
  rintro (h | h); · cases h
  ·omega),Ah]
 show (B8 [1] p (List.replicate (1+p.length-1) 0) 1).getD k 0=_;simp only [B8];rw [Qmo _ _ _ _ _ _ (by simp),So]
 split
 ·show 0+1*p.getD (k-0) 0=_;rw [K8]; omega
 ·rename_i h;rw [Qe,Qr (by omega)]; rfl
include hd hg hx hs in
theorem Q2f:ChRun [x,d] [x,d] [[x,d],[1]]:=by
 obtain ⟨m,hm⟩:=Qtv (x:=x) hd hx hs;have ht:Um [x,d]:=by show trim [x,d]=_; rw [Qnq,if_neg (by omega)]
 refine ⟨⟨1,λ_=>[x,d],Q7b hd hg hx hs,?_,?_⟩,⟨1,?_⟩,bd2 (by omega) (by omega),by show 2<=1000; decide,by show 2<=1000; decide⟩
 ·intro i hi;have:i=0:=by omega
  subst this;exact ⟨b1 (by decide),by show 1<=1000; decide,bd2 (by omega) (by omega),by show 2<=1000; decide⟩
 ·show [x,d]=Uq [1] [x,d];rw [Q29 ht (by show 0<2; decide)]
 ·have hz:Po (Fg [x,d])=[1]:=by
   rw [Qom hd];unfold Po;rw [if_neg (show ¬Fh [d]<0 from by show ¬d<0; omega),Qke hd]
  rw [hz];refine .step (by decide) (by decide) (b1 (by decide)) (m:=m) (r:=[]) hm rfl Iw (by decide) (by show 0<1; decide) (by show 1<=1000; decide) ?_;exact .stop (by decide)
end
theorem Zg0 {q:Rat} (h:Qs 1000000 q):Qyb q [[-q.num,(q.den:Int)],[1]]:=by
 refine ⟨[-q.num,(q.den:Int)],Q2f (den_pos q) ?_ (by rw [Gy]; exact h.1) h.2⟩;rw [Int.neg_gcd];have:=q.reduced;unfold Nat.Coprime at this;simpa [Int.gcd] using this
end Orr
namespace Orr
open Go Go.Proofs
set_option maxRecDepth 10000
theorem Zh3 {a b g:List Int} {n:Nat} (ta:Um a) (tb:Um b) (ha:Bd 9000000 a) (hb:Bd 9000000 b) (la:a.length<=1000) (lb:b.length<=1000) (hrun:GRun n (G7 a) (G7 b) g):Uh Tryz.prog 133 [.one (rp (zp a)),.one (rp (zp b))] [.one (rp (zp g))]:=by
 refine Ha Tryz.func133 rfl ?_;refine go tt [.c [] (Ar ta ha la),.c [] (Ar tb hb lb)] rfl trivial ?_;refine sb [(0,.v (.one (rp (zp (G7 a))))),(1,.v (.one (rp (zp (G7 b)))))] [] rfl rfl ?_;refine lp (S:=Nat×List Int×List Int) 0 (λL1 s=>(0,.v (.one (rp (zp s.2.1))))::(1,.v (.one (rp (zp s.2.2))))::L1) (λ_=>[]) (λs=>s.1) (λs=>GRun s.1 s.2.1 s.2.2 g) (n,G7 a,G7 b) hrun rfl (λ_ _=>rfl) rfl λ⟨k,x,y⟩ hs=>?_
 have hs:GRun k x y g:=hs;have hyl:=fzl y;rcases hs.inv with ⟨hk,hy0,hxg⟩ | ⟨j,m2,r,hk,hy0,hy1,hyb,hrr,hrl,hrb,hrt,hgr⟩
 ·rw [<-hxg];exact en tt [.f (decide_eq_false (by dsimp only; omega))] rfl rfl trivial
 ·subst hk;refine go tt [.t (decide_eq_true (by dsimp only; omega)),.c [] (Qy0 (a0:=x) (b:=y) (res:=r) hy0 hy1 hyb hrr),.c [] (Ar (p:=r) hrt hrb hrl)] rfl trivial ?_;exact rd (j,y,G7 r) (by dsimp only; omega) hgr rfl
theorem Zcb {x y:Int} (hx:Ur x<=9000000) (hy:Ur y<=9000000) (h0:y≠0) (hd:y∣x):Uh Tryz.prog 176 [.agg (fr (x:Rat)),.agg (fr (y:Rat))] [.agg (fr ((x / y:Int):Rat))]:=by
 have hy0:(y:Rat)≠0:=λe=>h0 (by exact_mod_cast e)
 have h:=Qvh (Ca (s:=40000000) (z:=x) (by omega) (by omega)) (Ca (s:=40000000) (z:=y) (by omega) (by omega)) hy0;obtain ⟨k,rfl⟩:=hd;rw [Xt _ h0];rwa [show (((y*k:Int):Rat)) / (y:Rat)=(k:Rat) by rw [Xx]; grind] at h
theorem Q19 {p:List Int} {c:Int} (hp:Bd 40000000 p) (hc:Ur c<=40000000) (hl:p.length<=1000000):Uh Tryz.prog 156 [.one (rp (zp p)),.agg (fr (c:Rat))] [.one (rp (zp (Uz p c)))]:=by
 have h:=Ek (Qbk hp (by omega)) (Ca hc (by omega)) (by rw [Ty]; exact hl);rwa [Qnd] at h
theorem Zfk (k:Nat) (p:List Int):frow (zp (List.replicate k 0))++frow (zp p)=frow (zp (D9 k p)):=by simp [zp,D9,frow]
theorem Q2x (l:List Int) (i:Nat) (z:Int):(frow (zp l)).set i [nd ((z:Rat)).num.natAbs,sg ((z:Rat)).num,nd (((z:Rat)).den:Int).natAbs,sg (((z:Rat)).den:Int)]=frow (zp (l.set i z)):=Qr9 l i z
theorem Zcm {p q:List Int} (hp:Bd 18000000 p) (hq:Bd 18000000 q) (hlp:p.length<=1000000) (hlq:q.length<=1000000):Mv Tryz.prog 106 [.one (rp (zp p)),.one (.orow 0 4 none)] [.row false 35 4 (frow (zp q))] [.one (rp (zp (Sx p q)))] [.gone]:=by
 have hn:=Qvs ((Qbk hq (by decide)).mono (by decide)) (by rw [Ty]; exact hlq);have ha:=Qvp (p:=zp p) (q:=Qkk (zp q)) ((Qbk hp (by decide)).mono (by decide)) ((Q9n (Qbk hq (by decide))).mono (by decide)) (by rw [Ty]; exact hlp) (Qd (Qtw _) (by rw [Ty]; exact hlq));have e:Qts (zp p) (Qkk (zp q))=zp (Sx p q):=Ze7 p q;rw [e] at ha;refine Ha Tryz.func106 rfl ?_;exact ed tt [] [0] [.c [] hn,.c [] ha] rfl trivial
theorem Q2a {a0 b qf rem:List Int} {n:Nat} (hb0:0<b.length) (hb1:b.length<=1000) (hl0:a0.length<=1000) (hbb:Bd 9000000 b) (hqb:Bd 9000000 qf) (hrun:DRun b n a0 (List.replicate (a0.length+1-b.length) 0) qf rem):Uh Tryz.prog 196 [.one (rp (zp a0)),.one (rp (zp b))] [.one (rp (zp (trim qf))),.one (rp (zp rem))]:=by
 have h0l:=fzl a0;have hbl:=fzl b;obtain ⟨N,hN⟩:=nmE (a0.length+1-b.length);rw [<-hN] at hrun;have cc:=Ix (p:=zp qf);rw [Ng] at cc;refine Ha Tryz.func196 rfl ?_;refine go tt [.r 18 (eI (b:=(N:Int)) (by omega)),.i N,.i N,.r 21 (eI (b:=(N:Int)) (by simp))] rfl (by simp [Uf]; omega) ?_;refine lp (S:=Nat) 1 (λL1 i=>(22,.v (.one (.int .i64 (i:Int))))::L1) (λi=>[.row false 35 4 (List.replicate i (fr 0)++List.replicate (N-i) zR)]) (λi=>N-i) (λi=>i<=N) 0 (Qg _) rfl (λ_ _=>rfl) rfl λi hi=>?_
 by_cases hlt:i<N
 ·refine go tt [.t (decide_eq_true (by omega)),.c [] Q5n,.i i] rfl (by simp [Uf]; omega) ?_;rw [Qox hlt];exact rd (i+1) (by omega) hlt rfl
 have hiN:i=N:=by omega
 rw [hiN,Qkz];clear hiN hlt hi;refine go tt [.f (decide_eq_false (by omega))] rfl trivial ?_;refine sb [(0,.v (.one (rp (zp a0)))),(1,.v (.one (rp (zp b)))),(6,.v (.one (.orow 0 4 none)))] [.row false 35 4 (frow (zp (List.replicate N 0)))] rfl rfl ?_;refine lp (S:=Nat×List Int×List Int) 1 (λL1 s=>(0,.v (.one (rp (zp s.2.1))))::L1) (λs=>[.row false 35 4 (frow (zp s.2.2))]) (λs=>s.1) (λs=>DRun b s.1 s.2.1 s.2.2 qf rem/\s.2.2.length=N) (n,a0,List.replicate N 0) ⟨hrun,Ja⟩ rfl (λ_ _=>rfl) rfl λ⟨k,a,q⟩ ⟨hr0,hr1⟩=>?_
 have hr0:DRun b k a q qf rem:=hr0;have hr1:q.length=N:=hr1;have hal:=fzl a;have hql:=fzl q;rcases hr0.inv with ⟨hk,hqf,har,hlt⟩ | ⟨j,hk,hba,hal2,hab,hpb,hpd,hkq,hrj⟩
 ·subst hqf; subst har;exact en tt [.f (decide_eq_false (by dsimp only; omega)),.c [] cc] rfl rfl trivial
 subst hk;obtain ⟨K,hK⟩:=nmE (a.length-b.length);rw [<-hK] at hrj hkq;have hla:Ur (Fh a)<=9000000:=Uu hab _;have hlb:Ur (Fh b)<=9000000:=Uu hbb _;obtain ⟨c,hc⟩:=nmE (Fh a / Fh b);have cq:=Zcb hla hlb hpb hpd;have hcs:Ur (Fh a / Fh b)<=9000000:=Qd (I9 _ _) hla;rw [<-hc] at cq hcs hrj;have hsl:=Me b c;have hqs:∀ x,(q.set K x).length=N:=λx=>by rw [Jl]; exact hr1
 dsimp only;refine go tt [.t (decide_eq_true (by omega)),.r 39 (eI (b:=(K:Int)) (by omega)),.r 43 (eI (b:=((a.length-1:Nat):Int)) (by omega)),.x (Hz (p:=a) (i:=a.length-1) (by omega)),.r 49 (eI (b:=((b.length-1:Nat):Int)) (by omega)),.x (Hz (p:=b) (i:=b.length-1) (by omega)),.c [] cq,.i K,.i K,.i K,.r 60 (eI (b:=(K:Int)) (by simp))] rfl (by simp [Uf,hql] <;> omega) ?_;rw [Q2x];refine lp (S:=Nat) 3 (λL1 i=>(61,.v (.one (.int .i64 (i:Int))))::L1) (λi=>[.row false 35 4 (frow (zp (q.set K c))),.blk 35 (fr (c:Rat)),.row false 35 4 (List.replicate i (fr 0)++List.replicate (K-i) zR)]) (λi=>K-i) (λi=>i<=K) 0 (Qg _) rfl (λ_ _=>rfl) rfl λi hi=>?_
 by_cases hlt:i<K
 ·refine go tt [.t (decide_eq_true (by omega)),.c [] Q5n,.i i] rfl (by simp [Uf]; omega) ?_;rw [Qox hlt];exact rd (i+1) (by omega) hlt rfl
 have hiK:i=K:=by omega
 rw [hiK,Qkz];clear hiK hlt hi;have hzl:=fzl (List.replicate K 0);rw [Ja] at hzl;have hpl:=fzl (Uz b c);refine go tt [.f (decide_eq_false (by omega))] rfl trivial ?_;refine sb [(10,.v (.one (.orow 2 4 none))),(9,.v (.one (.ow 1 0))),(0,.v (.one (rp (zp a)))),(1,.v (.one (rp (zp b)))),(6,.v (.one (.orow 0 4 none)))] [.row false 35 4 (frow (zp (q.set K c))),.blk 35 (fr (c:Rat)),.row false 35 4 (frow (zp (List.replicate K 0)))] rfl rfl ?_;have p2:=Zcm (p:=a) (q:=D9 K (Uz b c)) (Ug hab (by decide)) (Ug (Q1w (Np hbb hcs)) (by decide)) (by omega) (by rw [Qxr]; omega);rw [<-Zfk] at p2;refine go tt [.c [] (Q19 (c:=c) (Ug hbb (by decide)) (by omega) (by omega)),.s (sz:=4) (Qe7 (zp (Uz b c))),.c [2] p2] rfl (by simp [Uf,hzl,hpl]; omega) ?_;exact rd (j,Sx a (D9 K (Uz b c)),q.set K c) (by dsimp only; omega) ⟨hrj,hqs c⟩ rfl
def zls (l:List (List Int)):List (List LV):=l.map λp=>[rp (zp p)]
theorem Qa8 (l:List (List Int)):(zls l).length=l.length:=by simp [zls]
theorem Qel (l:List (List Int)) (g:List Int):zls l++[[rp (zp g)]]=zls (l++[g]):=by simp [zls]
theorem Qa7 {l:List (List Int)} {i:Nat} (h:i<l.length):(zls l)[i]? = some [rp (zp (l.getD i []))]:=Gz (Qwh h)
theorem Zeg (x:LV):∀ c∈[[x]],c.length=1:=λc hc=>by rw [Qn.1 hc]; rfl
theorem Qin {a b q:List Int} (h:DOk a b q):∃ r,Uh Tryz.prog 196 [.one (rp (zp a)),.one (rp (zp b))] [.one (rp (zp q)),.one (rp (zp r))]:=by
 obtain ⟨h1,h2,h3,h4,qf,r,n,h5,h6,h7,rfl⟩:=h;exact ⟨r,Q2a h1 h2 h3 h4 h5 h7⟩
theorem Qvr {a:List Int} {mf:Nat} {f:Nat->List Int} (ta:Um a) (ha:Bd 9000000 a) (la:a.length<=1000) (h2:2<=a.length) (hF:FRun a mf f):Uh Tryz.prog 155 [.one (rp (zp a))] [.one (.row (zls (Qkv f mf)))]:=by
 obtain ⟨⟨n,ls,hrun,hlen,hq⟩,hms⟩:=hF;have hal:=fzl a;refine Ha Tryz.func155 rfl ?_;refine go tt [.f (decide_eq_false (by omega)),.c [] (Ar ta ha la),.o 3 28 1,.lo] rfl trivial ?_;refine sb [(3,.v (.one (.orow 0 1 none))),(4,.v (.one (.orow 1 1 none)))] [.row false 28 1 [],.row false 28 1 (zls [G7 a])] rfl rfl ?_;refine lp (S:=Nat×List (List Int)) 2 (λL1 s=>(4,.v (.one (.orow 1 1 none)))::L1) (λs=>[.row false 28 1 [],.row false 28 1 (zls s.2)]) (λs=>s.1) (λs=>LRun s.1 s.2 ls/\0<s.2.length/\s.2.length<=1001) (n,[G7 a]) ⟨hrun,by show 0<1; decide,by show 1<=1001; decide⟩ rfl (λ_ _=>rfl) rfl λ⟨k,l⟩ ⟨hs1,hs2,hs3⟩=>?_
 have hs1:LRun k l ls:=hs1;have hs2:0<l.length:=hs2;have hs3:l.length<=1001:=hs3;have hll:=Qa8 l;have hlast:(zls l)[l.length-1]? = some [rp (zp (Pj l))]:=Qa7 (by omega);have hpl:=fzl (Pj l);dsimp only;rcases hs1.inv with ⟨hk,hlf,hl1⟩ | ⟨j,m2,g,hk,hg1,hg2,hg3,hg4,hg5,hg6,hg7,hlr⟩
 ·have hlm:l.length=mf+1:=by rw [hlf]; exact hlen
  rw [<-hlf] at hq;have hl2:=Qa8 (l++[[1]]);have hl3:(l++[[1]]).length=mf+2:=by simp [hlm]
  refine go tt [.r 23 (eI (b:=((l.length-1:Nat):Int)) (by omega)),.i (l.length-1),.x hlast,.f (decide_eq_false (by omega)),.c [] Qvt,.s (sz:=1) (Zeg _)] rfl (by simp [Uf,hll]; omega) ?_;rw [Qel];refine lp (S:=Nat) 2 (λL1 i=>(6,.v (.one (.int .i64 (i:Int))))::(3,.v (.one (.orow 0 1 none)))::L1) (λi=>[.row false 28 1 (zls (Qkv f i)),.row false 28 1 (zls (l++[[1]]))]) (λi=>mf-i) (λi=>i<=mf) 0 (Qg _) rfl (λ_ _=>rfl) rfl λi hi=>?_
  have htl:=Qa8 (Qkv f i);rw [Qt8] at htl;by_cases h:i<mf
  ·obtain ⟨x,y,z,hx,hy,hz,hf⟩:=hq i h;obtain ⟨rx,hdx⟩:=Qin hx;obtain ⟨ry,hdy⟩:=Qin hy;obtain ⟨rz,hdz⟩:=Qin hz;refine go tt [.t (decide_eq_true (by omega)),.i i,.x (Qa7 (by omega)),.i (i+1),.x (Qa7 (by omega)),.c [] hdx,.i (i+1),.x (Qa7 (by omega)),.i (i+2),.x (Qa7 (by omega)),.c [] hdy,.c [] (Ar hx.trim hx.bd hx.len),.c [] (Ar hy.trim hy.bd hy.len),.c [] hdz,.c [] (Ar hz.trim hz.bd hz.len),.s (sz:=1) (Zeg _)] rfl (by simp [Uf,hl2,htl]; omega) ?_;exact rd (i+1) (by omega) h (by rw [Qel,Q3z,hf]; rfl)
  ·have e:i=mf:=by omega
   rw [e];exact en tt [.f (decide_eq_false (by omega))] rfl rfl (by simp [Uf]; omega)
 ·subst hk;refine go tt [.r 23 (eI (b:=((l.length-1:Nat):Int)) (by omega)),.i (l.length-1),.x hlast,.t (decide_eq_true (by omega)),.r 31 (eI (b:=((l.length-1:Nat):Int)) (by omega)),.i (l.length-1),.x hlast,.c [] (Qvq (Ug hg4 (by decide)) (by omega)),.c [] (Zh3 hg3 (Uv _ _) hg4 hg5 hg2 (Qd (Sr _) (by omega)) hg6),.s (sz:=1) (Zeg _)] rfl (by simp [Uf,hll]; omega) ?_;exact rd (j,l++[g]) (by dsimp only; omega) ⟨hlr,by simp,by simp; omega⟩ (by rw [Qel]; rfl)
theorem Q2b {a:List Int} {mf:Nat} {f:Nat->List Int} (ta:Um a) (ha:Bd 9000000 a) (la:a.length<=1000) (h2:2<=a.length) (hF:FRun a mf f) (hP:Zkn mf f):Uh Tryz.prog 102 [.one (rp (zp a))] [.one (rp (zp (Aa f mf)))]:=by
 have hms:=hF.small;have hal:=fzl a;have htl:=Qa8 (Qkv f mf);rw [Qt8] at htl;refine Ha Tryz.func102 rfl ?_;refine go tt [.f (decide_eq_false (by omega)),.c [] Qvt,.c [] (Qvr ta ha la h2 hF)] rfl trivial ?_;refine lp (S:=Nat) 0 (λL1 i=>(15,.v (.one (.int .i64 (i:Int))))::(3,.v (.one (rp (zp (Aa f i)))))::L1) (λ_=>[]) (λi=>mf-i) (λi=>i<=mf) 0 (Qg _) rfl (λ_ _=>rfl) rfl λi hi=>?_
 by_cases h:i<mf
 ·obtain ⟨g1,g2,g3,g4⟩:=hP i h;refine go tt [.t (decide_eq_true (by omega)),.x (Gz (f:=λp=>[rp (zp p)]) (Zar h)),.c [] (Qbs (p:=Aa f i) (q:=f i) (by omega) (by omega) g1 g3 (by decide))] rfl (by simp [Uf]; omega) ?_;exact rd (i+1) (by omega) h rfl
 ·have e:i=mf:=by omega
  rw [e];exact en tt [.f (decide_eq_false (by omega))] rfl rfl trivial
theorem Q24 {l:List (List Int)} (g:List Int) (h:0<l.length):(zls l++[[rp (zp g)]])[l.length-1]? = some [rp (zp (Pj l))]:=by
 rw [Zo (by rw [Qa8]; omega)];exact Qa7 (by omega)
theorem Q5u {a sq:List Int} {c:List (List Int)} (ta:Um a) (ha:Bd 9000000 a) (la:a.length<=1000) (h2:2<=a.length) (hC:ChRun a sq c):Uh Tryz.prog 49 [.one (rp (zp a))] [.one (.row (zls c))]:=by
 obtain ⟨⟨mf,f,hF,hP,rfl⟩,⟨n,hcr⟩,hbd,hle,hsm⟩:=hC;refine Ha Tryz.func49 rfl ?_;refine go tt [.c [] (Q2b ta ha la h2 hF hP),.lo,.c [] (Qvq (p:=Aa f mf) (Ug hbd (by decide)) (by omega)),.c [] (Qre (p:=Fg (Aa f mf)) (Uv _ _) (Ug (Qha (t:=10) hbd (by omega)) (by decide)) (Qd (Sr _) (by omega)))] rfl trivial ?_;refine sb [(5,.v (.one (rp (zp (Po (Fg (Aa f mf))))))),(4,.v (.one (.orow 0 1 none)))] [.row false 28 1 (zls [Aa f mf])] rfl rfl ?_;refine lp (S:=Nat×List (List Int)×List Int) 1 (λL1 s=>(5,.v (.one (rp (zp s.2.2))))::(4,.v (.one (.orow 0 1 none)))::L1) (λs=>[.row false 28 1 (zls s.2.1)]) (λs=>s.1) (λs=>CRun s.1 s.2.1 s.2.2 c/\0<s.2.1.length/\s.2.1.length<=1001) (n,[Aa f mf],Po (Fg (Aa f mf))) ⟨hcr,by show 0<1; decide,by show 1<=1001; decide⟩ rfl (λ_ _=>rfl) rfl λ⟨k,l,g⟩ ⟨hs1,hs2,hs3⟩=>?_
 have hs1:CRun k l g c:=hs1;have hs2:0<l.length:=hs2;have hs3:l.length<=1001:=hs3;have hll:=Qa8 l;have hgl:=fzl g;dsimp only;rcases hs1.inv with ⟨hk,hlf,hg0⟩ | ⟨j,m2,r,hk,hg1,hg2,hg3,hrr,hrt,hrb,hrl,hl0,hl1,hcj⟩
 ·subst hlf;exact en tt [.f (decide_eq_false (by omega))] rfl rfl trivial
 ·subst hk;refine go tt [.t (decide_eq_true (by omega)),.s (sz:=1) (Zeg _),.r 23 (eI (b:=((l.length-1:Nat):Int)) (by simp; omega)),.i (l.length-1),.x (Q24 g hl0),.c [] (Qy0 (a0:=Pj l) (b:=g) (res:=r) hg1 hg2 hg3 hrr),.c [] (Qre (p:=r) hrt hrb hrl),.c [] (Qvo (p:=Po r) (Q1v hrb) (Qd (Qwo r) (by omega)))] rfl (by simp [Uf,hll]; omega) ?_;exact rd (j,l++[g],H5 (Po r)) (by dsimp only; omega) ⟨hcj,by simp,by simp; omega⟩ (by rw [Qel]; rfl)
theorem Zkv {q:Rat} (h1:Ur q.num<=1000000) (h2:Ur (q.den:Int)<=1000000):Bd 9000000 [-q.num,(q.den:Int)]:=λz hz=>by
 simp only [Qo,X8,or_false] at hz;rcases hz with rfl | rfl
 ·rw [Gy]; omega
 ·omega
abbrev aq (q:Rat) (c:List (List Int)):List LV:=[rp (zp [-q.num,(q.den:Int)]),.row (zls c)]++fr q++fr q
theorem Qf7 {q:Rat} {c:List (List Int)} (hq:Qs 1000000 q) (hC:Qyb q c):Uh Tryz.prog 8 [.agg (fr q)] [.agg (aq q c)]:=by
 obtain ⟨sq,hch⟩:=hC;have co:=Cd (n:=1) (by decide);exact w tt Tryz.func8 rfl [.c [] co,.c [] (Pp (n:=q.num)),.c [] (Q47 (z:=q.num)),.c [] co,.c [] (Pp (n:=(q.den:Int))),.c [] (Q5u (a:=[-q.num,(q.den:Int)]) (Q1l q) (Zkv hq.1 hq.2) (by show 2<=1000; decide) (Qm 2) hch)] rfl rfl trivial
theorem Qrf {q:Rat} {c:List (List Int)} (hq:Qs 1000000 q):Uh Tryz.prog 75 [.agg (aq q c)] [.one (.bool true)]:=by
 have cr:=Zcf (a:=q) (b:=q) (hq.mono (by decide)) (hq.mono (by decide));rw [Nt] at cr;exact w tt Tryz.func75 rfl [.c [] cr] rfl rfl trivial
theorem Q3h {p:List Int} (h:p.length=0) (q:Rat):U9 p q=0:=by rw [Qi h]; rfl
theorem Qyz {p:List Int} {q:Rat} {c:List (List Int)} (hp:Bd 30000000 p) (hl:p.length<=64) (hq:Qs 1000000 q):Uh Tryz.prog 76 [.one (rp (zp p)),.agg (aq q c)] [.one (.bool (decide (U9 p q=0)))]:=by
 have hpl:=fzl p;rcases Qy p.length with h0 | h0
 ·rw [decide_eq_true (Q3h h0 q)];exact w tt Tryz.func76 rfl [.t (decide_eq_true (by omega))] rfl rfl trivial
 ·exact w tt Tryz.func76 rfl [.f (decide_eq_false (by omega)),.c [] (Qrf hq),.t rfl,.c [] (Qyy hp hl hq)] rfl rfl trivial
theorem Qli {p:List Int} {q:Rat} {c:List (List Int)} (hp:Bd 30000000 p) (hl:p.length<=64) (hq:Qs 1000000 q):Uh Tryz.prog 51 [.one (rp (zp p)),.agg (aq q c)] [.one (.int .i64 (U9 p q))]:=by
 by_cases h0:U9 p q=0
 ·have cz:=Qyz (c:=c) hp hl hq;rw [h0] at cz ⊢;exact w tt Tryz.func51 rfl [.c [] cz,.t rfl] rfl rfl trivial
 ·exact w tt Tryz.func51 rfl [.c [] (Qyz hp hl hq),.f (decide_eq_false h0),.c [] (Qrf hq),.g 11 true rfl,.t rfl,.c [] (Qyy hp hl hq)] rfl rfl trivial
theorem Qcy {p:List Int} {q:Rat} {c:List (List Int)} (hp:Bd 20000000 p) (hl:p.length<=64) (hq:Qs 1000000 q):Uh Tryz.prog 11 [.one (rp (zp p)),.agg (aq q c)] [.one (.int .i64 (Fc p q))]:=by
 refine Ha Tryz.func11 rfl ?_;refine go tt [] rfl trivial ?_;refine lp (S:=List Int) 1 (λL1 r=>(0,.v (.one (rp (zp r))))::L1) (λ_=>[.blk 37 (aq q c)]) (λr=>r.length) (λr=>r.length<=64/\Bd (25000000-30*r.length) r/\Hd (λp=>U9 p q) r.length r=Fc p q) p ⟨hl,Ug hp (by omega),rfl⟩ rfl (λ_ _=>rfl) rfl λr ⟨hr0,hr1,hr2⟩=>?_
 have hrl:=fzl r;rcases Qy r.length with h0 | h0
 ·rw [Qgf _ h0] at hr2;exact en tt [.f (decide_eq_false (by omega))] rfl (by rw [<-hr2]) trivial
 by_cases hs:U9 r q=0
 ·have hd:=Sr r;refine go tt [.t (decide_eq_true (by omega)),.c [] (Qli (p:=r) (c:=c) (Ug hr1 (by omega)) hr0 hq),.f (decide_eq_false (λh=>h hs)),.c [] (Qvq (p:=r) (Ug hr1 (by omega)) (by omega))] rfl trivial ?_;exact rd (Fg r) (by omega) ⟨by omega,Ug (Qha (t:=6) hr1 (by omega)) (by omega),by rw [<-hr2,Qge _ h0 hs]⟩ rfl
 ·exact en tt [.t (decide_eq_true (by omega)),.c [] (Qli (p:=r) (c:=c) (Ug hr1 (by omega)) hr0 hq),.t (decide_eq_true hs)] rfl (by rw [<-hr2,Qgd _ h0 hs]) trivial
end Orr
namespace Orr
def Lv (p:List Int) (d:Int):List Rat:=p.map λ(z:Int)=>(z:Rat) / (d:Rat)
theorem Ma (p:List Int) (d:Int):(Lv p d).length=p.length:=Zc _
theorem Zfa {p:List Int} {i:Nat} {z:Int} {d:Int} (h:p[i]? = some z):(Lv p d)[i]? = some ((z:Rat) / (d:Rat)):=by simp [Lv,h]
theorem Qko (p:List Int) (d:Int) (i:Nat):(Lv p d).getD i 0=((p.getD i 0:Int):Rat) / (d:Rat):=by
 simp only [Qe,Lv,Za];cases p[i]? with
 | none=>simp; grind
 | some z=>rfl
theorem Ax (z d:Int):(z:Rat) / (d:Rat)=Rat.divInt z d:=by
 by_cases h:d=0
 ·subst h; simp; grind
 ·rw [J8];have e1:(z:Rat)=Rat.divInt z 1:=by have:=Zv (z:Rat); simpa using this.symm
  have e2:(d:Rat)⁻¹=Rat.divInt 1 d:=by
   have:(d:Rat)=Rat.divInt d 1:=by have:=Zv (d:Rat); simpa using this.symm
   rw [this,Rat.inv_divInt]
  rw [e1,e2,Kr];simp
theorem Zc8 {z d:Int} (hd:0<d):(((z:Rat) / (d:Rat)).den:Int)*(Int.gcd z d:Nat)=d:=by
 rw [Ax];have h:=(Qpb (n:=z) hd).2;rw [<-h,M4,Int.gcd_comm];exact K9 (Vo ..)
theorem Q72 {d a b L:Nat} (hd:0<d) (ha:L*a=d) {D:Nat} (hb:D*b=d):L*D / Nat.gcd L D*Nat.gcd a b=d:=by
 have hL:0<L:=Wl λe=>by rw [e] at ha; omega
 have hD:0<D:=Wl λe=>by rw [e] at hb; omega
 have hg:0<Nat.gcd L D:=Nat.gcd_pos_of_pos_left _ hL;show Nat.lcm L D*Nat.gcd a b=d;rw [<-Nat.gcd_mul_left];refine Nat.dvd_antisymm ?_ ?_
 ·-- gcd (M a) (M b) | d
  obtain ⟨u,hu⟩:=Kk L D;obtain ⟨v,hv⟩:=Wv L D;have hM:Nat.lcm L D=Nat.gcd L D*(u*v):=by
   unfold Nat.lcm
   conv=>lhs; rw [show L*D=Nat.gcd L D*u*(Nat.gcd L D*v) by rw [<-hu,<-hv]]
   rw [show Nat.gcd L D*u*(Nat.gcd L D*v)=Nat.gcd L D*(Nat.gcd L D*(u*v)) by rw [Xn,Kf u,]];exact Nat.mul_div_cancel_left _ hg
  have h1:Nat.lcm L D*a=v*d:=by
   rw [hM,<-ha]
   conv=>rhs; rw [hu]
   simp [Zj,Kf,Xn]
  have h2:Nat.lcm L D*b=u*d:=by
   rw [hM,<-hb]
   conv=>rhs; rw [hv]
   simp [Zj,Kf,Xn]
  have huv:Nat.gcd u v=1:=by
   have:=Nat.gcd_mul_left (Nat.gcd L D) u v;rw [<-hu,<-hv] at this;exact Nat.eq_of_mul_eq_mul_left hg (by omega)
  rw [h1,h2,Ww,K7,huv,Wh];exact Nat.dvd_refl d
 ·refine Nat.dvd_gcd ?_ ?_
  ·rw [<-ha]; exact Nat.mul_dvd_mul_right (Nat.dvd_lcm_left L D) a
  ·rw [<-hb]; exact Nat.mul_dvd_mul_right (Nat.dvd_lcm_right L D) b
def lcd (z:List Int) (d:Int):Nat->Int
 | 0=>1
 | i+1=>lcd z d i*((((z.getD i 0:Int):Rat) / (d:Rat)).den:Int) / (Int.gcd (lcd z d i) ((((z.getD i 0:Int):Rat) / (d:Rat)).den:Int):Nat)
theorem Qwn {z:List Int} {d:Int} (hd:0<d):∀ i,i<=z.length->lcd z d i*((Gj (d::z.take i):Nat):Int)=d
 |
  0,_=>by
  show 1*_=d;have:((Gj [d]:Nat):Int)=d:=by unfold Gj; simp; omega
  rw [Vr,this,Y3]
 |
  i+1,hi=>by
  have ih:=Qwn (z:=z) hd i (by omega);have hz:z[i]? = some (z.getD i 0):=Qfa (l:=z) (by omega);have hstep:Gj (d::z.take (i+1))=Nat.gcd (Gj (d::z.take i)) (z.getD i 0).natAbs:=by
   have:=Ql9 (l:=d::z) (i:=i+1) (z:=z.getD i 0) (by simpa using hz);simpa using this
  have hdn:=Zc8 (z:=z.getD i 0) hd;simp only [lcd];generalize hL:lcd z d i=L at *;generalize hD:(((z.getD i 0:Int):Rat) / (d:Rat)).den=D at *;have hLp:0<L:=by
   rcases Ju L 0 with h | h | h
   ·have:=Int.mul_nonneg (Int.neg_nonneg_of_nonpos (Kx h)) (Int.natCast_nonneg (Gj (d::z.take i)));rw [Vk] at this; omega
   ·rw [h,Ya] at ih; omega
   ·exact h
  obtain ⟨l,rfl⟩:=Yi (Kx hLp);obtain ⟨e,rfl⟩:=Yi (Kx hd);have h1:l*Gj (((e:Nat):Int)::z.take i)=e:=by exact_mod_cast ih
  have h2:D*Int.gcd (z.getD i 0) ((e:Nat):Int)=e:=by exact_mod_cast hdn
  have h3:=Q72 (d:=e) (by omega) h1 h2;have h4:Nat.gcd (Gj (((e:Nat):Int)::z.take i)) (Int.gcd (z.getD i 0) ((e:Nat):Int))=Nat.gcd (Gj (((e:Nat):Int)::z.take i)) (z.getD i 0).natAbs:=by
   have hge:Gj (((e:Nat):Int)::z.take i)∣e:=⟨l,by rw [Zj]; exact h1.symm⟩;show Nat.gcd _ (Nat.gcd (z.getD i 0).natAbs e)=_;rw [K7 (z.getD i 0).natAbs e,<-Nat.gcd_assoc,Nat.gcd_eq_left hge]
  rw [hstep,<-h4];rw [show Int.gcd ((l:Nat):Int) ((D:Nat):Int)=Nat.gcd l D by simp [Int.gcd]]
  exact_mod_cast h3
theorem Zdr {x y:List Int} {d:Int} (hd:0<d) (hg:Gj (d::(x++y))=1):lcd (x++y) d (x++y).length=d:=by
 have:=Qwn (z:=x++y) hd (x++y).length (Qm _);rw [Q5,hg] at this;simpa using this
theorem Zdt {z:List Int} {d:Int} (hd:0<d) {i:Nat} (hi:i<=z.length):Ur (lcd z d i)<=Ur d:=by
 have h:=Qwn (z:=z) hd i hi;refine Hl ?_;have h0:Gj (d::z.take i)≠0:=λe=>by rw [e] at h; simp at h; omega
 have:d.natAbs=(lcd z d i).natAbs*Gj (d::z.take i):=by
  conv=>lhs; rw [<-h]
  rw [Jp]; simp
 rw [this];exact Jt _ (Wl h0)
end Orr
namespace Orr
open Go Go.Proofs
set_option maxRecDepth 10000
abbrev cl4 (k:Crv):List LV:=[pl k.x,pl k.y,sg k.d,mg k.d]
abbrev B6 (c:Crv):List LV:=[rp (Lv c.x c.d),rp (Lv c.y c.d)]++cl4 c
def Bl (p:Pt):List LV:=B6 p.c++[.int .i64 p.id]
def U8 (l:List Pt):List (List LV):=l.map Bl
structure Rs (k:Crv):Prop where
 n:Nml k
 c:Cs 100000 16 k
theorem Rs.d0 {k:Crv} (h:Rs k):0<k.d:=h.n.2.2.1
theorem Qcc {x:List Int} {d:Int} {s:Nat} (hx:Bd s x) (hd:Ur d<=s) (h1:1<=s):Rb s (Lv x d):=λq hq=>by
 obtain ⟨z,hz,rfl⟩:=Zi.1 hq;rw [Ax];exact Qs.divInt (hx z hz) hd h1
theorem Qkl {x:List Int} {d:Int} (tx:Um x) (hd:d≠0):Sy (Lv x d) (d:Rat)=zp x:=by
 have hd':(d:Rat)≠0:=λe=>hd (by exact_mod_cast e)
 unfold Sy;rw [Qh6 (g:=λi=>x.getD i 0) _ λi _=>?_,Ma,Qjs,Ng,tx];rw [Qko]; grind
theorem Qrh {p:List Rat} {c:Int} (hp:Rb 40000000 p) (hc:Ur c<=40000000) (hl:p.length<=1000000):Uh Tryz.prog 230 [.one (rp p),.agg (ri c)] [.one (rp (Sy p (c:Rat)))] :=
 w tt Tryz.func230 rfl [.c [] (Cd (n:=1) (by decide)),.c [] (Pp (n:=c)),.c [] (Ek (p:=p) (c:=(c:Rat)) hp (Ca hc (by omega)) hl)] rfl rfl trivial
theorem Ze9 (x y:List Int) (d:Int):frow (Lv x d)++frow (Lv y d)=frow (Lv (x++y) d):=by simp [Lv,frow]
theorem Qd2 {z:List Int} {d:Int} {i:Nat} (h:i<z.length):(Lv z d)[i]? = some (((z.getD i 0:Int):Rat) / (d:Rat)):=Zfa (Qfa h)
theorem Qk4 (a b:Int) (hb:b≠0) {s:Nat} (h:Ur b<=s):Ur ((Int.gcd a b:Nat):Int)<=s:=by
 refine Qd (Hl ?_) h;simp only [Xa];exact V1 (by omega) (by simpa using Xw.2 (Vo a b))
theorem Zds (a b:Int):(a*b) % ((Int.gcd a b:Nat):Int)=0:=Jq (Vd (Wx ..) (Wq a b))
theorem Qlk {k:Crv} (hs:Rs k):Uh Tryz.prog 190 [.one (rp (Lv k.x k.d)),.one (rp (Lv k.y k.d))] [.agg (B6 k)]:=by
 have hlx:=hs.c.lx;have hly:=hs.c.ly;have hds:=hs.c.d;have hxy:Bd 100000 (k.x++k.y):=λz hz=>by rcases Qw.1 hz with h | h; exact hs.c.x z h; exact hs.c.y z h
 have hfx:(frow (Lv k.x k.d)).length=k.x.length:=by rw [Rq,Ma]
 have hfy:(frow (Lv k.y k.d)).length=k.y.length:=by rw [Rq,Ma]
 have hfl:(frow (Lv (k.x++k.y) k.d)).length=k.x.length+k.y.length:=by rw [Rq,Ma,Q6]
 have hd0:=hs.d0;refine Ha Tryz.func190 rfl ?_;refine go tt [.c [] (Cd (n:=1) (by decide)),.s (sz:=4) (Qe7 _),.s (sz:=4) (Qe7 _)] rfl (by simp [Uf,hfx,hfy]; omega) ?_;rw [Ze9];refine lp (S:=Nat) 3 (λL1 i=>(15,.v (.one (.int .i64 (i:Int))))::L1) (λi=>[.blk 59 [.nils,.nils,.nils,.nils,.bool false,.nils],.blk 33 (ri (lcd (k.x++k.y) k.d i)),.row false 35 4 (frow (Lv (k.x++k.y) k.d))]) (λi=>k.x.length+k.y.length-i) (λi=>i<=k.x.length+k.y.length) 0 (Qg _) rfl (λ_ _=>rfl) rfl λi hi=>?_
 have hll:(k.x++k.y).length=k.x.length+k.y.length:=Q6;by_cases h:i<k.x.length+k.y.length
 ·have hlt:i<(k.x++k.y).length:=by omega
  have hqe:=Qcc (x:=(k.x++k.y)) (d:=k.d) (s:=100000) hxy hs.c.d (by decide);have hqi:=hqe.get (Qd2 hlt);obtain ⟨D,hD⟩:=nmE (((((k.x++k.y).getD i 0:Int):Rat) / (k.d:Rat)));have hg:=Dt (Qd2 (d:=k.d) hlt);have es:lcd (k.x++k.y) k.d (i+1)=lcd (k.x++k.y) k.d i*(D.den:Int) / ((Int.gcd (lcd (k.x++k.y) k.d i) (D.den:Int):Nat):Int):=by rw [hD]; rfl
  rw [<-hD] at hqi hg;have hq2:=hqi.2;have hli:=Qd (Zdt (z:=(k.x++k.y)) hs.d0 (i:=i) (by omega)) hs.c.d;have hg0:((Int.gcd (lcd (k.x++k.y) k.d i) (D.den:Int):Nat):Int)≠0:=by have:=Int.gcd_ne_zero_right (a:=(lcd (k.x++k.y) k.d i)) (Nu D); omega
  have hmu:=U6 (lcd (k.x++k.y) k.d i) (D.den:Int);refine go tt [.t (decide_eq_true (by omega)),.i i,.x hg,.c [] (Sj (a:=lcd (k.x++k.y) k.d i) (b:=(D.den:Int)) (by omega) (by omega)),.i i,.x hg,.c [] (Qil (a:=lcd (k.x++k.y) k.d i) (b:=(D.den:Int)) (by omega) (by omega)),.c [] (Qew (by omega) (Qd (Qk4 _ _ (Nu D) hq2) (by decide)) hg0 (Zds _ _))] rfl (by simp [Uf,hfl]; omega) ?_;exact rd (i+1) (by omega) h (by rw [es]; rfl)
 have e:lcd (k.x++k.y) k.d i=k.d:=by rw [show i=(k.x++k.y).length by omega]; exact Zdr hs.d0 hs.n.2.2.2
 rw [e];have hx:=Qrh (p:=Lv k.x k.d) (c:=k.d) ((Qcc (s:=100000) hs.c.x hs.c.d (by decide)).mono (by omega)) (by omega) (by rw [Ma]; omega);have hy:=Qrh (p:=Lv k.y k.d) (c:=k.d) ((Qcc (s:=100000) hs.c.y hs.c.d (by decide)).mono (by omega)) (by omega) (by rw [Ma]; omega);rw [Qkl hs.n.1 (by omega)] at hx;rw [Qkl hs.n.2.1 (by omega)] at hy;exact en tt [.f (decide_eq_false (by omega)),.c [] hx,.c [] (Zge (p:=k.x) (Ug hs.c.x (by omega)) (by omega)),.c [] hy,.c [] (Zge (p:=k.y) (Ug hs.c.y (by omega)) (by omega)),.c [] (Q5j (z:=k.d) (by omega))] rfl rfl trivial
theorem Qp5 (k:Crv):Gd 1 k.d'=((1:Int):Rat) / (k.d':Rat):=by
 unfold Gd; rw [if_neg k.d'_ne,Ax]
theorem Qgt {x:List Int} {g d:Int} (hg:g≠0) (hd:d≠0) (hgd:g∣d) (tx:Um x) (hx:∀ z∈x,g∣z):Sy (zp x) (((1:Int):Rat) / (d:Rat))=Lv (trim (x.map (· / g))) (d / g):=by
 have ht:Um (x.map (· / g)):=La tx hg hx;rw [show trim (x.map (· / g))=x.map (· / g) from ht];obtain ⟨e,rfl⟩:=hgd;have he:e≠0:=λh=>hd (by rw [h,Kb])
 rw [Xt _ hg];have hgq:(g:Rat)≠0:=λh=>hg (by exact_mod_cast h)
 have heq:(e:Rat)≠0:=λh=>he (by exact_mod_cast h)
 unfold Sy;rw [Ty];have hval:∀ i,i<x.length->(zp x).getD i 0*(((1:Int):Rat) / ((g*e:Int):Rat))=(((x.map (· / g)).getD i 0:Int):Rat) / (e:Rat):=λi hi=>by
  rw [Qem];have hz:=Qfa hi;have hm:(x.map (· / g)).getD i 0=x.getD i 0 / g:=by simp [Qe,Qf hi]
  obtain ⟨w,hw⟩:=hx _ (Qa hz);rw [hm,hw,Xt _ hg,Xx,Xx];have:((1:Int):Rat)=1:=rfl;rw [this];grind
 have htab:Ib (λi=>(zp x).getD i 0*(((1:Int):Rat) / ((g*e:Int):Rat))) x.length=Lv (x.map (· / g)) e:=by
  apply Xq;intro i;by_cases hi:i<x.length
  ·rw [Qd2 (by simpa using hi)];simp only [Ib,Za,Xz hi,Jy];rw [hval i hi]
  ·rw [Qr (by rw [Qd8]; omega),Qr (by rw [Ma]; simp; omega)]
 rw [htab];rcases Qy x.length with h0 | h0
 ·have:=Qi h0; subst this; rfl
 ·have hl:(Lv (x.map (· / g)) e).length=x.length:=by rw [Ma,Zc]
  have:=Qfu (l:=Lv (x.map (· / g)) e) (m:=x.length) (by omega) (λj y hj hy=>by rw [Qr (by omega)] at hy; cases hy) (λ_=>⟨_,Qd2 (z:=x.map (· / g)) (d:=e) (i:=x.length-1) (by rw [Zc]; omega),λh=>by
   have h3:(((x.map (· / g)).getD (x.length-1) 0:Int):Rat)=0:=by grind
   have h4:(x.map (· / g)).getD (x.length-1) 0=0:=by exact_mod_cast h3
   have:=Gw ht (by rw [Zc]; omega);rw [Zc] at this;exact this h4⟩)
  rw [this,Qj (by omega)]
theorem Q9m {k:Crv} (hk:Cs 100000 16 k):Qs 40000000 (Gd 1 k.d'):=by
 have h1:=Qo4 hk.d (by decide);rw [Qp5,Ax];exact Qs.divInt (by decide) (by omega) (by decide)
theorem Crv.g_dvd' (k:Crv) {z:Int} (h:z∈k.d'::(trim k.x++trim k.y)):k.g∣z:=Yh (k.g_dvd z h)
theorem Q9y (k:Crv):Sy (zp (trim k.x)) (Gd 1 k.d')=Lv k.norm.x k.norm.d:=by
 rw [Qp5];exact Qgt k.g_ne k.d'_ne (k.g_dvd' (by simp)) (He _) (λz hz=>k.g_dvd' (by simp [hz]))
theorem Q9z (k:Crv):Sy (zp (trim k.y)) (Gd 1 k.d')=Lv k.norm.y k.norm.d:=by
 rw [Qp5];exact Qgt k.g_ne k.d'_ne (k.g_dvd' (by simp)) (He _) (λz hz=>k.g_dvd' (by simp [hz]))
theorem Q1d {k:Crv} (h:Cs 100000 16 k):Rs k.norm:=⟨k.nml,h.norm (by decide)⟩
theorem Zcn {k:Crv} (hk:Cs 100000 16 k):Uh Tryz.prog 152 [.agg (cl4 k)] [.agg (B6 (Crv.norm k))]:=by
 have hlx:=hk.lx;have hly:=hk.ly;have hkd:=hk.d;have hrq:=Q9m hk;have hdi:Ur k.d'<=100000:=Qo4 hk.d (by decide);have hx:=Ek (p:=zp (trim k.x)) (c:=Gd 1 k.d') (Qbk (Ug (Rf hk.x) (by omega)) (by omega)) hrq (by rw [Ty]; have:=G0 k.x; omega);have hy:=Ek (p:=zp (trim k.y)) (c:=Gd 1 k.d') (Qbk (Ug (Rf hk.y) (by omega)) (by omega)) hrq (by rw [Ty]; have:=G0 k.y; omega);rw [Q9y] at hx;rw [Q9z] at hy;have c1:=Cd (n:=1) (by decide);have cm:=Qct (a:=1) (b:=k.d') (by decide) (by omega);by_cases h0:k.d=0
 ·have e:k.d'=1:=by unfold Crv.d'; rw [if_pos h0]
  rw [e] at hx hy cm;exact w tt Tryz.func152 rfl [.c [] (Qn2 (z:=k.d) (by omega)),.c [] P8,.t (decide_eq_true h0),.c [] c1,.c [] c1,.c [] cm,.c [] (Qae (p:=k.x) (Ug hk.x (by omega)) (by omega)),.c [] hx,.c [] (Qae (p:=k.y) (Ug hk.y (by omega)) (by omega)),.c [] hy,.c [] (Qlk (Q1d hk))] rfl rfl trivial
 ·have e:k.d'=k.d:=by unfold Crv.d'; rw [if_neg h0]
  rw [e] at hx hy cm;exact w tt Tryz.func152 rfl [.c [] (Qn2 (z:=k.d) (by omega)),.c [] P8,.f (decide_eq_false h0),.c [] c1,.c [] cm,.c [] (Qae (p:=k.x) (Ug hk.x (by omega)) (by omega)),.c [] hx,.c [] (Qae (p:=k.y) (Ug hk.y (by omega)) (by omega)),.c [] hy,.c [] (Qlk (Q1d hk))] rfl rfl trivial
theorem Q5x {k:Crv} {id:Int} (hk:Cs 100000 16 k):Uh Tryz.prog 93 [.agg (cl4 k++[.int .i64 id])] [.agg (Bl ⟨Crv.norm k,id⟩)] :=
 w tt Tryz.func93 rfl [.c [] (Zcn hk)] rfl rfl trivial
theorem Qbt {k:Crv} (hk:Rs k):Uh Tryz.prog 53 [.agg (B6 k)] [.one (rp (zp k.x)),.one (rp (zp k.y)),.one (rp (zp [k.d]))]:=by
 have hlx:=hk.c.lx;have hly:=hk.c.ly;have hkd:=hk.c.d;have hx:=Qae (p:=k.x) (Ug hk.c.x (by omega)) (by omega);have hy:=Qae (p:=k.y) (Ug hk.c.y (by omega)) (by omega);rw [show trim k.x=k.x from hk.n.1] at hx;rw [show trim k.y=k.y from hk.n.2.1] at hy;exact w tt Tryz.func53 rfl [.c [] (Qn2 (z:=k.d) (by omega)),.c [] (Cd (n:=1) (by decide)),.c [] (Pp (n:=k.d)),.c [] hx,.c [] hy] rfl rfl trivial
theorem Zhg {s:Nat} {d:Int} (h:Ur d<=s):Bd s [d]:=λz hz=>by simp at hz; subst hz; exact h
theorem Rs.dn {k:Crv} (h:Rs k):k.d≠0:=by have:=h.d0; omega
end Orr
namespace Orr
open Go
structure RawInt where
 b:Bool
 l:List Nat
structure RawPt where
 x:List RawInt
 y:List RawInt
 d:RawInt
 id:Int
abbrev Qfs (z:RawInt):List LV:=[.bool z.b,Zj2 z.l]
structure RawInt.Ok (z:RawInt):Prop where
 u:∀ u∈z.l,u<4294967296
structure RawPt.Ok (z:RawPt):Prop where
 x:∀ a∈z.x,a.Ok
 y:∀ a∈z.y,a.Ok
 d:z.d.Ok
 id:-9223372036854775808<=z.id/\z.id<=9223372036854775807
def RawInt.cut (z:RawInt):RawInt:=⟨z.b,z.l.take 1⟩
def H4 (most:Int) (z:RawInt):Int:=match z.l with
 | []=>0
 | u::_=>if z.b=true then -((u:Int) % (most+1)) else (u:Int) % (most+1)
theorem Qb2 {most:Int} (h:0<=most) (z:RawInt):-most<=H4 most z/\H4 most z<=most:=by
 unfold H4
 split
 ·omega
 ·rename_i u _ _;have h1:=V3 (u:Int) (b:=most+1) (by omega);have h2:=Ve (u:Int) (b:=most+1) (by omega)
  split <;> omega
def Gi (most:Int) (l:List RawInt):List Int:=(l.take 3).map (H4 most)
def Qdc (most:Int) (x y:List RawInt) (d:RawInt):Crv:=⟨Gi most x,Gi most y,H4 3 d⟩
def Qaq (most:Int) (z:RawPt):Pt:=⟨Qdc most z.x z.y z.d,z.id % 1000⟩
theorem Qgm (most:Int) (l:List RawInt):(Gi most l).length<=3:=by unfold Gi; rw [List.length_map,List.length_take]; omega
theorem Qpa {most:Int} {l:List RawInt} {i:Nat} {z:RawInt} (hi:i<3) (h:l[i]? = some z):Gi most (l.take (i+1))=Gi most (l.take i)++[H4 most z]:=by
 unfold Gi;rw [Wd,Wd,Vx (by omega),Vx (by omega),Xc,h];simp
theorem Qgl (most:Int) {l:List RawInt} {i:Nat} (h:l.length<=i\/3<=i):Gi most (l.take i)=Gi most l:=by
 unfold Gi;rw [Wd];rcases Nat.le_total 3 i with h3 | h3
 ·rw [Zr h3]
 ·rcases h with h | h
  ·rw [Vx h3,Qj (l:=l) (i:=i) (by omega),Qj (l:=l) (i:=3) (by omega)]
  ·rw [Vx h3,show i=3 by omega]
theorem Qgn {most:Int} {l:List RawInt} {z:Int} (hm:0<=most) (h:z∈Gi most l):-most<=z/\z<=most:=by
 obtain ⟨a,_,rfl⟩:=Zi.1 h;exact Qb2 hm a
theorem Qlq {most:Int} (hm:0<=most/\most<=999) (x y:List RawInt) (d:RawInt):Cs 10 3 (Qdc most x y d):=by
 have key:∀ z:Int,-999<=z/\z<=999->Ur z<=10:=λz h=>Ri.2 (by omega)
 refine ⟨λz hz=>?_,λz hz=>?_,?_,Qgm _ _,Qgm _ _⟩
 ·have:=Qgn hm.1 hz; exact key _ (by omega)
 ·have:=Qgn hm.1 hz; exact key _ (by omega)
 ·have:=Qb2 (most:=3) (by decide) d;show Ur (H4 3 d)<=10;exact key _ (by omega)
def Sb (n:Nat):List Pt->List Pt->List Pt
 | out,[]=>out
 | out,p::l=>if out.length<n then (if out.any (λx=>decide (x.id=p.id))=true then Sb n out l else Sb n (out++[p]) l) else out
theorem A1 {n:Nat}:∀ (l out:List Pt) (p:Pt),(Sb n out l).length<n->(Sb n out l).any (λx=>decide (x.id=p.id))=true->Sb n out (l++[p])=Sb n out l
 |
  [],out,p,h,ha=>by
  simp only [Sb] at h ha;show Sb n out [p]=out;simp only [Sb];rw [if_pos h,if_pos ha]
 |
  x::l,out,p,h,ha=>by
  show Sb n out (x::(l++[p]))=Sb n out (x::l);simp only [Sb] at h ha ⊢
  split
  ·rename_i h0;rw [if_pos h0] at h ha
   split
   ·rename_i h1;rw [if_pos h1] at h ha;exact A1 l out p h ha
   ·rename_i h1;rw [if_neg h1] at h ha;exact A1 l _ p h ha
  ·rfl
theorem L8 {n:Nat}:∀ (l out:List Pt) (p:Pt),(Sb n out l).length<n->(Sb n out l).any (λx=>decide (x.id=p.id))=false->Sb n out (l++[p])=Sb n out l++[p]
 |
  [],out,p,h,ha=>by
  simp only [Sb] at h ha;show Sb n out [p]=out++[p];simp only [Sb];rw [if_pos h,if_neg (by rw [ha]; simp)]
 |
  x::l,out,p,h,ha=>by
  show Sb n out (x::(l++[p]))=Sb n out (x::l)++[p];simp only [Sb] at h ha ⊢
  split
  ·rename_i h0;rw [if_pos h0] at h ha
   split
   ·rename_i h1;rw [if_pos h1] at h ha;exact L8 l out p h ha
   ·rename_i h1;rw [if_neg h1] at h ha;exact L8 l _ p h ha
  ·rename_i h0;rw [if_neg h0] at h;omega
theorem Qe9 {n:Nat}:∀ (l m out:List Pt),n<=(Sb n out l).length->Sb n out (l++m)=Sb n out l
 |
  [],m,out,h=>by
  simp only [Sb] at h;show Sb n out m=out
  match m with
  | []=>rfl
  | p::m=>simp only [Sb]; rw [if_neg (by omega)]
 |
  x::l,m,out,h=>by
  show Sb n out (x::(l++m))=Sb n out (x::l);simp only [Sb] at h ⊢
  split
  ·rename_i h0;rw [if_pos h0] at h
   split
   ·rename_i h1;rw [if_pos h1] at h;exact Qe9 l m out h
   ·rename_i h1;rw [if_neg h1] at h;exact Qe9 l m _ h
  ·rfl
theorem I5 {n:Nat}:∀ (l out:List Pt),out.length<=n->(Sb n out l).length<=n
 | [],out,h=>h
 |
  x::l,out,h=>by
  simp only [Sb]
  split
  ·split
   ·exact I5 l out h
   ·exact I5 l _ (by rw [Q6]; show _+1<=_; omega)
  ·exact h
theorem Qc6 {n:Nat}:∀ (l out:List Pt) {p:Pt},p∈Sb n out l->p∈out\/p∈l
 | [],out,p,h=>.inl h
 |
  x::l,out,p,h=>by
  simp only [Sb] at h
  split at h
  ·split at h
   ·rcases Qc6 l out h with h | h
    ·exact .inl h
    ·exact .inr (Qh _ h)
   ·rcases Qc6 l _ h with h | h
    ·rcases Qw.1 h with h | h
     ·exact .inl h
     ·exact .inr (by rw [Qn.1 h]; exact Qt ..)
    ·exact .inr (Qh _ h)
  ·exact .inl h
def Qfo (n:Nat) (most:Int) (zs:List RawPt):List Pt:=Sb n [] (zs.map (Qaq most))
def Pt.nrm (p:Pt):Pt:=⟨p.c.norm,p.id⟩
end Orr
namespace Orr
def Rl (l:List Pt):Prop:=l.Pairwise λa b=>a.id<b.id
theorem Zdk (id:Int):has [] id=false:=rfl
theorem Qse (p:Pt) (l:List Pt) (id:Int):has (p::l) id=if p.id<id then has l id else decide (p.id=id):=by
 by_cases h:p.id<id
 ·rw [if_pos h]; unfold has; simp only [pos]; rw [if_pos h]; simp
 ·rw [if_neg h]; unfold has; simp only [pos]; rw [if_neg h]; simp
theorem Q9e (p:Pt) (l:List Pt) (q:Pt):put (p::l) q=if p.id<q.id then p::put l q else q::p::l:=by
 unfold put;simp only [pos]
 split <;> simp
theorem Qo2:∀ {l:List Pt} {id:Int},Rl l->(has l id=true↔∃ p∈l,p.id=id)
 | [],id,_=>by simp [Zdk]
 |
  p::l,id,h=>by
  have h1:=Zy.1 h;rw [Qse]
  split
  ·rename_i hlt;rw [Qo2 h1.2];constructor
   ·rintro ⟨x,hx,e⟩; exact ⟨x,Qh _ hx,e⟩
   ·rintro ⟨x,hx,e⟩
    rcases Qo.1 hx with rfl | hx
    ·omega
    ·exact ⟨x,hx,e⟩
  ·rename_i hge;rw [decide_eq_true_iff];constructor
   ·intro e; exact ⟨p,Qt ..,e⟩
   ·rintro ⟨x,hx,e⟩
    rcases Qo.1 hx with rfl | hx
    ·exact e
    ·have:=h1.1 x hx; omega
theorem Qkh:∀ {l:List Pt} {q:Pt},Rl l->has l q.id=false->Rl (put l q)
 | [],q,_,_=>by simp [put,pos,Rl]
 |
  p::l,q,h,hn=>by
  have h1:=Zy.1 h;rw [Qse] at hn;rw [Q9e]
  split
  ·rename_i hlt;rw [if_pos hlt] at hn;refine Zy.2 ⟨λx hx=>?_,Qkh h1.2 hn⟩;rcases Q06 hx with rfl | hx
   ·exact hlt
   ·exact h1.1 x hx
  ·rename_i hge;rw [if_neg hge,decide_eq_false_iff_not] at hn;refine Zy.2 ⟨λx hx=>?_,h⟩;rcases Qo.1 hx with rfl | hx
   ·omega
   ·have:=h1.1 x hx; omega
theorem Q0g {l:List Pt} {q p:Pt} (h:p=q\/p∈l):p∈put l q:=by
 unfold put;rcases h with rfl | h
 ·simp
 ·rw [<-Zf (pos l q.id) l] at h;simp only [Qw,Qo] at h ⊢;rcases h with h | h
  ·exact .inl h
  ·exact .inr (.inr h)
theorem Q9d {l:List Pt} {q:Pt} (h:l.length<6):Ow l q=if has l q.id=true then 6 else 0:=by
 unfold Ow
 split
 ·rfl
 ·rw [if_neg (by omega)]
theorem Qmq:∀ (qs acc:List Pt),Rl acc->acc.length+qs.length<=6 ->
 ((Ta acc qs).2=0/\Rl (Ta acc qs).1/\(Ta acc qs).1.length=acc.length+qs.length/\qs.Pairwise (λa b=>a.id≠b.id)/\∀ q∈qs,∀ p∈acc,p.id≠q.id) \/
 ((Ta acc qs).2=6/\¬(qs.Pairwise (λa b=>a.id≠b.id)/\∀ q∈qs,∀ p∈acc,p.id≠q.id))
 | [],acc,hs,_=>.inl ⟨rfl,hs,rfl,List.Pairwise.nil,λ_ h=>absurd h (by simp)⟩
 |
  q::qs,acc,hs,hl=>by
  simp only [Q7] at hl;have he:=Q9d (l:=acc) (q:=q) (by omega);simp only [Ta];cases hh:has acc q.id with
  |
   true =>
   rw [hh,if_pos rfl] at he;rw [he,if_neg (by decide)];obtain ⟨p,hp,e⟩:=(Qo2 hs).1 hh;exact .inr ⟨rfl,λh=>h.2 q (Qt ..) p hp e⟩
  |
   false =>
   rw [hh,if_neg (by decide)] at he;rw [he,if_pos rfl];have hno:∀ p∈acc,p.id≠q.id:=λp hp e=>by
    have:=(Qo2 hs).2 ⟨p,hp,e⟩;rw [hh] at this; cases this
   have hpl:=Q05 acc q;rcases Qmq qs (put acc q) (Qkh hs hh) (by omega) with ⟨h1,h2,h3,h4,h5⟩ | ⟨h1,h2⟩
   ·refine .inl ⟨h1,h2,by simp only [Q7]; omega,Zy.2 ⟨λx hx=>h5 x hx q (Q0g (.inl rfl)),h4⟩,λx hx p hp=>?_⟩;rcases Qo.1 hx with rfl | hx
    ·exact hno p hp
    ·exact h5 x hx p (Q0g (.inr hp))
   ·refine .inr ⟨h1,λh=>h2 ⟨(Zy.1 h.1).2,λx hx p hp=>?_⟩⟩;rcases Q06 hp with rfl | hp
    ·exact (Zy.1 h.1).1 x hx
    ·exact h.2 x (Qh _ hx) p hp
theorem Q3a {qs:List Pt} (hl:qs.length<=6) :
 ((Ta [] qs).2=0/\Rl (Ta [] qs).1/\(Ta [] qs).1.length=qs.length/\qs.Pairwise (λa b=>a.id≠b.id))\/((Ta [] qs).2=6/\¬qs.Pairwise (λa b=>a.id≠b.id)):=by
 rcases Qmq qs [] List.Pairwise.nil (by simpa using hl) with ⟨h1,h2,h3,h4,_⟩ | ⟨h1,h2⟩
 ·exact .inl ⟨h1,h2,by simpa using h3,h4⟩
 ·exact .inr ⟨h1,λh=>h2 ⟨h,λ_ _ _ hp=>absurd hp (by simp)⟩⟩
end Orr
namespace Orq
open Orr Go
theorem Ziv {a b:Tm} (ha:Cut (Fa a)) (hb:Cut (Fa b)) (h:¬TLt b a):Leq a (Fa b):=λq hq=>by
 rcases ha.val q with e | e | e
 ·exact absurd ⟨q,hq,e⟩ h
 ·obtain ⟨r,r1,r2⟩:=hb.dn q hq;exact absurd ⟨r,r2,ha.mono' r1 (by omega)⟩ h
 ·exact e
theorem Q2z {p:List Int} {a b:Tm} {o:Option Tm} (hp:Dp p) (ha:Va a) (hb:Va b) (hab:¬TLt b a) (h:Ld p a o) (ho:∀ t,o=some t->TLt b t):Nw (Ch b) p=Nw (Ch a) p:=by
 by_cases h0:p.length=0
 ·obtain rfl:=Qi h0; rfl
 obtain ⟨ra,_⟩:=Qzx ha hp h0;obtain ⟨rb,_⟩:=Qzx hb hp h0;have hl:=Ziv ha.cut hb.cut hab;cases o with
 |
  none =>
  rcases h with h | ⟨s,s0,h⟩
  ·exact absurd (by rw [h]; rfl) h0
  ·exact (Q1e rb (h _ hb.cut hl)).trans (Q1e ra (h _ ha.cut λ_ h=>h)).symm
 |
  some t =>
  obtain ⟨h1,h2,h3,s,s0,h4,h5⟩:=h;exact (Q1e rb (h4 _ hb.cut hl (ho t rfl))).trans (Q1e ra (h4 _ ha.cut (λ_ h=>h) h3)).symm
open Classical in
noncomputable def mu (T:List Tm) (a:Tm):Nat:=(T.filter λt=>decide (TLt a t)).length
open Classical in
def tms (p:List Int):List Tm:=(Qqn p).getD []
structure KInv (c:Cr):Prop where
 ok:CrOk c
 k:∀ w∈c.l,w.known=true->Ld w.c.p c.now w.fails/\∀ t,w.fails=some t->t∈tms w.c.p
theorem Qwx {p:List Int} (h:Cp p) {a:Tm} (ha:Va a):∃ r,Qmt p a=some r/\Ld p a r/\∀ t,r=some t->t∈tms p:=by
 obtain ⟨l,l1,_,_,l3⟩:=Quf h;obtain ⟨r,r1,r2,r3⟩:=l3 a ha;refine ⟨r,?_,r2,λt ht=>by unfold tms; rw [l1]; exact r3 t ht⟩;unfold Qmt; rw [l1]; exact r1
theorem Q0b {now:Tm} (hn:Va now):∀ {l:List Wt},(∀ w∈l,WtOk w)->(∀ w∈l,w.known=true->Ld w.c.p now w.fails/\∀ t,w.fails=some t->t∈tms w.c.p) ->
 ∃ ws,Qgo now l=some ws/\ws.map (·.c)=l.map (·.c)/\∀ w∈ws,w.known=true/\Ld w.c.p now w.fails/\∀ t,w.fails=some t->t∈tms w.c.p
 | [],_,_=>⟨[],rfl,rfl,λw hw=>by cases hw⟩
 |
  w::l,h,h'=>by
  obtain ⟨ws,w1,w2,w3⟩:=Q0b hn (λv hv=>h v (Qh _ hv)) (λv hv=>h' v (Qh _ hv));by_cases hk:w.known=true
  ·refine ⟨w::ws,by simp only [Qgo,hk,if_true,w1]; rfl,by simp [w2],λv hv=>?_⟩;rcases Qo.1 hv with rfl | hv
   ·exact ⟨hk,h' v (by simp) hk⟩
   ·exact w3 v hv
  ·obtain ⟨r,r1,r2,r3⟩:=Qwx (h w (by simp)).p hn;refine ⟨⟨w.c,true,r⟩::ws,by simp only [Qgo]; rw [if_neg hk,r1,w1]; rfl,by simp [w2],λv hv=>?_⟩;rcases Qo.1 hv with rfl | hv
   ·exact ⟨rfl,r2,r3⟩
   ·exact w3 v hv
theorem Q20 {out:List Ct} {c x:Ct}:x∈Qbz out c↔x=c\/x∈out:=by
 have h:x∈out↔x∈out.take (Oq out c out.length)\/x∈out.drop (Oq out c out.length):=by
  rw [<-Qw,Zf]
 simp only [Qbz,Qw,Qo,h];constructor
 ·rintro (h | h | h)
  ·exact .inr (.inl h)
  ·exact .inl h
  ·exact .inr (.inr h)
 ·rintro (h | h | h)
  ·exact .inr (.inl h)
  ·exact .inl h
  ·exact .inr (.inr h)
theorem Ql3:∀ (l acc:List Ct) {y:Ct},y∈l.foldl Qbz acc↔y∈l\/y∈acc
 | [],acc,y=>by simp
 |
  c::l,acc,y=>by
  simp only [Z8];rw [Ql3 l,Q20,Qo];constructor
  ·rintro (h | h | h)
   ·exact .inl (.inr h)
   ·exact .inl (.inl h)
   ·exact .inr h
  ·rintro ((h | h) | h)
   ·exact .inr (.inl h)
   ·exact .inl h
   ·exact .inr (.inr h)
theorem Qnl {l:List Ct} {x:Ct}:x∈Tp l↔x∈l:=by unfold Tp; rw [Ql3]; simp
theorem Zi7 {ws:List Wt} (hw:∀ w∈ws,WtOk w):∃ o,Zi6 ws=some o/\match o with
 | none=>∀ w∈ws,w.fails=none
 | some a=>Va a/\(∃ w∈ws,w.fails=some a)/\∀ w∈ws,∀ t,w.fails=some t->¬TLt t a:=by
 have hv:∀ t∈ws.filterMap (·.fails),Va t:=λt ht=>by
  obtain ⟨w,w1,w2⟩:=Yp.1 ht;exact (hw w w1).f t w2
 unfold Zi6;cases hf:ws.filterMap (·.fails) with
 |
  nil =>
  refine ⟨none,rfl,λw h=>?_⟩;cases e:w.fails with
  | none=>rfl
  |
   some t =>
   have:t∈ws.filterMap (·.fails):=Yp.2 ⟨w,h,e⟩;rw [hf] at this; cases this
 |
  cons b l =>
  rw [hf] at hv;obtain ⟨m,m1,m2,m3⟩:=Qmg l b hv;refine ⟨some m,by show (A3 b l).map some=_; rw [m1]; rfl,hv m m2,?_,λw h t e=>?_⟩
  ·rw [<-hf] at m2;exact Yp.1 m2
  ·exact m3 t (by rw [<-hf]; exact Yp.2 ⟨w,h,e⟩)
structure Stab {β:Type} (Bc:Tm->List Ct) (Br:Tm->β):Prop where
 ok:BuildOk Bc
 fin:∃ Ps:List (List Int),(∀ p∈Ps,Cp p)/\∀ a,Va a->∀ x∈Bc a,x.p∈Ps
 st:∀ a b,Va a->Va b->(∀ x∈Bc a,Nw (Ch b) x.p=Nw (Ch a) x.p)->Bc b=Bc a/\Br b=Br a
structure KSt {β:Type} (Bc:Tm->List Ct) (Br:Tm->β) (c:Cr) (r1:β):Prop where
 inv:KInv c
 cs:c.l.map (·.c)=Tp (Bc c.now)
 r:r1=Br c.now
inductive Evs (Bc:Tm->List Ct) (t:Rat):Tm->List Tm->Prop
 | nil {a:Tm} (h:∀ x∈Bc a,∃ o,Ld x.p a o/\∀ u,o=some u->TLt (tq t) u):Evs Bc t a []
 | cons {a e:Tm} {E:List Tm} (he:Va e) (h1:TLt a e) (h2:¬TLt (tq t) e) (h3:∀ x∈Bc a,∃ o,Ld x.p a o/\∀ u,o=some u->¬TLt u e) (h4:∃ x∈Bc a,Ld x.p a (some e)) (h5:Evs Bc t e E):Evs Bc t a (e::E)
end Orq
namespace Orq
open Orr Go
section Srt
variable {α:Type} {lt:α->α->Bool} {R:α->α->Prop}
theorem Qm2 {out:List α} {x:α}:∀ k,k<=out.length->(∀ j y,M7 lt out x k<=j->j<k->out[j]? = some y->lt x y=true)/\(0<M7 lt out x k->∃ y,out[M7 lt out x k-1]? = some y/\lt x y=false)
 | 0,_=>⟨λj y _ h=>by omega,λh=>by simp [M7] at h⟩
 |
  k+1,hk=>by
  obtain ⟨y,hy⟩:=gxE (l:=out) (i:=k) (by omega);by_cases h:lt x y=true
  ·rw [Qpw hy h];obtain ⟨h1,h2⟩:=Qm2 (out:=out) (x:=x) k (by omega);refine ⟨λj z a1 a2 a3=>?_,h2⟩;by_cases e:j=k
   ·subst e; rw [hy] at a3; injection a3 with a3; subst a3; exact h
   ·exact h1 j z a1 (by omega) a3
  ·have h:lt x y=false:=by simpa using h
   rw [Qkc hy h];exact ⟨λj z a1 a2 _=>by omega,λ_=>⟨y,by simpa using hy,h⟩⟩
theorem Zdo (tr:∀ x y z,R x y->R y z->R x z) {out:List α} {x:α} (ho:out.Pairwise R) (h1:∀ y∈out,lt x y=true->R x y) (h2:∀ y∈out,lt x y=false->R y x):(L9 lt out x).Pairwise R:=by
 obtain ⟨s1,s2⟩:=Qm2 (lt:=lt) (out:=out) (x:=x) out.length (Qm _);have hle:=Qpv lt out x out.length;unfold L9;obtain ⟨k,hk⟩:=nmE (M7 lt out x out.length);rw [<-hk] at s1 s2 hle ⊢;have hd:(out.take k++out.drop k).Pairwise R:=by rw [Zf]; exact ho
 obtain ⟨d1,d2,d3⟩:=Yz.1 hd;have hR:∀ y∈out.drop k,R x y:=λy hy=>by
  obtain ⟨i,hi⟩:=Yb hy;rw [Xb] at hi;have:k+i<out.length:=(Qc.1 hi).1;exact h1 y (Q3 hy) (s1 (k+i) y (by omega) this hi)
 have hL:∀ y∈out.take k,R y x:=λy hy=>by
  obtain ⟨i,hi⟩:=Yb hy;have hik:i<k:=by have:=(Qc.1 hi).1; simp at this; omega
  rw [List.getElem?_take_of_lt hik] at hi;obtain ⟨z,z1,z2⟩:=s2 (by omega);have hz:=h2 z (Qa z1) z2;by_cases e:i=k-1
  ·subst e; rw [hi] at z1; injection z1 with z1; subst z1; exact hz
  ·have hp:=Y0.1 ho i (k-1) (by omega) (by omega) (by omega);obtain ⟨_,e1⟩:=Qc.1 hi;obtain ⟨_,e2⟩:=Qc.1 z1;rw [e1,e2] at hp;exact tr _ _ _ hp hz
 refine Yz.2 ⟨d1,Zy.2 ⟨hR,d2⟩,λy hy z hz=>?_⟩;rcases Qo.1 hz with rfl | hz
 ·exact hL y hy
 ·exact d3 y hy z hz
theorem foldG_pw (tr:∀ x y z,R x y->R y z->R x z) {S:α->Prop} (h1:∀ x y,S x->S y->lt x y=true->R x y) {D:α->α->Prop} (h2:∀ x y,S x->S y->D y x->lt x y=false->R y x) :
 ∀ (l acc:List α),acc.Pairwise R->(∀ x∈acc,S x)->(∀ x∈l,S x)->l.Pairwise D->(∀ x∈acc,∀ y∈l,D x y)->(l.foldl (L9 lt) acc).Pairwise R
 | [],acc,ha,_,_,_,_=>ha
 |
  x::l,acc,ha,hs,hl,hd,hx=>by
  rw [Zy] at hd;refine foldG_pw tr h1 h2 l (L9 lt acc x) ?_ ?_ (λy hy=>hl y (Qh _ hy)) hd.2 ?_
  ·exact Zdo tr ha (λy hy=>h1 x y (hl x (by simp)) (hs y hy)) (λy hy=>h2 x y (hl x (by simp)) (hs y hy) (hx y hy x (by simp)))
  ·intro y hy;rcases Qjl.1 hy with rfl | hy
   ·exact hl _ (by simp)
   ·exact hs y hy
  ·intro y hy z hz;rcases Qjl.1 hy with rfl | hy
   ·exact hd.1 z hz
   ·exact hx y hy z (Qh _ hz)
end Srt
def px (p:Pt) (q:Rat):Rat:=Ui p.c.x q / (p.c.d:Rat)
def py (p:Pt) (q:Rat):Rat:=Ui p.c.y q / (p.c.d:Rat)
def Zoc (q:Rat) (x y:Pt):Prop:=px x q<px y q\/px x q=px y q/\(py x q<py y q\/py x q=py y q/\x.id<y.id)
def Zn1 (l:List Pt):List (List Int):=l.flatMap λx=>l.flatMap λy=>[Qpy x.c y.c,Qpn x.c y.c]
end Orq
namespace Orr
open Go
section
variable {α:Type} {lt:α->α->Bool}
end
def Dw (a b:Pt):Bool:=decide (a.id<b.id)
def Pt.m5 (p:Pt):Pt:=⟨p.c,p.id % 5⟩
def mix (O:List Pt) (i:Nat):List Pt:=(O.take i).map Pt.m5++O.drop i
theorem Q8d (O:List Pt):mix O 0=O:=by simp [mix]
theorem Qhq (O:List Pt) (i:Nat):(mix O i).length=O.length:=by
 unfold mix; rw [List.length_append,List.length_map,List.length_take,List.length_drop]; omega
theorem Q0j {O:List Pt} {i:Nat} {p:Pt} (h:O[i]? = some p):(mix O i).set i p.m5=mix O (i+1):=by
 have hi:=(Qc.1 h).1;have hl:((O.take i).map Pt.m5).length=i:=by rw [Zc,Qx]; omega
 unfold mix;rw [List.set_append,if_neg (by omega),hl,Yd,Xc,h,Vi,Jm,Ze];congr 1;rw [Zu hi];have:O[i]=p:=by
  have:=(Qc.1 h).2;exact this
 rfl
theorem Zd2 {O:List Pt} {i:Nat} {p:Pt} (h:O[i]? = some p):(mix O i)[i]? = some p:=by
 have hi:=(Qc.1 h).1;have hl:((O.take i).map Pt.m5).length=i:=by rw [Zc,Qx]; omega
 unfold mix;rw [Xm (by omega),hl,Yd,Xb];exact h
theorem Q0i {O:List Pt} {i k:Nat} {p:Pt} (hk:k<i) (h:O[k]? = some p):(mix O i)[k]? = some p.m5:=by
 have hi:=(Qc.1 h).1;unfold mix;rw [Zo (by rw [Zc,Qx]; omega),Za,X2,if_pos hk,h]; rfl
theorem Qsy {O:List Pt} {e i:Nat} (h:e<=i) (hi:i<=O.length):(mix O i).take e=(O.take e).map Pt.m5:=by
 unfold mix;rw [Yg (by rw [Zc,Qx]; omega),<-Yv,Wd,Zr h]
def Tl (O:List Pt) (e:Nat):List Pt:=(O.take e).map Pt.m5
def Qba (O:List Pt) (e:Nat):List Pt:=(Tl O e).map Pt.nrm
def Dh (l:List Pt):Prop:=l.Pairwise λa b=>a.id≠b.id
theorem Q2h {O:List Pt} {i:Nat} {p:Pt} (h:O[i]? = some p):Tl O (i+1)=Tl O i++[p.m5]:=by
 unfold Tl; rw [List.take_succ,h,Option.toList_some,List.map_append]; rfl
theorem Q2n {O:List Pt} {i:Nat} {p:Pt} (h:O[i]? = some p) (hd:Dh (Tl O i)) (hn:∀ k x,k<i->O[k]? = some x->x.m5.id≠p.m5.id):Dh (Tl O (i+1)):=by
 rw [Q2h h];refine Yz.2 ⟨hd,List.pairwise_singleton _ _,λa ha b hb=>?_⟩;rw [Qn.1 hb];obtain ⟨x,hx,rfl⟩:=Zi.1 ha;obtain ⟨k,hk,rfl⟩:=Yy.1 hx;rw [Qx] at hk;rw [List.getElem_take];exact hn k _ (by omega) (Qf (by omega))
theorem Qlr {O:List Pt} {e:Nat} (h:Dh (Tl O e)):Dh (Qba O e):=List.Pairwise.map Pt.nrm (λ_ _ h=>h) h
theorem Qgp (O:List Pt) (e:Nat):(Qba O e).length=(Tl O e).length:=by unfold Qba; rw [List.length_map]
theorem Qc1 {O:List Pt} {e:Nat} (h:e<=O.length):(Tl O e).length=e:=by unfold Tl; rw [List.length_map,List.length_take]; omega
def Q1q (p:Pt):Prop:=Cs 10 3 p.c
theorem Qmj {n:Nat} {most:Int} (hm:0≤most/\most≤999) {l:List RawPt}:∀ p∈Qfo n most l,Q1q p:=λp hp=>by
 rcases Qc6 _ _ hp with h | h
 ·cases h
 ·obtain ⟨z,_,rfl⟩:=Zi.1 h;exact Qlq hm _ _ _
theorem Qrs {O:List Pt} (h:∀ p∈O,Q1q p) (e:Nat):∀ p∈Tl O e,Q1q p:=λp hp=>by
 obtain ⟨x,hx,rfl⟩:=Zi.1 hp;exact h x (Ql hx)
theorem Qzf {O:List Pt} (h:∀ p∈O,Q1q p) (e:Nat):∀ p∈Qba O e,Nml p.c/\Cs 10 3 p.c:=λp hp=>by
 obtain ⟨x,hx,rfl⟩:=Zi.1 hp;exact ⟨x.c.nml,(Qrs h e x hx).norm (by decide)⟩
theorem Qmf {s n:Nat}:∀ {l:List Pt},(∀ p∈l,Cs s n p.c)->IsPts s n (l.map Hn) (l.map Pt.nrm)
 | [],_=>trivial
 | p::l,h=>⟨⟨p.c.x.map Gs,p.c.y.map Gs,_,_,_,_,p.c.d,rfl,Gk _,Gk _,Uk _,h p (Qt ..),rfl⟩,Qmf λx hx=>h x (Qh _ hx)⟩
theorem Qfx:∀ {l m:List Pt},Rl l->Rl m->(∀ x,x∈l↔x∈m)->l=m
 | [],[],_,_,_=>rfl
 | [],b::m,_,_,h=>absurd ((h b).2 (Qt ..)) (by simp)
 | a::l,[],_,_,h=>absurd ((h a).1 (Qt ..)) (by simp)
 |
  a::l,b::m,h1,h2,h=>by
  have h1':=Zy.1 h1;have h2':=Zy.1 h2;have hab:a=b:=by
   rcases Qo.1 ((h a).1 (Qt ..)) with e | e
   ·exact e
   ·rcases Qo.1 ((h b).2 (Qt ..)) with e2 | e2
    ·exact e2.symm
    ·have:=h2'.1 a e; have:=h1'.1 b e2; omega
  subst hab;congr 1;refine Qfx h1'.2 h2'.2 λx=>⟨λhx=>?_,λhx=>?_⟩
  ·rcases Qo.1 ((h x).1 (Qh _ hx)) with e | e
   ·have:=h1'.1 x hx; rw [e] at this; omega
   ·exact e
  ·rcases Qo.1 ((h x).2 (Qh _ hx)) with e | e
   ·have:=h2'.1 x hx; rw [e] at this; omega
   ·exact e
theorem Ia {l:List Pt} (h:Dh l):Rl (H8 Dw l) :=
 Orq.foldG_pw (R:=λa b:Pt=>a.id<b.id) (S:=λ_=>True) (D:=λa b:Pt=>a.id≠b.id) (λx y z h1 h2=>Int.lt_trans h1 h2) (λx y _ _ h=>of_decide_eq_true h) (λx y _ _ h1 h=>by have:=of_decide_eq_false h; omega) l [] .nil (λx hx=>by cases hx) (λ_ _=>trivial) h (λx hx=>by cases hx)
theorem Q9f (l:List Pt) (q:Pt):(put l q).Perm (q::l):=by
 unfold put;exact List.perm_middle.trans (by rw [Zf])
theorem Qmr:∀ (qs acc:List Pt),(Ta acc qs).2=0->(Ta acc qs).1.Perm (qs++acc)
 | [],acc,_=>List.Perm.refl _
 |
  q::qs,acc,h=>by
  simp only [Ta] at h ⊢
  split
  ·rename_i h0;rw [if_pos h0] at h;refine (Qmr qs _ h).trans ?_;exact ((Q9f acc q).append_left qs).trans List.perm_middle
  ·rename_i h0;rw [if_neg h0] at h;exact absurd h h0
theorem Q3b {qs:List Pt} (hl:qs.length<=6) (hd:Dh qs):(Ta [] qs).2=0/\(Ta [] qs).1=H8 Dw qs:=by
 rcases Q3a hl with ⟨h1,h2,_,_⟩ | ⟨_,h2⟩
 ·refine ⟨h1,Qfx h2 (Ia hd) λx=>?_⟩;have h3:=Qmr qs [] h1;rw [Xo] at h3;rw [h3.mem_iff,De]
 ·exact absurd hd h2
end Orr
namespace Orr
open Go Go.Proofs
set_option maxRecDepth 10000
theorem Zdn {α:Type} {f:α->List LV} {lt:α->α->Bool} {O:List α} {c:α} {k:Nat} (hp:M7 lt O c O.length=k):(O.map f).take k++(f c::(O.map f).drop k)=(L9 lt O c).map f:=by
 simp [L9,hp,Yv,Wo]
theorem Qsi {α:Type} {f:α->List LV} {lt:α->α->Bool} {O:List α} {c:α} {k:Nat} (hp:M7 lt O c O.length=k):(O.map f).take k++([f c]++((O.map f).drop k).take ((O.map f).length-k))=(L9 lt O c).map f:=by
 rw [Qj (l:=(O.map f).drop k) (by simp)];exact Zdn hp
theorem Qsj {lt:Pt->Pt->Bool} {O:List Pt} {c:Pt} {k:Nat} (hp:M7 lt O c O.length=k):(U8 O).take k++([Bl c]++((U8 O).drop k).take ((U8 O).length-k))=U8 (L9 lt O c):=Qsi hp
theorem Tk (l:List Pt):(U8 l).length=l.length:=by simp [U8]
theorem Qqa (l:List Pt):∀ c∈U8 l,c.length=7:=λc hc=>by obtain ⟨x,_,rfl⟩:=Zi.1 hc; rfl
theorem Fq {l:List Pt} {i:Nat} {c:Pt} (h:l[i]? = some c):(U8 l)[i]? = some (Bl c):=Gz h
theorem Qy1 {l:List Pt} (hn:l.length<=1000000):Uh Tryz.prog 44 [.one (.row (U8 l))] [.one (.row (U8 (H8 Dw l)))]:=by
 have hcl:=Tk l;refine Ha Tryz.func44 rfl ?_;refine go tt [.o 3 61 7] rfl trivial ?_;refine lp (S:=Nat) 1 (λL1 i=>(8,.v (.one (.int .i64 (i:Int))))::(3,.v (.one (.orow 0 7 none)))::L1) (λi=>[.row false 61 7 (U8 (H8 Dw (l.take i)))]) (λi=>l.length-i) (λi=>i<=l.length) 0 (Qg _) rfl (λ_ _=>rfl) rfl λi hi=>?_
 by_cases hlt:i<l.length
 ·obtain ⟨c,hc⟩:=gxE (l:=l) (i:=i) hlt;have hst:H8 Dw (l.take (i+1))=L9 Dw (H8 Dw (l.take i)) c:=Qkq hc;obtain ⟨O,hO⟩:=nmE (H8 Dw (l.take i));have hOl:O.length=i:=by rw [hO,Ny,Qx]; omega
  have hrl:=Tk O;rw [<-hO] at hst ⊢;refine go tt [.t (decide_eq_true (by omega))] rfl trivial ?_;refine lp (S:=Nat) 1 (λL1 k=>(5,.v (.one (.int .i64 (k:Int))))::L1) (λ_=>[.row false 61 7 (U8 O)]) id (λk=>k<=O.length/\M7 Dw O c k=M7 Dw O c O.length) (U8 O).length ⟨by omega,by rw [hrl]⟩ rfl (λ_ _=>rfl) rfl λk ⟨hk,hp⟩=>?_
  have h7:=Qqa O;have h7z:∀ y∈[Bl c],y.length=7:=λy hy=>by rw [Qn.1 hy]; rfl
  cases k with
  |
   zero =>
   have hp:M7 Dw O c O.length=0:=by rw [<-hp]; rfl
   refine go tt [.g 15 false (by simp),.f rfl,.i 0,.x (Fq hc),.lo,.i 0,.s (sz:=7) (λy hy=>h7 y (Ql hy)),.s (sz:=7) (λy hy=>(Qw.1 hy).elim (h7z y) λhy=>h7 y (Ql hy))] rfl (by simp [Uf]; omega) ?_;exact rd (i+1) (by omega) hlt (by rw [hst,<-Qsj hp]; rfl)
  |
   succ k =>
   obtain ⟨x,hx⟩:=gxE (l:=O) (i:=k) (by omega);by_cases hlc:Dw c x=true
   ·refine go tt [.g 15 true (by simp),.x (Fq hc),.r 23 (eI (b:=(k:Int)) (by simp)),.i k,.x (Fq hx),.t hlc,.r 30 (eI (b:=(k:Int)) (by simp))] rfl (by simp [Uf]; omega) ?_;exact rd k (by simp) ⟨by omega,by rw [<-hp,Qpw hx hlc]⟩ rfl
   ·have hlc:Dw c x=false:=by simpa using hlc
    have hp:M7 Dw O c O.length=k+1:=by rw [<-hp,Qkc hx hlc]
    refine go tt [.g 15 true (by simp),.x (Fq hc),.r 23 (eI (b:=(k:Int)) (by simp)),.i k,.x (Fq hx),.f hlc,.i (k+1),.x (Fq hc),.lo,.i (k+1),.s (sz:=7) (λy hy=>h7 y (Q3 (Ql hy))),.s (sz:=7) (λy hy=>(Qw.1 hy).elim (h7z y) λhy=>h7 y (Q3 (Ql hy)))] rfl (by simp [Uf]; omega) ?_;exact rd (i+1) (by omega) hlt (by rw [hst,<-Qsj hp]; rfl)
 ·obtain rfl:i=l.length:=by omega
  rw [Q5];exact en tt [.f (decide_eq_false (by omega))] rfl rfl trivial
def rct (c:Ct):List LV:=[.int .i64 c.kind,.int .i64 c.i0,.int .i64 c.i1,.int .i64 c.i2,.int .i64 c.i3,rp (zp c.p),.int .i64 c.want,.row [],.bool false]
def Gh (l:List Ct):List (List LV):=l.map rct
theorem D7 (l:List Ct):(Gh l).length=l.length:=by simp [Gh]
theorem Qtt (l:List Ct):∀ c∈Gh l,c.length=9:=λc hc=>by obtain ⟨x,_,rfl⟩:=Zi.1 hc; rfl
theorem Qaw {l:List Ct} {i:Nat} {c:Ct} (h:l[i]? = some c):(Gh l)[i]? = some (rct c):=Gz h
theorem Qsh {lt:Ct->Ct->Bool} {O:List Ct} {c:Ct} {k:Nat} (hp:M7 lt O c O.length=k):(Gh O).take k++([rct c]++((Gh O).drop k).take ((Gh O).length-k))=Gh (L9 lt O c):=Qsi hp
theorem Zco {k i0 i1 i2 i3 l j0 j1 j2 j3:Int}:Uh Tryz.prog 266 [.agg [.int .i64 k,.int .i64 i0,.int .i64 i1,.int .i64 i2,.int .i64 i3],.agg [.int .i64 l,.int .i64 j0,.int .i64 j1,.int .i64 j2,.int .i64 j3]] [.one (.bool (Hi [k,i0,i1,i2,i3] [l,j0,j1,j2,j3]))]:=by
 by_cases hk:k=l
 ·subst hk;rw [show Hi [k,i0,i1,i2,i3] [k,j0,j1,j2,j3]=Hi [i0,i1,i2,i3] [j0,j1,j2,j3] from by simp [Hi]];refine Ha Tryz.func266 rfl ?_;refine go tt [.f (by simp)] rfl trivial ?_;refine lp (S:=Nat) 2 (λL1 i=>(5,.v (.one (.int .i64 (i:Int))))::L1) (λ_=>[.blk 97 [.int .i64 k,.int .i64 i0,.int .i64 i1,.int .i64 i2,.int .i64 i3],.blk 97 [.int .i64 k,.int .i64 j0,.int .i64 j1,.int .i64 j2,.int .i64 j3]]) (λi=>4-i) (λi=>i<=4/\Hi ([i0,i1,i2,i3].drop i) ([j0,j1,j2,j3].drop i)=Hi [i0,i1,i2,i3] [j0,j1,j2,j3]) 0 ⟨by omega,rfl⟩ rfl (λ_ _=>rfl) rfl λi ⟨hi,he⟩=>?_
  rw [<-he];rcases (show i=0\/i=1\/i=2\/i=3\/i=4 by omega) with rfl | rfl | rfl | rfl | rfl
  ·by_cases h:i0=j0
   ·exact go tt [.t rfl,.i 0,.i 0,.f (by simpa using h)] rfl (by simp [Uf]) (rd 1 (by omega) ⟨by omega,by simp [Hi,h]⟩ rfl)
   ·exact en tt [.t rfl,.i 0,.i 0,.t (by simpa using h),.i 0,.i 0] rfl (by simp [Hi,h]) trivial
  ·by_cases h:i1=j1
   ·exact go tt [.t rfl,.i 1,.i 1,.f (by simpa using h)] rfl (by simp [Uf]) (rd 2 (by omega) ⟨by omega,by simp [Hi,h]⟩ rfl)
   ·exact en tt [.t rfl,.i 1,.i 1,.t (by simpa using h),.i 1,.i 1] rfl (by simp [Hi,h]) trivial
  ·by_cases h:i2=j2
   ·exact go tt [.t rfl,.i 2,.i 2,.f (by simpa using h)] rfl (by simp [Uf]) (rd 3 (by omega) ⟨by omega,by simp [Hi,h]⟩ rfl)
   ·exact en tt [.t rfl,.i 2,.i 2,.t (by simpa using h),.i 2,.i 2] rfl (by simp [Hi,h]) trivial
  ·by_cases h:i3=j3
   ·exact go tt [.t rfl,.i 3,.i 3,.f (by simpa using h)] rfl (by simp [Uf]) (rd 4 (by omega) ⟨by omega,by simp [Hi,h]⟩ rfl)
   ·exact en tt [.t rfl,.i 3,.i 3,.t (by simpa using h),.i 3,.i 3] rfl (by simp [Hi,h]) trivial
  ·exact en tt [.f rfl] rfl (by simp [Hi]) trivial
 ·exact w tt Tryz.func266 rfl [.t (by simpa using hk)] rfl (by simp [Hi,hk]) trivial
theorem Zcr {l:List Ct} (hn:l.length<=1000000):Uh Tryz.prog 233 [.one (.row (Gh l))] [.one (.row (Gh (H8 Nl l)))]:=by
 have hcl:=D7 l;refine Ha Tryz.func233 rfl ?_;refine go tt [.o 3 227 9] rfl trivial ?_;refine lp (S:=Nat) 1 (λL1 i=>(8,.v (.one (.int .i64 (i:Int))))::(3,.v (.one (.orow 0 9 none)))::L1) (λi=>[.row false 227 9 (Gh (H8 Nl (l.take i)))]) (λi=>l.length-i) (λi=>i<=l.length) 0 (Qg _) rfl (λ_ _=>rfl) rfl λi hi=>?_
 by_cases hlt:i<l.length
 ·obtain ⟨c,hc⟩:=gxE (l:=l) (i:=i) hlt;have hst:H8 Nl (l.take (i+1))=L9 Nl (H8 Nl (l.take i)) c:=Qkq hc;obtain ⟨O,hO⟩:=nmE (H8 Nl (l.take i));have hOl:O.length=i:=by rw [hO,Ny,Qx]; omega
  have hrl:=D7 O;rw [<-hO] at hst ⊢;refine go tt [.t (decide_eq_true (by omega))] rfl trivial ?_;refine lp (S:=Nat) 1 (λL1 k=>(5,.v (.one (.int .i64 (k:Int))))::L1) (λ_=>[.row false 227 9 (Gh O)]) id (λk=>k<=O.length/\M7 Nl O c k=M7 Nl O c O.length) (Gh O).length ⟨by omega,by rw [hrl]⟩ rfl (λ_ _=>rfl) rfl λk ⟨hk,hp⟩=>?_
  have h7:=Qtt O;have h7z:∀ y∈[rct c],y.length=9:=λy hy=>by rw [Qn.1 hy]; rfl
  cases k with
  |
   zero =>
   have hp:M7 Nl O c O.length=0:=by rw [<-hp]; rfl
   refine go tt [.g 15 false (by simp),.f rfl,.i 0,.x (Qaw hc),.lo,.i 0,.s (sz:=9) (λy hy=>h7 y (Ql hy)),.s (sz:=9) (λy hy=>(Qw.1 hy).elim (h7z y) λhy=>h7 y (Ql hy))] rfl (by simp [Uf]; omega) ?_;exact rd (i+1) (by omega) hlt (by rw [hst,<-Qsh hp]; rfl)
  |
   succ k =>
   obtain ⟨x,hx⟩:=gxE (l:=O) (i:=k) (by omega);have cb:=Zco (k:=c.kind) (i0:=c.i0) (i1:=c.i1) (i2:=c.i2) (i3:=c.i3) (l:=x.kind) (j0:=x.i0) (j1:=x.i1) (j2:=x.i2) (j3:=x.i3);by_cases hlc:Nl c x=true
   ·refine go tt [.g 15 true (by simp),.x (Qaw hc),.r 23 (eI (b:=(k:Int)) (by simp)),.i k,.x (Qaw hx),.c [] cb,.t hlc,.r 30 (eI (b:=(k:Int)) (by simp))] rfl (by simp [Uf]; omega) ?_;exact rd k (by simp) ⟨by omega,by rw [<-hp,Qpw hx hlc]⟩ rfl
   ·have hlc:Nl c x=false:=by simpa using hlc
    have hp:M7 Nl O c O.length=k+1:=by rw [<-hp,Qkc hx hlc]
    refine go tt [.g 15 true (by simp),.x (Qaw hc),.r 23 (eI (b:=(k:Int)) (by simp)),.i k,.x (Qaw hx),.c [] cb,.f hlc,.i (k+1),.x (Qaw hc),.lo,.i (k+1),.s (sz:=9) (λy hy=>h7 y (Q3 (Ql hy))),.s (sz:=9) (λy hy=>(Qw.1 hy).elim (h7z y) λhy=>h7 y (Q3 (Ql hy)))] rfl (by simp [Uf]; omega) ?_;exact rd (i+1) (by omega) hlt (by rw [hst,<-Qsh hp]; rfl)
 ·obtain rfl:i=l.length:=by omega
  rw [Q5];exact en tt [.f (decide_eq_false (by omega))] rfl rfl trivial
abbrev Ak (q:Rat):List Int->Int:=λp=>U9 p q
abbrev rzc:List LV:=[.int .i64 0,.int .i64 0,.int .i64 0,.int .i64 0,.int .i64 0,.nils,.int .i64 0,.nils,.bool false]
theorem Q5y {l:List Ct} (hn:l.length<=1000000):Uh Tryz.prog 94 [.one (.row []),.one (.row (Gh l))] [.one (.row (Gh l))]:=by
 have hcl:=D7 l;refine Ha Tryz.func94 rfl ?_;refine go tt [] rfl trivial ?_;refine lp (S:=Nat) 0 (λL1 i=>(9,.v (.one (.int .i64 (i:Int))))::L1) (λ_=>[]) (λi=>l.length-i) (λi=>i<=l.length) 0 (Qg _) rfl (λ_ _=>rfl) rfl λi hi=>?_
 by_cases hlt:i<l.length
 ·refine go tt [.t (decide_eq_true (by omega))] rfl trivial ?_;refine lp (S:=Nat) 0 (λL1 k=>(14,.v (.one (.int .i64 (k:Int))))::L1) (λ_=>[]) (λk=>0-k) (λk=>k=0) 0 rfl rfl (λ_ _=>rfl) rfl λk hk=>?_
  subst hk;exact go tt [.f rfl] rfl (by simp [Uf]; omega) (rd (i+1) (by omega) hlt rfl)
 ·exact en tt [.f (decide_eq_false (by omega))] rfl rfl trivial
theorem Zdw (l:List Nat) (n:Nat):(lm l).take (min l.length n)=lm (l.take n):=by
 rw [lm,lm,<-Yv];rcases Nat.le_total l.length n with h | h
 ·rw [Zr h,Q5,Qj h]
 ·rw [Vx h]
theorem Zh1 {l:List Nat} {n:Nat} (hn:n<=1000):Uh Tryz.prog 189 [.one (.row (lm l)),.one (.int .i64 (n:Int))] [.one (.row (lm (l.take n)))]:=by
 rw [<-Zdw];have hll:(lm l).length=l.length:=by simp [lm]
 exact w tt Tryz.func189 rfl [.r 9 (eI (b:=((min l.length n:Nat):Int)) (by omega)),.i (min l.length n)] rfl rfl (by simp [Uf,hll]; omega)
theorem Q5q {z:RawInt}:Uh Tryz.prog 150 [.agg (Qfs z),.one (.int .i64 1)] [.agg (Qfs z.cut)] :=
 w tt Tryz.func150 rfl [.c [] (Zh1 (l:=z.l) (n:=1) (by decide))] rfl rfl trivial
def Qbl (l:List RawInt):List (List LV):=l.map Qfs
theorem Qax (l:List RawInt):(Qbl l).length=l.length:=by simp [Qbl]
theorem Qyv {l:List RawInt}:Uh Tryz.prog 149 [.one (.row (Qbl l)),.one (.int .i64 3),.one (.int .i64 1)] [.one (.row (Qbl ((l.take 3).map RawInt.cut)))]:=by
 have hll:=Qax l;refine Ha Tryz.func149 rfl (ln 0 rfl rfl λhzl=>?_);rw [hll] at hzl;refine go tt [.o 7 55 2] rfl trivial ?_;refine lp (S:=Nat) 1 (λL1 i=>(8,.v (.one (.int .i64 (i:Int))))::(7,.v (.one (.orow 0 2 none)))::L1) (λi=>[.row false 55 2 (Qbl ((l.take i).map RawInt.cut))]) (λi=>3-i) (λi=>i<=3/\i<=l.length) 0 ⟨by decide,Qg _⟩ rfl (λ_ _=>rfl) rfl λi ⟨hi,hi2⟩=>?_
 have hil:(Qbl ((l.take i).map RawInt.cut)).length=i:=by rw [Qax,Zc,Qx]; omega
 by_cases h1:i<l.length
 ·by_cases h2:i<3
  ·obtain ⟨z,hz⟩:=gxE (l:=l) (i:=i) h1;have hm:∀ y∈[Qfs z.cut],y.length=2:=λy hy=>by rw [Qn.1 hy]; rfl
   refine go tt [.g 13 true (decide_eq_true (by omega)),.t (decide_eq_true (by omega)),.x (Gz (f:=Qfs) hz),.c [] Q5q,.s (sz:=2) hm] rfl (by simp [Uf,hil,-List.map_take]; omega) ?_;exact rd (i+1) (by omega) ⟨h2,h1⟩ (by rw [Xc,hz]; simp [Qbl]; rfl)
  ·have e:i=3:=by omega
   have e2:l.take 3=l.take i:=by rw [e]
   rw [e2];exact en tt [.g 13 true (decide_eq_true (by omega)),.f (decide_eq_false (by omega))] rfl rfl trivial
 ·have e:l.take i=l.take 3:=by rw [Qj (by omega),Qj (by omega)]
  rw [e];exact en tt [.g 13 false (decide_eq_false (by omega)),.f rfl] rfl rfl trivial
abbrev rcw (z:RawPt):List LV:=[.row (Qbl z.x),.row (Qbl z.y),.bool z.d.b,.row (lm z.d.l)]
def RawPt.cut (z:RawPt):RawPt:=⟨(z.x.take 3).map RawInt.cut,(z.y.take 3).map RawInt.cut,z.d.cut,z.id⟩
theorem Zkx {z:RawPt}:Uh Tryz.prog 91 [.agg (rcw z),.one (.int .i64 3),.one (.int .i64 1)] [.agg (rcw z.cut)] :=
 w tt Tryz.func91 rfl [.c [] (Qyv (l:=z.x)),.c [] (Qyv (l:=z.y)),.c [] (Q5q (z:=z.d))] rfl rfl trivial
theorem Qcu {z:RawInt} (hz:z.Ok) {most:Int} (hm:0<=most/\most<=999):Uh Tryz.prog 151 [.agg (Qfs z),.one (.int .i64 most)] [.agg (Gs (H4 most z))]:=by
 obtain ⟨b,l⟩:=z;have hb:=Qb2 hm.1 ⟨b,l⟩;have hs:Ur (H4 most ⟨b,l⟩)<=100000000:=Qd (Ri.2 (show (H4 most ⟨b,l⟩).natAbs<2^10 by omega)) (by decide);cases l with
 | nil=>exact w tt Tryz.func151 rfl [.t rfl] rfl (by simp [H4,D2]) trivial
 |
  cons u l =>
  have hu:=hz.u u (Qt ..);have co:=Cd (n:=H4 most ⟨b,u::l⟩) (by omega);have ct:=Q5j hs;have hr:Int.tmod (u:Int) (most+1)=(u:Int) % (most+1):=Yu (by omega);have h1:=V3 (u:Int) (b:=most+1) (by omega);have h2:=Ve (u:Int) (b:=most+1) (by omega);cases b with
  |
   true =>
   rw [show H4 most ⟨true,u::l⟩=-((u:Int) % (most+1)) from rfl] at co ct ⊢;exact w tt Tryz.func151 rfl [.f (decide_eq_false (by simp [lm]; try omega)),.x (l:=lm (u::l)) (i:=0) (xs:=[.int .u32 (u:Int)]) rfl,.r 18 (eI hr),.t rfl,.c [] co,.c [] ct] rfl rfl (by simp [Uf]; omega)
  |
   false =>
   rw [show H4 most ⟨false,u::l⟩=(u:Int) % (most+1) from rfl] at co ct ⊢;exact w tt Tryz.func151 rfl [.f (decide_eq_false (by simp [lm]; try omega)),.x (l:=lm (u::l)) (i:=0) (xs:=[.int .u32 (u:Int)]) rfl,.r 18 (eI hr),.f rfl,.c [] co,.c [] ct] rfl rfl (by simp [Uf]; omega)
theorem oz2 {P:Program} [Mo P] {n:Nat} {Q:Exit->Sg->List OB->Prop} {L L':Sg} {B B':List OB} (d off T sz:Nat) {it:List It} (hs:Hx it=true) (h:Q3i (P:=P) d L B [.oc d off T sz]=some (L',B',[],[])) (k:AK P n Q it L' B'):AK P n Q it L B:=AK.sub (Qpz h EqOk.nil) hs k
theorem pz {P:Program} [Mo P] {n:Nat} {Q:Exit->Sg->List OB->Prop} {L L':Sg} {B B':List OB} (i:Nat) {it:List It} (hs:Hx it=true) (h:Q3l [i] L B=some (L',B')) (k:AK P n Q it L' B'):AK P n Q it L B:=AK.sub (Qdu h) hs k
def Ex (l:List Int):List (List LV):=l.map Gs
theorem Q26 (l:List Int):(Ex l).length=l.length:=by simp [Ex]
theorem Qfi {most:Int} {l:List RawInt} {i:Nat} {a:RawInt} (hi:i<3) (h:l[i]? = some a):Ex (Gi most (l.take (i+1)))=Ex (Gi most (l.take i))++[Gs (H4 most a)]:=by
 rw [Qpa hi h]; simp [Ex]
theorem Qo9 {most:Int} {l:List RawInt} {i:Nat} (hi:i<=3) (h:i<=l.length):(Ex (Gi most (l.take i))).length=i:=by
 rw [Q26]; unfold Gi; rw [List.length_map,List.length_take,List.length_take]; omega
theorem Q44 {z:RawPt} (hz:z.Ok) {most:Int} (hm:0<=most/\most<=999):Uh Tryz.prog 92 [.agg (rcw z),.one (.int .i64 most)] [.agg (cl4 (Qdc most z.x z.y z.d))]:=by
 have hxl:=Qax z.x;have hyl:=Qax z.y;obtain ⟨D,hD⟩:=nmE (H4 3 z.d);have cd:=Qcu hz.d (most:=3) (by decide);have hx0:∀ {i:Nat},z.x.length<=i\/3<=i->Gi most (z.x.take i)=Gi most z.x:=Qgl most;have hy0:∀ {i:Nat},z.y.length<=i\/3<=i->Gi most (z.y.take i)=Gi most z.y:=Qgl most;unfold Qdc;rw [<-hD] at cd ⊢;refine Ha Tryz.func92 rfl ?_;refine go tt [.c [] cd] rfl trivial ?_;refine oz2 5 0 55 2 rfl rfl ?_;refine lp (S:=Nat) 4 (λL1 i=>(6,.v (.one (.int .i64 (i:Int))))::L1) (λi=>[.blk 57 (rcw z),.blk 57 [.nils,.nils,.bool false,.nils],.blk 57 [.orow 3 2 none,.nils,sg D,mg D],.row false 55 2 (Ex (Gi most (z.x.take i)))]) (λi=>3-i) (λi=>i<=3/\i<=z.x.length) 0 ⟨by decide,Qg _⟩ rfl (λ_ _=>rfl) rfl λi ⟨hi,hi2⟩=>?_
 have hll:=Qo9 (most:=most) hi hi2;by_cases hr:i<z.x.length/\i<3
 ·obtain ⟨a,ha⟩:=gxE (l:=z.x) (i:=i) hr.1;have hs:∀ y∈[Gs (H4 most a)],y.length=2:=λy hy=>by rw [Qn.1 hy]; rfl
  refine go tt [.g 17 true (decide_eq_true (by omega)),.t (decide_eq_true (by omega)),.x (Gz (f:=Qfs) ha),.c [] (Qcu (hz.x a (Qa ha)) hm),.s (sz:=2) hs] rfl (by simp [Uf,hll]; omega) ?_;exact rd (i+1) (by omega) ⟨hr.2,hr.1⟩ (by rw [Qfi hr.2 ha]; rfl)
 have hg1:decide ((i:Int)<((Qbl z.x).length:Int))=true->i<z.x.length:=λh=>by have:=of_decide_eq_true h; omega
 rw [hx0 (by omega)];clear hll;have hfin:∀ {j:Nat},j<=3/\j<=z.y.length->¬(j<z.y.length/\j<3)->Ex (Gi most (z.y.take j))=Ex (Gi most z.y):=λh1 h2=>by rw [hy0 (by omega)]
 by_cases hxx:i<z.x.length
 ·refine go tt [.g 17 true (decide_eq_true (by omega)),.f (decide_eq_false (by omega))] rfl trivial ?_;refine pz 3 rfl rfl ?_;refine oz2 5 1 55 2 rfl rfl ?_;refine lp (S:=Nat) 5 (λL1 j=>(7,.v (.one (.int .i64 (j:Int))))::L1) (λj=>[.blk 57 (rcw z),.blk 57 [.nils,.nils,.bool false,.nils],.blk 57 [.row (Ex (Gi most z.x)),.orow 4 2 none,sg D,mg D],.gone,.row false 55 2 (Ex (Gi most (z.y.take j)))]) (λj=>3-j) (λj=>j<=3/\j<=z.y.length) 0 ⟨by decide,Qg _⟩ rfl (λ_ _=>rfl) rfl λj ⟨hj,hj2⟩=>?_
  have hll:=Qo9 (most:=most) hj hj2;by_cases hr:j<z.y.length/\j<3
  ·obtain ⟨a,ha⟩:=gxE (l:=z.y) (i:=j) hr.1;have hs:∀ y∈[Gs (H4 most a)],y.length=2:=λy hy=>by rw [Qn.1 hy]; rfl
   refine go tt [.g 40 true (decide_eq_true (by omega)),.t (decide_eq_true (by omega)),.x (Gz (f:=Qfs) ha),.c [] (Qcu (hz.y a (Qa ha)) hm),.s (sz:=2) hs] rfl (by simp [Uf,hll]; omega) ?_;exact rd (j+1) (by omega) ⟨hr.2,hr.1⟩ (by rw [Qfi hr.2 ha]; rfl)
  rw [hfin ⟨hj,hj2⟩ hr];by_cases hyy:j<z.y.length
  ·exact ed tt [4] [] [.g 40 true (decide_eq_true (by omega)),.f (decide_eq_false (by omega))] rfl trivial
  ·exact ed tt [4] [] [.g 40 false (decide_eq_false (by omega)),.f rfl] rfl trivial
 ·refine go tt [.g 17 false (decide_eq_false (by omega)),.f rfl] rfl trivial ?_;refine pz 3 rfl rfl ?_;refine oz2 5 1 55 2 rfl rfl ?_;refine lp (S:=Nat) 5 (λL1 j=>(7,.v (.one (.int .i64 (j:Int))))::L1) (λj=>[.blk 57 (rcw z),.blk 57 [.nils,.nils,.bool false,.nils],.blk 57 [.row (Ex (Gi most z.x)),.orow 4 2 none,sg D,mg D],.gone,.row false 55 2 (Ex (Gi most (z.y.take j)))]) (λj=>3-j) (λj=>j<=3/\j<=z.y.length) 0 ⟨by decide,Qg _⟩ rfl (λ_ _=>rfl) rfl λj ⟨hj,hj2⟩=>?_
  have hll:=Qo9 (most:=most) hj hj2;by_cases hr:j<z.y.length/\j<3
  ·obtain ⟨a,ha⟩:=gxE (l:=z.y) (i:=j) hr.1;have hs:∀ y∈[Gs (H4 most a)],y.length=2:=λy hy=>by rw [Qn.1 hy]; rfl
   refine go tt [.g 40 true (decide_eq_true (by omega)),.t (decide_eq_true (by omega)),.x (Gz (f:=Qfs) ha),.c [] (Qcu (hz.y a (Qa ha)) hm),.s (sz:=2) hs] rfl (by simp [Uf,hll]; omega) ?_;exact rd (j+1) (by omega) ⟨hr.2,hr.1⟩ (by rw [Qfi hr.2 ha]; rfl)
  rw [hfin ⟨hj,hj2⟩ hr];by_cases hyy:j<z.y.length
  ·exact ed tt [4] [] [.g 40 true (decide_eq_true (by omega)),.f (decide_eq_false (by omega))] rfl trivial
  ·exact ed tt [4] [] [.g 40 false (decide_eq_false (by omega)),.f rfl] rfl trivial
theorem Zcc {n d:Int} (hn:-9223372036854775808<=n/\n<=9223372036854775807) (hd:-9223372036854775808<=d/\d<=9223372036854775807):Uh Tryz.prog 20 [.one (.int .i64 n),.one (.int .i64 d)] [.agg (fr (Gd (Iq n 61-30) (1+Iq d 6)))]:=by
 have h1:Iq n 61=n % 61:=rfl;have h2:Iq d 6=d % 6:=rfl;exact w tt Tryz.func20 rfl [.c [] (Qcs (v:=n) (n:=61) hn (by decide)),.c [] (Qcs (v:=d) (n:=6) hd (by decide)),.c [] (Zk1 (n:=Iq n 61-30) (d:=1+Iq d 6) (by omega) (by omega))] rfl rfl (by simp [Uf]; omega)
def rwq (z:RawPt):List LV:=rcw z++[.int .i64 z.id]
def Qd1 (l:List RawPt):List (List LV):=l.map rwq
theorem Q3t (l:List RawPt):(Qd1 l).length=l.length:=by simp [Qd1]
theorem Qqf {l:List RawPt} {i:Nat} {z:RawPt} (h:l[i]? = some z):(Qd1 l)[i]? = some (rwq z):=Gz h
theorem Zh8 {most:Int} (hm:0<=most/\most<=999) (z:RawPt):Cs 100000 16 (Qaq most z).c:=(Qlq hm z.x z.y z.d).mono (by decide) (by decide)
def Ac (n:Nat) (most:Int) (zs:List RawPt) (i:Nat):List Pt:=Qfo n most (zs.take i)
theorem Q9b (n:Nat) (most:Int) (zs:List RawPt) (i:Nat):(Ac n most zs i).length<=n:=I5 _ _ (Qg _)
theorem Zes {n:Nat} {most:Int} {zs:List RawPt} {i:Nat} {z:RawPt} (h:zs[i]? = some z) (hl:(Ac n most zs i).length<n) (ha:(Ac n most zs i).any (λx=>decide (x.id=(Qaq most z).id))=true):Ac n most zs (i+1)=Ac n most zs i:=by
 unfold Ac Qfo at *;rw [Xc,h,Vi,Jm];exact A1 _ _ _ hl ha
theorem Q9c {n:Nat} {most:Int} {zs:List RawPt} {i:Nat} {z:RawPt} (h:zs[i]? = some z) (hl:(Ac n most zs i).length<n) (ha:(Ac n most zs i).any (λx=>decide (x.id=(Qaq most z).id))=false):Ac n most zs (i+1)=Ac n most zs i++[Qaq most z]:=by
 unfold Ac Qfo at *;rw [Xc,h,Vi,Jm];exact L8 _ _ _ hl ha
theorem Q9a {n:Nat} {most:Int} {zs:List RawPt} {i:Nat} (h:¬(i<zs.length/\(Ac n most zs i).length<n)):Ac n most zs i=Qfo n most zs:=by
 by_cases h1:i<zs.length
 ·have hl:n<=(Ac n most zs i).length:=Y6 λh2=>h ⟨h1,h2⟩
  unfold Ac Qfo at *
  conv=>rhs; rw [<-Zf i zs,Jm]
  exact (Qe9 _ _ _ hl).symm
 ·unfold Ac; rw [List.take_of_length_le (by omega)]
theorem Q4m {f:Pt->Bool} {l:List Pt} {k:Nat} {x:Pt} (h:l[k]? = some x):(l.take (k+1)).any f=((l.take k).any f || f x):=by
 rw [Xc,h]; simp
theorem Q14 {zs:List RawPt} (hz:∀ z∈zs,z.Ok):Mv Tryz.prog 43 [.one (.row (Qd1 zs)),.one (.int .i64 4)] [] [.one (.orow 0 5 none),.one (.orow 1 7 none)] [.row false 114 5 (U4 (Qfo 4 20 zs)),.row false 61 7 (U8 ((Qfo 4 20 zs).map Pt.nrm))]:=by
 have hzl:=Q3t zs;refine Ha Tryz.func43 rfl (ln 0 rfl rfl λhz63=>?_);rw [hzl] at hz63;refine go tt [.o 6 114 5,.o 7 61 7] rfl trivial ?_;refine lp (S:=Nat) 2 (λL1 i=>(8,.v (.one (.int .i64 (i:Int))))::(6,.v (.one (.orow 0 5 none)))::(7,.v (.one (.orow 1 7 none)))::L1) (λi=>[.row false 114 5 (U4 (Ac 4 20 zs i)),.row false 61 7 (U8 ((Ac 4 20 zs i).map Pt.nrm))]) (λi=>zs.length-i) (λi=>i<=zs.length) 0 (Qg _) rfl (λ_ _=>rfl) rfl λi hi=>?_
 have hOl:=Q9b 4 20 zs i;have hend:=Q9a (n:=4) (most:=20) (zs:=zs) (i:=i);by_cases h1:i<zs.length
 ·by_cases h2:(Ac 4 20 zs i).length<4
  ·obtain ⟨z,hzi⟩:=gxE (l:=zs) (i:=i) h1;have hzok:=hz z (Qa hzi);have hin:=Zes hzi h2;have hout:=Q9c hzi h2;obtain ⟨O,hO⟩:=nmE (Ac 4 20 zs i);rw [<-hO] at hOl h2 hin hout ⊢;have hpl:=Nx O;have hrl:(U8 (O.map Pt.nrm)).length=O.length:=by rw [Tk,Zc]
   obtain ⟨p,hp⟩:=nmE (Qaq 20 z);have hid:Iq z.id 1000=p.id:=by rw [hp]; rfl
   have cw:=Qcs (v:=z.id) (n:=1000) hzok.id (by decide);have cl:=Q44 hzok (most:=20) (by decide);have ecl:cl4 (Qdc 20 z.x z.y z.d)=cl4 p.c:=by rw [hp]; rfl
   rw [hid] at cw;rw [ecl] at cl;rw [<-hp] at hin hout;refine go tt [.g 16 true (decide_eq_true (by omega)),.t (decide_eq_true (by omega)),.x (Qqf hzi),.c [] (Zkx (z:=z)),.x (Qqf hzi),.c [] cw,.f rfl,.t rfl,.x (Qqf hzi),.c [] cl] rfl trivial ?_;refine lp (S:=Nat) 3 (λL1 k=>(57,.v (.one (.int .i64 (k:Int))))::(10,.v (.one (.bool ((O.take k).any (λx=>decide (x.id=p.id))))))::L1) (λ_=>[.row false 114 5 (U4 O),.row false 61 7 (U8 (O.map Pt.nrm)),.blk 114 [pl p.c.x,pl p.c.y,sg p.c.d,mg p.c.d,.int .i64 p.id]]) (λk=>O.length-k) (λk=>k<=O.length) 0 (Qg _) rfl (λ_ _=>rfl) rfl λk hk=>?_
   by_cases hk2:k<O.length
   ·obtain ⟨x,hx⟩:=gxE (l:=O) (i:=k) hk2;have ha:=Q4m (f:=λx=>decide (x.id=p.id)) hx;cases hb:(O.take k).any (λx=>decide (x.id=p.id)) with
    |
     true =>
     rw [hb,Bool.true_or] at ha;exact go tt [.t (decide_eq_true (by omega)),.g 61 true rfl] rfl (by simp [Uf]; omega) (rd (k+1) (by omega) hk2 (by rw [ha]; rfl))
    |
     false =>
     rw [hb,Bool.false_or] at ha;exact go tt [.t (decide_eq_true (by omega)),.g 61 false rfl,.i k,.x (Oy hx)] rfl (by simp [Uf,hpl]; omega) (rd (k+1) (by omega) hk2 (by rw [ha]; rfl))
   have hk3:O.take k=O:=Qj (by omega);rw [hk3];cases hb:O.any (λx=>decide (x.id=p.id)) with
   |
    true =>
    refine go tt [.f (decide_eq_false (by omega)),.f rfl] rfl (by simp [Uf]; omega) ?_;exact rd (i+1) (by omega) h1 (by rw [hin hb]; rfl)
   |
    false =>
    have cf:=Q5x (k:=p.c) (id:=p.id) (by rw [hp]; exact Zh8 (by decide) z);have hm1:∀ y∈[Hn p],y.length=5:=λy hy=>by rw [Qn.1 hy]; rfl
    have hm2:∀ y∈[Bl p.nrm],y.length=7:=λy hy=>by rw [Qn.1 hy]; rfl
    have e1:U4 (O++[p])=U4 O++[Hn p]:=by simp [U4]
    have e2:U8 ((O++[p]).map Pt.nrm)=U8 (O.map Pt.nrm)++[Bl p.nrm]:=by simp [U8]
    refine go tt [.f (decide_eq_false (by omega)),.t rfl,.s (sz:=5) hm1,.c [] cf,.s (sz:=7) hm2] rfl (by simp [Uf,hpl,hrl]; omega) ?_;exact rd (i+1) (by omega) h1 (by rw [hout hb,e1,e2]; rfl)
  ·rw [hend (λh=>h2 h.2)];rw [hend (λh=>h2 h.2)] at h2;have hpl:=Nx (Qfo 4 20 zs);exact ed tt [] [0,1] [.g 16 true (decide_eq_true (by omega)),.f (decide_eq_false (by omega))] rfl trivial
 ·rw [hend (λh=>h1 h.1)];exact ed tt [] [0,1] [.g 16 false (decide_eq_false (by omega)),.f rfl] rfl trivial
abbrev plZ (M:List Pt) (q:Rat):List LV:=.row (U8 M)::(fr q++[.nils,.nils,.nils,.bool false,.nils,.bool false,.nils,.bool false,.nils,.bool false,.nils,.int .i64 0,.nils])
abbrev plB (M:List Pt) (q:Rat) (c:List (List Int)) (w:List Ct):List LV:=.row (U8 M)::(fr q++(aq q c++[.row (Gh w),.int .i64 0,.nils]))
end Orr
namespace Orr
open Go Go.Proofs Orq
set_option maxRecDepth 10000
theorem Zda {O:List Pt} {e j:Nat} (h:Dh (Tl O e)) (hj:j<=e):Dh (Tl O j):=by
 have:Tl O j=(Tl O e).take j:=by unfold Tl; rw [<-List.map_take,List.take_take,Nat.min_eq_left hj]
 rw [this];exact List.Pairwise.sublist (Wu _ _) h
theorem Zia (O:List Pt):∃ e,e<=O.length/\Dh (Tl O e)/\(e<O.length->¬Dh (Tl O (e+1))):=by
 have key:∀ k,Dh (Tl O k)\/∃ e,e<k/\Dh (Tl O e)/\¬Dh (Tl O (e+1)):=by
  intro k
  induction k with
  | zero=>exact .inl List.Pairwise.nil
  |
   succ k ih =>
   rcases ih with h | ⟨e,h1,h2,h3⟩
   ·by_cases h4:Dh (Tl O (k+1))
    ·exact .inl h4
    ·exact .inr ⟨k,Nat.lt_succ_self k,h,h4⟩
   ·exact .inr ⟨e,by omega,h2,h3⟩
 rcases key O.length with h | ⟨e,h1,h2,h3⟩
 ·exact ⟨O.length,Qm _,h,λh=>absurd h (Wp _)⟩
 ·exact ⟨e,by omega,h2,λ_=>h3⟩
theorem Qp0 {O:List Pt} {i:Nat} {p:Pt} (h:O[i]? = some p):(U4 (mix O i)).set i [pl p.c.x,pl p.c.y,sg p.c.d,mg p.c.d,.int .i64 p.m5.id]=U4 (mix O (i+1)):=by
 rw [<-Q0j h]; simp only [U4,Yo]; rfl
theorem Qlc {O:List Pt} {i:Nat} {p:Pt} (h:O[i]? = some p):(U8 ((mix O i).map Pt.nrm)).set i [rp (Lv p.nrm.c.x p.nrm.c.d),rp (Lv p.nrm.c.y p.nrm.c.d),pl p.nrm.c.x,pl p.nrm.c.y,sg p.nrm.c.d,mg p.nrm.c.d,.int .i64 p.m5.id]=U8 ((mix O (i+1)).map Pt.nrm):=by
 rw [<-Q0j h]; simp only [U8,Yo]; rfl
theorem Q3k {O:List Pt} {e i:Nat} (h:e<=i) (hi:i<=O.length):(U4 (mix O i)).take e=U4 (Tl O e):=by
 unfold U4; rw [<-List.map_take,Qsy h hi]; rfl
theorem Qxl {O:List Pt} {e i:Nat} (h:e<=i) (hi:i<=O.length):(U8 ((mix O i).map Pt.nrm)).take e=U8 (Qba O e):=by
 unfold U8; rw [<-List.map_take,<-List.map_take,Qsy h hi]; rfl
theorem Qsx {O:List Pt}:mix O O.length=Tl O O.length:=by unfold mix Tl; simp
abbrev A9 (n d:Int):Rat:=Gd (Iq n 61-30) (1+Iq d 6)
theorem Qnk (n d:Int):Qs 100 (A9 n d):=by
 have h1:Iq n 61=n % 61:=rfl;have h2:Iq d 6=d % 6:=rfl;unfold A9 Gd;rw [if_neg (by omega)];exact Qs.divInt (Qd (Ri.2 (show (Iq n 61-30).natAbs<2^10 by omega)) (by decide)) (Qd (Ri.2 (show (1+Iq d 6).natAbs<2^10 by omega)) (by decide)) (by decide)
theorem Zet {n:Nat} {most:Int} {l:List RawPt}:∀ p∈Qfo n most l,0≤p.id/\p.id<1000:=λp hp=>by
 rcases Qc6 _ _ hp with h | h
 ·cases h
 ·obtain ⟨z,_,rfl⟩:=Zi.1 h;exact ⟨V3 _ (by decide),Ve _ (by decide)⟩
end Orr
namespace Orr
def Sv:Nat->List Pt->List (Pt×Pt)
 | 0,_=>[]
 | _+1,[]=>[]
 | k+1,x::l=>l.map (λy=>(x,y))++Sv k l
def Cq (l:List Pt):List (Pt×Pt):=Sv l.length l
theorem Lr:∀ (l:List Pt) (i:Nat) (x:Pt),l[i]? = some x->Sv (i+1) l=Sv i l++(l.drop (i+1)).map (λy=>(x,y))
 | [],i,x,h=>by simp at h
 |
  y::l,0,x,h=>by
  simp at h; subst h;simp [Sv]
 |
  y::l,i+1,x,h=>by
  have h:l[i]? = some x:=by simpa using h
  have ih:=Lr l i x h;show l.map (λz=>(y,z))++Sv (i+1) l=(l.map (λz=>(y,z))++Sv i l)++_;rw [ih,Ze];rfl
theorem Qj4:∀ (k:Nat) (l:List Pt),∀ m∈Sv k l,m.1∈l/\m.2∈l
 | 0,l,m,h=>by simp [Sv] at h
 | k+1,[],m,h=>by simp [Sv] at h
 |
  k+1,x::l,m,h=>by
  rcases Qw.1 h with h | h
  ·obtain ⟨y,hy,rfl⟩:=Zi.1 h;exact ⟨Qt ..,Qh _ hy⟩
  ·obtain ⟨h1,h2⟩:=Qj4 k l m h;exact ⟨Qh _ h1,Qh _ h2⟩
def Zp0 (s m:Pt×Pt):Bool:=decide (m.1.id≠s.1.id) || decide (m.2.id≠s.2.id)
end Orr
namespace Orq
open Orr Go
structure Quiet {β:Type} (Bc:Tm->List Ct) (Br:Tm->β) (a b:Tm):Prop where
 va:Va a
 vb:Va b
 le:¬TLt b a
 n:∀ x∈Bc a,∃ o,Ld x.p a o/\∀ u,o=some u->TLt b u
section
variable {β:Type} {Bc:Tm->List Ct} {Br:Tm->β} (S:Stab Bc Br)
include S
theorem Quiet.same {a b:Tm} (h:Quiet Bc Br a b):Bc b=Bc a/\Br b=Br a:=by
 refine S.st a b h.va h.vb λx hx=>?_
 obtain ⟨o,o1,o2⟩:=h.n x hx;exact Q2z (S.ok.p _ h.va _ hx).dp h.va h.vb h.le o1 o2
end
end Orq
namespace Orr
open Go Go.Proofs Orq
set_option maxRecDepth 10000
theorem Qi2 {l m:List (List LV)} (h:l=m):TV.one (LV.row l)=.one (.row m):=h ▸ rfl
end Orr
namespace Orr
open Go Go.Proofs
set_option maxRecDepth 10000
theorem Qob {p q:List Int} (hp:Bd 19000000 p) (hq:Bd 19000000 q) (hlp:p.length<=1000000) (hlq:q.length<=1000000):Uh Tryz.prog 55 [.one (rp (zp p)),.one (rp (zp q))] [.one (rp (zp (Tf p q)))]:=by
 have h:=Qvp (Qbk (Ug hp (by decide)) (by decide)) (Qbk (Ug hq (by decide)) (by decide)) (by rw [Ty]; exact hlp) (by rw [Ty]; exact hlq);rwa [Q09] at h
theorem Qjf (p:List Int) (q:Rat):Nw (Ak q) p=Fc p q:=rfl
end Orr
namespace Orr
def Ls (l:List (List (List Int))):List (List LV):=l.map λr=>[.row (r.map λp=>[pl p])]
abbrev Ox (r:List (List Int)):List (List LV):=r.map λp=>[pl p]
theorem Qau (l:List (List (List Int))):(Ls l).length=l.length:=by simp [Ls]
def Og (i:Nat) (rows:List (List (List Int))):Nat->List (List (List Int))
 | 0=>[]
 | j+1=>if j=i then Og i rows j else Og i rows j++[(rows.getD j []).drop 1]
def Of (rows:List (List (List Int))) (i:Nat):List (List (List Int)):=Og i rows rows.length
def Mt (f:Nat->List Int) (rows:List (List (List Int))):Nat->List Int
 | 0=>[]
 |
  i+1=>if ((rows.getD i []).getD 0 []).length=0 then Mt f rows i else
  if i % 2=0 then Tf (Mt f rows i) (Uq ((rows.getD i []).getD 0 []) (f i)) else Sx (Mt f rows i) (Uq ((rows.getD i []).getD 0 []) (f i))
def Pn:Nat->List (List (List Int))->List Int
 | 0,_=>[1]
 | k+1,rows=>Mt (λi=>Pn k (Of rows i)) rows (k+1)
structure Sq (s:Nat) (ds:List Nat) (k w:Nat) (rows:List (List (List Int))):Prop where
 l:rows.length=k
 w:∀ r∈rows,r.length=w
 t:∀ r∈rows,∀ p∈r,Um p
 b:∀ r∈rows,∀ p∈r,Bd s p
 n:∀ r∈rows,∀ (j:Nat) (p:List Int),r[j]? = some p->p.length≤ds.getD j 0+1
theorem Qju {i:Nat} {rows:List (List (List Int))}:∀ {j:Nat} {r:List (List Int)},j≤rows.length->r∈Og i rows j->∃ q∈rows,r=q.drop 1
 | 0,r,_,h=>by simp [Og] at h
 |
  j+1,r,hj,h=>by
  simp only [Og] at h
  split at h
  ·exact Qju (by omega) h
  ·rcases Qw.1 h with h | h
   ·exact Qju (by omega) h
   ·rw [Qn.1 h];exact ⟨rows.getD j [],Qa (i:=j) (by rw [Qe,Qf (by omega)]; rfl),rfl⟩
theorem Qjt {i:Nat} {rows:List (List (List Int))}:∀ (j:Nat),(Og i rows j).length=if i<j then j-1 else j
 | 0=>rfl
 |
  j+1=>by
  have ih:=Qjt (i:=i) (rows:=rows) j;simp only [Og]
  split
  ·rename_i e; subst e; rw [ih,if_neg (by omega),if_pos (by omega)]; omega
  ·rw [Q6,ih,Ko]
   split <;> split <;> omega
theorem Sq.min {s d k w:Nat} {ds:List Nat} {rows:List (List (List Int))} (h:Sq s (d::ds) (k+1) (w+1) rows) {i:Nat} (hi:i<k+1):Sq s ds k w (Of rows i):=by
 have hl:=h.l;have hm:∀ {r:List (List Int)},r∈Of rows i->∃ q∈rows,r=q.drop 1:=λh=>Qju (Qm _) h
 refine ⟨by unfold Of; rw [Qjt,hl,if_pos hi]; omega,λr hr=>?_,λr hr p hp=>?_,λr hr p hp=>?_,λr hr j p hp=>?_⟩
 ·obtain ⟨q,hq,rfl⟩:=hm hr;rw [Xp,h.w q hq]; omega
 all_goals obtain ⟨q,hq,rfl⟩:=hm hr
 ·exact h.t q hq p (Q3 hp)
 ·exact h.b q hq p (Q3 hp)
 ·rw [Xb] at hp;have:=h.n q hq (1+j) p hp;rw [J1 1 j] at this;exact this
theorem Sq.at {s d k w:Nat} {ds:List Nat} {rows:List (List (List Int))} (h:Sq s (d::ds) k (w+1) rows) {i:Nat} (hi:i<k):∃ p r,rows[i]? = some (p::r)/\(rows.getD i []).getD 0 []=p/\Um p/\Bd s p/\p.length<=d+1:=by
 obtain ⟨r,hr⟩:=gxE (l:=rows) (i:=i) (by rw [h.l]; exact hi);have hm:=Qa hr;cases r with
 | nil=>have:=h.w _ hm; simp at this
 |
  cons p r =>
  have e:rows.getD i []=p::r:=by rw [Qe,hr]; rfl
  refine ⟨p,r,hr,by rw [e]; rfl,h.t _ hm p (by simp),h.b _ hm p (by simp),h.n _ hm 0 p rfl⟩
theorem Qoq {s d k w:Nat} {ds:List Nat} {f:Nat->List Int} {rows:List (List (List Int))} {B L:Nat} (h:Sq s (d::ds) k (w+1) rows) (hn:d<31) (hf:∀ i,i<k->Bd B (f i)/\(f i).length<=L+1):∀ i,i<=k->Um (Mt f rows i)/\Bd (s+B+5+i) (Mt f rows i)/\(Mt f rows i).length<=d+L+1
 | 0,_=>⟨rfl,λz hz=>(by cases hz),Qg _⟩
 |
  i+1,hi=>by
  obtain ⟨h1,h2,h3⟩:=Qoq h hn hf i (by omega);obtain ⟨p,r,_,e,t,b,l⟩:=h.at (i:=i) (by omega);obtain ⟨f1,f2⟩:=hf i (by omega);have hp1:Bd (s+B+5) (Uq p (f i)):=Rx b f1 (by omega);have hp2:=Hu p (f i);simp only [Mt];rw [e]
  split
  ·exact ⟨h1,Ug h2 (by omega),h3⟩
  ·split
   ·exact ⟨Uv _ _,Ug (Qcp h2 hp1) (by omega),Qd (Ob _ _) (by omega)⟩
   ·exact ⟨Uv _ _,Ug (Qn0 h2 hp1) (by omega),Qd (Qjr _ _) (by omega)⟩
theorem Qhv {s:Nat}:∀ (k:Nat) (ds:List Nat) (rows:List (List (List Int))),k<=4->ds.length=k->ds.sum<31->Sq s ds k k rows->Um (Pn k rows)/\Bd (k*(s+10)+1) (Pn k rows)/\(Pn k rows).length<=ds.sum+1
 | 0,ds,rows,_,_,_,_=>⟨rfl,λz hz=>(by simp [Pn] at hz; subst hz; rw [J4]; decide),by simp [Pn]⟩
 | k+1,[],rows,_,hl,_,_=>by simp at hl
 |
  k+1,d::ds,rows,hk,hl,hd,h=>by
  rw [V0] at hd;have ih:=λi (hi:i<k+1)=>Qhv k ds (Of rows i) (by omega) (by simpa using hl) (by omega) (h.min hi)
  obtain ⟨h1,h2,h3⟩:=Qoq (f:=λi=>Pn k (Of rows i)) (B:=k*(s+10)+1) (L:=ds.sum) h (by omega) (λi hi=>⟨(ih i hi).2.1,(ih i hi).2.2⟩) (k+1) (Qm _);have e1:(k+1)*(s+10)=k*(s+10)+(s+10):=Xe ..;rw [V0];exact ⟨h1,Ug h2 (by omega),h3⟩
def Lq (a b c:Crv):List (List (List Int)):=[[a.x,a.y,[a.d]],[b.x,b.y,[b.d]],[c.x,c.y,[c.d]]]
def Gn (a b c:Crv):List Int:=Pn 3 (Lq a b c)
end Orr
namespace Orr
open Go Go.Proofs Orq
set_option maxRecDepth 10000
theorem gz {P:Program} [Mo P] {n:Nat} {Q:Exit->Sg->List OB->Prop} {L L':Sg} {B B':List OB} (i:Nat) {it:List It} (hs:Hx it=true) (h:Q3l [i] L B=some (L',B')) (k:AK P n Q it L' B'):AK P n Q it L B:=AK.sub (Qdu h) hs k
theorem Qkj {r:List (List Int)} {i:Nat} {p:List Int} (h:r[i]? = some p):(Ox r)[i]? = some [pl p]:=Gz h
theorem Db {l:List (List (List Int))} {i:Nat} {r:List (List Int)} (h:l[i]? = some r):(Ls l)[i]? = some [.row (Ox r)]:=Gz h
theorem Q4z {r:List (List Int)} (ht:∀ p∈r,Um p) (hb:∀ p∈r,Bd 1000000 p) (hl:∀ p∈r,p.length≤1000000) (hn:r.length≤1000):Uh Tryz.prog 211 [.one (.row (Ox r))] [.one (.row (Ox r))]:=by
 have hrl:(Ox r).length=r.length:=by simp
 refine Ha Tryz.func211 rfl ?_;refine go tt [.o 3 52 1] rfl trivial ?_;refine lp (S:=Nat) 1 (λL1 i=>(8,.v (.one (.int .i64 (i:Int))))::(3,.v (.one (.orow 0 1 none)))::L1) (λi=>[.row false 52 1 (Ox (r.take i))]) (λi=>r.length-i) (λi=>i<=r.length) 0 (Qg _) rfl (λ_ _=>rfl) rfl λi hi=>?_
 by_cases h:i<r.length
 ·obtain ⟨p,hp⟩:=gxE (l:=r) (i:=i) h;have hm:=Qa hp;have hs:∀ y∈[[pl p]],y.length=1:=λy hy=>by rw [Qn.1 hy]; rfl
  have e:Ox (r.take (i+1))=Ox (r.take i)++[[pl p]]:=by rw [Xc,hp]; simp
  refine go tt [.t (decide_eq_true (by omega)),.x (Qkj hp),.c [] (Hq (ht p hm) (by have:=hl p hm; omega) (Ug (hb p hm) (by decide))),.s (sz:=1) hs] rfl (by simp [Uf] <;> omega) ?_;exact rd (i+1) (by omega) h (by rw [e]; rfl)
 ·obtain rfl:i=r.length:=by omega
  rw [Q5];exact en tt [.f (decide_eq_false (by omega))] rfl rfl trivial
theorem Zlc {s k w:Nat} {ds:List Nat} {rows:List (List (List Int))} (h:Sq s ds k k rows) (_hw:w=k) (hk:k<=4):Uh Tryz.prog 246 [.one (.row (Ls rows))] [.one (.bool true)]:=by
 have hrl:=Qau rows;have hl:=h.l;refine Ha Tryz.func246 rfl ?_;refine go tt [] rfl trivial ?_;refine lp (S:=Nat) 0 (λL1 i=>(7,.v (.one (.int .i64 (i:Int))))::L1) (λ_=>[]) (λi=>rows.length-i) (λi=>i<=rows.length) 0 (Qg _) rfl (λ_ _=>rfl) rfl λi hi=>?_
 by_cases hlt:i<rows.length
 ·obtain ⟨r,hr⟩:=gxE (l:=rows) (i:=i) hlt;have hw:=h.w r (Qa hr);have hql:(Ox r).length=r.length:=by simp
  refine go tt [.t (decide_eq_true (by omega)),.x (Db hr),.f (decide_eq_false (λh=>h (by omega)))] rfl (by simp [Uf] <;> omega) ?_;exact rd (i+1) (by omega) hlt rfl
 ·exact en tt [.f (decide_eq_false (by omega))] rfl (by rw [decide_eq_true (by omega:((Ls rows).length:Int)<=4)]) trivial
theorem Zck {s k w:Nat} {ds:List Nat} {rows:List (List (List Int))} (h:Sq s ds k w rows) (hs:s<=1000000) (hk:k<=4) (hw:w<=4) (hd:∀ j,ds.getD j 0<=1000) (i:Nat):Uh Tryz.prog 277 [.one (.int .i64 (i:Int)),.one (.int .i64 0),.one (.row (Ls rows))] [.one (.row (Ls (Of rows i)))]:=by
 have hrl:=Qau rows;have hl:=h.l;have hml:∀ j,j<=rows.length->(Ls (Og i rows j)).length<=4:=λj hj=>by
  rw [Qau,Qjt]; split <;> omega
 refine Ha Tryz.func277 rfl ?_;refine go tt [.o 7 251 1] rfl trivial ?_;refine lp (S:=Nat) 1 (λL1 j=>(15,.v (.one (.int .i64 (j:Int))))::(7,.v (.one (.orow 0 1 none)))::L1) (λj=>[.row false 251 1 (Ls (Og i rows j))]) (λj=>rows.length-j) (λj=>j<=rows.length) 0 (Qg _) rfl (λ_ _=>rfl) rfl λj hj=>?_
 have hmlj:=hml j hj;by_cases hlt:j<rows.length
 ·obtain ⟨r,hr⟩:=gxE (l:=rows) (i:=j) hlt;have hm:=Qa hr;have hw:=h.w r hm;have hql:(Ox r).length=r.length:=by simp
  by_cases hij:j=i
  ·have e:Og i rows (j+1)=Og i rows j:=by simp only [Og]; rw [if_pos hij]
   refine go tt [.t (decide_eq_true (by omega)),.x (Db hr),.t (decide_eq_true (by omega))] rfl (by simp [Uf] <;> omega) ?_;exact rd (j+1) (by omega) hlt (by rw [e]; rfl)
  ·have e:Og i rows (j+1)=Og i rows j++[r.drop 1]:=by
    simp only [Og]; rw [if_neg hij,Qe,hr]; rfl
   refine go tt [.t (decide_eq_true (by omega)),.x (Db hr),.f (decide_eq_false (by omega)),.o 10 52 1] rfl (by simp [Uf]) ?_;refine lp (S:=Nat) 2 (λL1 c=>(25,.v (.one (.int .i64 (c:Int))))::(10,.v (.one (.orow 1 1 none)))::L1) (λc=>[.row false 251 1 (Ls (Og i rows j)),.row false 52 1 (Ox ((r.take c).drop 1))]) (λc=>r.length-c) (λc=>c<=r.length) 0 (Qg _) rfl (λ_ _=>rfl) rfl λc hc=>?_
   by_cases hcl:c<r.length
   ·obtain ⟨p,hp⟩:=gxE (l:=r) (i:=c) hcl;have hpm:=Qa hp;by_cases h0:c=0
    ·subst h0;refine go tt [.t (decide_eq_true (by omega)),.x (Qkj hp),.f (decide_eq_false (by simp))] rfl (by simp [Uf]) ?_;exact rd 1 (by omega) hcl (by rw [Xc,hp]; rfl)
    ·have hs1:∀ y∈[[pl p]],y.length=1:=λy hy=>by rw [Qn.1 hy]; rfl
     have e2:Ox ((r.take (c+1)).drop 1)=Ox ((r.take c).drop 1)++[[pl p]]:=by
      rw [Xc,hp,Vn (by rw [Qx]; omega)]; simp
     refine go tt [.t (decide_eq_true (by omega)),.x (Qkj hp),.t (decide_eq_true (by omega)),.c [] (Hq (h.t r hm p hpm) (by have:=h.n r hm c p hp; have:=hd c; omega) (Ug (h.b r hm p hpm) (by omega))),.s (sz:=1) hs1] rfl (by simp [Uf] <;> omega) ?_;exact rd (c+1) (by omega) hcl (by rw [e2]; rfl)
   ·obtain rfl:c=r.length:=by omega
    rw [Q5];have hs1:∀ y∈[[LV.row (Ox (r.drop 1))]],y.length=1:=λy hy=>by rw [Qn.1 hy]; rfl
    refine go tt [.f (decide_eq_false (by omega))] rfl trivial ?_;refine gz 1 rfl rfl ?_;refine go tt [.s (sz:=1) hs1] rfl (by simp [Uf] <;> omega) ?_;exact rd (j+1) (by omega) hlt (by rw [e]; simp [Ls]; rfl)
 ·obtain rfl:j=rows.length:=by omega
  exact en tt [.f (decide_eq_false (by omega))] rfl rfl trivial
theorem Qgc:∀ (ds:List Nat) (j:Nat),ds.getD j 0<=ds.sum
 | [],j=>by simp
 | d::ds,0=>by simp
 |
  d::ds,j+1=>by
  have:=Qgc ds j;rw [V0];show ds.getD j 0<=_;omega
theorem Zgg {s:Nat} (hs:s<=100000):∀ (k:Nat) (ds:List Nat) (rows:List (List (List Int))),k<=4->ds.length=k->ds.sum<31->Sq s ds k k rows->Uh Tryz.prog 247 [.one (.row (Ls rows))] [pr (Pn k rows)]
 |
  0,ds,rows,_,_,_,h=>by
  have e:=Qi h.l;subst e;have co:=Q5c (p:=[1]) (by decide) (by decide);exact w tt Tryz.func247 rfl [.t rfl,.c [] co] rfl rfl trivial
 | k+1,[],_,_,hl,_,_=>by simp at hl
 |
  k+1,d::ds,rows,hk,hl,hd,h=>by
  rw [V0] at hd;have hl':ds.length=k:=by simpa using hl
  have hrl:=Qau rows;have hrn:=h.l;have hmin:=λi (hi:i<k+1)=>h.min hi
  have ih:=λi (hi:i<k+1)=>Zgg hs k ds (Of rows i) (by omega) hl' (by omega) (hmin i hi)
  have hok:=λi (hi:i<k+1)=>Qhv k ds (Of rows i) (by omega) hl' (by omega) (hmin i hi)
  have hb:k*(s+10)+1<=500000:=by
   have:k*(s+10)<=4*(100010):=Zw (by omega) (by omega);omega
  have hds:=Qoq (f:=λi=>Pn k (Of rows i)) (B:=k*(s+10)+1) (L:=ds.sum) h (by omega) (λi hi=>⟨(hok i hi).2.1,(hok i hi).2.2⟩);have cm:=Zck h (by omega) hk hk (λj=>by have:=Qgc (d::ds) j; rw [V0] at this; omega);show Uh Tryz.prog 247 [.one (.row (Ls rows))] [pr (Mt (λi=>Pn k (Of rows i)) rows (k+1))];obtain ⟨f,hf⟩:=nmE (λi=>Pn k (Of rows i));rw [<-hf] at hds ⊢;have hfi:∀ i,f i=Pn k (Of rows i):=λi=>by rw [hf]
  refine Ha Tryz.func247 rfl ?_;refine go tt [.f (decide_eq_false (by omega)),.z 3] rfl trivial ?_;refine lp (S:=Nat) 0 (λL1 i=>(14,.v (.one (.int .i64 (i:Int))))::(3,.v (pr (Mt f rows i)))::L1) (λ_=>[]) (λi=>k+1-i) (λi=>i<=k+1) 0 (Qg _) rfl (λ_ _=>rfl) rfl λi hi=>?_
  obtain ⟨d1,d2,d3⟩:=hds i hi;by_cases hlt:i<k+1
  ·obtain ⟨p,r,hr,e,t,b,l⟩:=h.at hlt;have hx0:(Ox (p::r))[0]? = some [pl p]:=rfl;have hpl:(p.map Gs).length=p.length:=by simp
   have cn:=Hq t (by omega) (Ug b (by omega));by_cases h0:p.length=0
   ·have es:Mt f rows (i+1)=Mt f rows i:=by simp only [Mt]; rw [e,if_pos h0]
    refine go tt [.t (decide_eq_true (by omega)),.x (Db hr),.x hx0,.c [] cn,.t (decide_eq_true (by omega))] rfl (by simp [Uf] <;> omega) ?_;exact rd (i+1) (by omega) hlt (by rw [es]; rfl)
   ·obtain ⟨k1,k2,k3⟩:=hok i hlt;have ci:=ih i hlt;have cp:=Qvf (p:=p) (q:=f i) t (by rw [hfi]; exact k1) (by omega) (by rw [hfi]; omega) b (by rw [hfi]; exact k2) (by omega);have hmb:Bd (s+(k*(s+10)+1)+5) (Uq p (f i)):=Rx b (by rw [hfi]; exact k2) (by omega);have hml:=Hu p (f i);have hfl:(f i).length<=ds.sum+1:=by rw [hfi]; exact k3
    rw [<-hfi] at ci;by_cases h2:i % 2=0
    ·have es:Mt f rows (i+1)=Tf (Mt f rows i) (Uq p (f i)):=by simp only [Mt]; rw [e,if_neg h0,if_pos h2]
     refine go tt [.t (decide_eq_true (by omega)),.x (Db hr),.x hx0,.c [] cn,.f (decide_eq_false (by omega)),.x hx0,.c [] (cm i),.c [] ci,.c [] cp,.r 34 (eI (b:=((i % 2:Nat):Int)) rfl),.t (decide_eq_true (by omega)),.c [] (Qve (p:=Mt f rows i) (q:=Uq p (f i)) (by omega) (by omega) (Ug d2 (by omega)) (Ug hmb (by omega)))] rfl (by simp [Uf] <;> omega) ?_;exact rd (i+1) (by omega) hlt (by rw [es]; rfl)
    ·have es:Mt f rows (i+1)=Sx (Mt f rows i) (Uq p (f i)):=by simp only [Mt]; rw [e,if_neg h0,if_neg h2]
     refine go tt [.t (decide_eq_true (by omega)),.x (Db hr),.x hx0,.c [] cn,.f (decide_eq_false (by omega)),.x hx0,.c [] (cm i),.c [] ci,.c [] cp,.r 34 (eI (b:=((i % 2:Nat):Int)) rfl),.f (decide_eq_false (by omega)),.c [] (Qvg (p:=Mt f rows i) (q:=Uq p (f i)) (by omega) (by omega) (Ug d2 (by omega)) (Ug hmb (by omega)))] rfl (by simp [Uf] <;> omega) ?_;exact rd (i+1) (by omega) hlt (by rw [es]; rfl)
  ·obtain rfl:i=k+1:=by omega
   exact en tt [.f (decide_eq_false (by omega))] rfl rfl trivial
theorem Zgb {s:Nat} (hs:s<=100000) {k:Nat} {ds:List Nat} {rows:List (List (List Int))} (hk:k<=4) (hl:ds.length=k) (hd:ds.sum<31) (h:Sq s ds k k rows):Uh Tryz.prog 212 [.one (.row (Ls rows))] [pr (Pn k rows),.one (.int .i64 0)] :=
 w tt Tryz.func212 rfl [.c [] (Zlc h rfl hk),.f rfl,.c [] (Zgg hs k ds rows hk hl hd h)] rfl rfl trivial
theorem Qvm {k:Crv} (hk:Sc k):Uh Tryz.prog 210 [.agg (cl k)] [.one (.row (Ox [k.x,k.y,[k.d]]))]:=by
 have h0:k.d≠0:=by have:=hk.n.2.2.1; omega
 have td:Um [k.d]:=by unfold Um; simp [trim,h0]
 have cd:=Q4z (r:=[k.x,k.y,[k.d]]) (λp hp=>by
  rcases Qo.1 hp with rfl | hp
  ·exact hk.n.1
  rcases Qo.1 hp with rfl | hp
  ·exact hk.n.2.1
  ·rw [Qn.1 hp]; exact td) (λp hp=>by
  rcases Qo.1 hp with rfl | hp
  ·exact Ug hk.c.x (by decide)
  rcases Qo.1 hp with rfl | hp
  ·exact Ug hk.c.y (by decide)
  ·rw [Qn.1 hp];intro z hz; rw [Qn.1 hz]; exact Qd hk.c.d (by decide)) (λp hp=>by
  rcases Qo.1 hp with rfl | hp
  ·have:=hk.c.lx; omega
  rcases Qo.1 hp with rfl | hp
  ·have:=hk.c.ly; omega
  ·rw [Qn.1 hp]; show 1<=1000000; decide) (by show 3<=1000; decide)
 exact w tt Tryz.func210 rfl [.c [] (Qyx hk.n (hk.c.mono (by decide) (by decide))),.c [] cd] rfl rfl trivial
theorem Qt5 {a b c:Crv} (ha:Sc a) (hb:Sc b) (hc:Sc c):Sq 128 [2,2,0] 3 3 (Lq a b c):=by
 have key:∀ k:Crv,Sc k->(∀ p∈[k.x,k.y,[k.d]],Um p/\Bd 128 p)/\∀ (j:Nat) (p:List Int),[k.x,k.y,[k.d]][j]? = some p->p.length≤[2,2,0].getD j 0+1:=λk hk=>by
  have h0:k.d≠0:=by have:=hk.n.2.2.1; omega
  have td:Um [k.d]:=by unfold Um; simp [trim,h0]
  refine ⟨λp hp=>?_,λj p hp=>?_⟩
  ·rcases Qo.1 hp with rfl | hp
   ·exact ⟨hk.n.1,hk.c.x⟩
   rcases Qo.1 hp with rfl | hp
   ·exact ⟨hk.n.2.1,hk.c.y⟩
   ·rw [Qn.1 hp];exact ⟨td,λz hz=>by rw [Qn.1 hz]; exact hk.c.d⟩
  ·match j,hp with
   | 0,hp=>injection hp with hp; subst hp; exact hk.c.lx
   | 1,hp=>injection hp with hp; subst hp; exact hk.c.ly
   | 2,hp=>injection hp with hp; subst hp; exact Qm _
   | j+3,hp=>simp at hp
 have hr:∀ r∈Lq a b c,∃ k:Crv,Sc k/\r=[k.x,k.y,[k.d]]:=λr hr=>by
  rcases Qo.1 hr with rfl | hr
  ·exact ⟨a,ha,rfl⟩
  rcases Qo.1 hr with rfl | hr
  ·exact ⟨b,hb,rfl⟩
  ·rw [Qn.1 hr]; exact ⟨c,hc,rfl⟩
 refine ⟨rfl,λr h=>?_,λr h p hp=>?_,λr h p hp=>?_,λr h j p hp=>?_⟩
 all_goals obtain ⟨k,hk,rfl⟩:=hr r h
 ·rfl
 ·exact ((key k hk).1 p hp).1
 ·exact ((key k hk).1 p hp).2
 ·exact (key k hk).2 j p hp
theorem Qlo {a b c:Crv} (ha:Sc a) (hb:Sc b) (hc:Sc c):Cp (Gn a b c):=by
 obtain ⟨h1,h2,h3⟩:=Qhv 3 [2,2,0] (Lq a b c) (by decide) rfl (by decide) (Qt5 ha hb hc);exact ⟨h1,Qd h3 (by decide),Ug h2 (by decide)⟩
theorem Q48 {a b c:Crv} (ha:Sc a) (hb:Sc b) (hc:Sc c):Uh Tryz.prog 171 [.agg (cl a),.agg (cl b),.agg (cl c)] [pr (Gn a b c)]:=by
 have cd:=Zgb (by decide) (k:=3) (ds:=[2,2,0]) (by decide) rfl (by decide) (Qt5 ha hb hc);exact w tt Tryz.func171 rfl [.c [] (Qvm ha),.c [] (Qvm hb),.c [] (Qvm hc),.c [] cd] rfl rfl trivial
abbrev zrw (r:List (List Int)):List (List LV):=r.map λp=>[rp (zp p)]
def zmt (M:List (List (List Int))):List (List LV):=M.map λr=>[.row (zrw r)]
theorem Qqz (M:List (List (List Int))):(zmt M).length=M.length:=by simp [zmt]
theorem Qq2 {r:List (List Int)} {i:Nat} {p:List Int} (h:r[i]? = some p):(zrw r)[i]? = some [rp (zp p)]:=Gz h
theorem Qh9 {l:List (List (List Int))} {i:Nat} {r:List (List Int)} (h:l[i]? = some r):(zmt l)[i]? = some [.row (zrw r)]:=Gz h
theorem Qv8 {α:Type} {R:List α} {j k:Nat} {x:α} (h:R[j]? = some x):(R.take (j+1)).eraseIdx k=if j=k then (R.take j).eraseIdx k else (R.take j).eraseIdx k++[x]:=by
 have hj:=(Qc.1 h).1;have hl:(R.take j).length=j:=by rw [Qx]; omega
 rw [Xc,h,Vi];rcases Vp k j with hk | hk | hk
 ·rw [if_neg (by omega),List.eraseIdx_append_of_lt_length (by omega)]
 ·subst hk;rw [if_pos rfl,Kh (by omega),hl,Yd,Vz (l:=R.take k) (by omega)];show R.take k++[]=_;rw [Xo]
 ·rw [if_neg (by omega),Kh (by omega),hl,Vz (l:=[x]) (by simp; omega),Vz (by omega)]
def Gg (M:List (List (List Int))) (k:Nat):List (List (List Int)):=(M.drop 1).map (·.eraseIdx k)
theorem Qsw {M:List (List (List Int))} {i k:Nat} {R:List (List Int)} (h:M[i]? = some R) (h0:0<i):Gg (M.take (i+1)) k=Gg (M.take i) k++[R.eraseIdx k]:=by
 have hi:=(Qc.1 h).1;unfold Gg;rw [Xc,h,Vi,Vn (by rw [Qx]; omega),Jm]; rfl
theorem Qww {M:List (List (List Int))} {i k:Nat} (hi:i<=M.length):(Gg (M.take i) k).length=i-1:=by
 unfold Gg; rw [List.length_map,List.length_drop,List.length_take]; omega
theorem Q52 {M:List (List (List Int))} {k:Nat} (hn:M.length≤100) (hM:∀ R∈M,R.length≤100):Uh Tryz.prog 109 [.one (.row (zmt M)),.one (.int .i64 0),.one (.int .i64 (k:Int))] [.one (.row (zmt (Gg M k)))]:=by
 have hrl:=Qqz M;refine Ha Tryz.func109 rfl ?_;refine go tt [.o 7 29 1] rfl trivial ?_;refine lp (S:=Nat) 1 (λL1 i=>(13,.v (.one (.int .i64 (i:Int))))::(7,.v (.one (.orow 0 1 none)))::L1) (λi=>[.row false 29 1 (zmt (Gg (M.take i) k))]) (λi=>M.length-i) (λi=>i<=M.length) 0 (Qg _) rfl (λ_ _=>rfl) rfl λi hi=>?_
 have hml:(zmt (Gg (M.take i) k)).length=i-1:=by rw [Qqz,Qww hi]
 by_cases hlt:i<M.length
 ·obtain ⟨r,hr⟩:=gxE (l:=M) (i:=i) hlt;have hm:=hM r (Qa hr);have hql:(zrw r).length=r.length:=by simp
  by_cases h0:i=0
  ·subst h0;have e:Gg (M.take 1) k=Gg (M.take 0) k:=by unfold Gg; simp
   refine go tt [.t (decide_eq_true (by omega)),.t rfl] rfl (by simp [Uf]) ?_;exact rd 1 (by omega) hlt (by rw [e]; rfl)
  ·have e:=Qsw (k:=k) hr (by omega);refine go tt [.t (decide_eq_true (by omega)),.f (decide_eq_false (by omega)),.o 9 28 1,.x (Qh9 hr)] rfl (by simp [Uf] <;> omega) ?_;refine lp (S:=Nat) 2 (λL1 c=>(24,.v (.one (.int .i64 (c:Int))))::(9,.v (.one (.orow 1 1 none)))::L1) (λc=>[.row false 29 1 (zmt (Gg (M.take i) k)),.row false 28 1 (zrw ((r.take c).eraseIdx k))]) (λc=>r.length-c) (λc=>c<=r.length) 0 (Qg _) rfl (λ_ _=>rfl) rfl λc hc=>?_
   have hzl:((r.take c).eraseIdx k).length<=c:=by
    exact Qd (List.eraseIdx_sublist ..).length_le (by rw [Qx]; omega)
   by_cases hcl:c<r.length
   ·obtain ⟨p,hp⟩:=gxE (l:=r) (i:=c) hcl;have e2:=Qv8 (k:=k) hp;by_cases hck:c=k
    ·rw [if_pos hck] at e2;refine go tt [.t (decide_eq_true (by omega)),.f (decide_eq_false (by omega))] rfl (by simp [Uf] <;> omega) ?_;exact rd (c+1) (by omega) hcl (by rw [e2]; rfl)
    ·rw [if_neg hck] at e2;have hs1:∀ y∈[[rp (zp p)]],y.length=1:=λy hy=>by rw [Qn.1 hy]; rfl
     refine go tt [.t (decide_eq_true (by omega)),.t (decide_eq_true (by omega)),.x (Qh9 hr),.x (Qq2 hp),.s (sz:=1) hs1] rfl (by simp [Uf] <;> omega) ?_;exact rd (c+1) (by omega) hcl (by rw [e2]; simp [zrw]; rfl)
   ·obtain rfl:c=r.length:=by omega
    rw [Q5];have hs1:∀ y∈[[LV.row (zrw (r.eraseIdx k))]],y.length=1:=λy hy=>by rw [Qn.1 hy]; rfl
    refine go tt [.f (decide_eq_false (by omega))] rfl trivial ?_;refine gz 1 rfl rfl ?_;refine go tt [.s (sz:=1) hs1] rfl (by simp [Uf] <;> omega) ?_;exact rd (i+1) (by omega) hlt (by rw [e]; simp [zmt]; rfl)
 ·obtain rfl:i=M.length:=by omega
  rw [Q5];exact en tt [.f (decide_eq_false (by omega))] rfl rfl trivial
def Ef (k:Nat) (p:List Int):List Int:=if k % 2=1 then H5 p else p
def Do (f:List (List (List Int))->List Int) (M:List (List (List Int))):Nat->List Int
 | 0=>[]
 | k+1=>Tf (Do f M k) (Ef k (Uq ((M.getD 0 []).getD k []) (f (Gg M k))))
def M3:Nat->List (List (List Int))->List Int
 | 0,_=>[1]
 | n+1,M=>Do (M3 n) M (n+1)
structure SqR (s:Nat) (ds:List Nat) (M:List (List (List Int))):Prop where
 l:M.length=ds.length
 w:∀ r∈M,r.length=ds.length
 b:∀ r∈M,∀ p∈r,Bd s p
 n:∀ r∈M,∀ (j:Nat) (p:List Int),r[j]? = some p->p.length≤ds.getD j 0+1
theorem Df:∀ {ds:List Nat} {k:Nat},k<ds.length->(ds.eraseIdx k).sum+ds.getD k 0=ds.sum
 | [],_,h=>by simp at h
 | d::ds,0,_=>by simp [J1]
 |
  d::ds,k+1,h=>by
  have:=Df (ds:=ds) (k:=k) (by simpa using h);simp only [List.eraseIdx_cons_succ,V0,Q0];omega
theorem SqR.minor {s:Nat} {ds:List Nat} {M:List (List (List Int))} (h:SqR s ds M) {k:Nat} (hk:k<ds.length):SqR s (ds.eraseIdx k) (Gg M k):=by
 have hl:=h.l;unfold Gg;refine ⟨by rw [Zc,Xp,Jf hk]; omega,λr hr=>?_,λr hr p hp=>?_,λr hr j p hp=>?_⟩
 all_goals obtain ⟨q,hq,rfl⟩:=Zi.1 hr
 all_goals have hq:=Q3 hq
 ·rw [Jf (by rw [h.w q hq]; exact hk),Jf hk,h.w q hq]
 ·exact h.b q hq p (List.mem_of_mem_eraseIdx hp)
 ·rw [List.getElem?_eraseIdx] at hp;rw [Qe,List.getElem?_eraseIdx]
  split at hp <;> rename_i hj
  ·rw [if_pos hj,<-Qe]; exact h.n q hq j p hp
  ·rw [if_neg hj,<-Qe]; exact h.n q hq (j+1) p hp
theorem SqR.at {s:Nat} {ds:List Nat} {M:List (List (List Int))} (h:SqR s ds M) {k:Nat} (hk:k<ds.length):∃ r p,M[0]? = some r/\r[k]? = some p/\(M.getD 0 []).getD k []=p/\Bd s p/\p.length<=ds.getD k 0+1:=by
 obtain ⟨r,hr⟩:=gxE (l:=M) (i:=0) (by rw [h.l]; omega);have hm:=Qa hr;obtain ⟨p,hp⟩:=gxE (l:=r) (i:=k) (by rw [h.w r hm]; exact hk);refine ⟨r,p,hr,hp,?_,h.b r hm p (Qa hp),h.n r hm k p hp⟩;rw [Qe (l:=M),hr,Y8,Qe,hp]; rfl
theorem Zff {k s:Nat} {p:List Int} (h:Bd s p):Bd s (Ef k p):=by
 unfold Ef; split
 ·exact Qac h
 ·exact h
theorem Q97 (k:Nat) (p:List Int):(Ef k p).length<=p.length:=by
 unfold Ef; split
 ·exact Bs _
 ·exact Qm _
theorem Qis {s B:Nat} {ds:List Nat} {f:List (List (List Int))->List Int} {M:List (List (List Int))} (h:SqR s ds M) (hs:ds.sum<64) (hf:∀ k,k<ds.length->Bd B (f (Gg M k))/\(f (Gg M k)).length<=(ds.eraseIdx k).sum+1):∀ i,i<=ds.length->Bd (s+B+7+i) (Do f M i)/\(Do f M i).length<=ds.sum+1
 | 0,_=>⟨λz hz=>(by cases hz),Qg _⟩
 |
  i+1,hi=>by
  obtain ⟨h2,h3⟩:=Qis h hs hf i (by omega);obtain ⟨r,p,_,_,e,b,l⟩:=h.at (k:=i) (by omega);obtain ⟨f1,f2⟩:=hf i (by omega);have hd:=Df (ds:=ds) (k:=i) (by omega);have hp1:Bd (s+B+7) (Uq p (f (Gg M i))):=Rx b f1 (Zz l (by omega));have hp2:=Hu p (f (Gg M i));have hp3:=Q97 i (Uq p (f (Gg M i)));simp only [Do];rw [e];exact ⟨Ug (Qcp h2 (Zff hp1)) (by omega),Qd (Ob _ _) (by omega)⟩
theorem Qhi {s:Nat}:∀ (n:Nat) (ds:List Nat) (M:List (List (List Int))),ds.length=n->ds.sum<64->SqR s ds M->Bd (n*(s+20)+1) (M3 n M)/\(M3 n M).length<=ds.sum+1/\n<=9\/9<n
 | 0,ds,M,_,_,_=>.inl ⟨λz hz=>(by simp [M3] at hz; subst hz; rw [J4]; decide),by simp [M3],by omega⟩
 |
  n+1,ds,M,hl,hs,h=>by
  by_cases h9:9<n+1
  ·exact .inr h9
  have hsum:=λk (hk:k<ds.length)=>Df (ds:=ds) (k:=k) hk
  have:=Qis (f:=M3 n) (B:=n*(s+20)+1) h hs (λk hk=>by
   have hd:=hsum k hk;rcases Qhi n (ds.eraseIdx k) (Gg M k) (by rw [Jf hk]; omega) (by omega) (h.minor hk) with h' | h'
   ·exact ⟨h'.1,h'.2.1⟩
   ·omega) (n+1) (by omega)
  have e1:(n+1)*(s+20)=n*(s+20)+(s+20):=Xe ..;exact .inl ⟨Ug this.1 (by omega),this.2,by omega⟩
theorem Qvu {s:Nat} (hs:s<=1000000):∀ (n:Nat) (ds:List Nat) (M:List (List (List Int))),n<=4->ds.length=n->ds.sum<64->SqR s ds M->Uh Tryz.prog 54 [.one (.row (zmt M))] [.one (rp (zp (M3 n M)))]
 |
  0,ds,M,_,hl,_,h=>by
  have e:=Qi (h.l.trans hl);subst e;exact w tt Tryz.func54 rfl [.t rfl,.c [] Qvt] rfl rfl trivial
 |
  n+1,ds,M,hn,hl,hd,h=>by
  have hrl:=Qqz M;have hMl:=h.l;have ih:=λk (hk:k<ds.length)=>Qvu hs n (ds.eraseIdx k) (Gg M k) (by omega) (by rw [Jf hk]; omega) (by have:=Df (ds:=ds) (k:=k) hk; omega) (h.minor hk)
  have hb:n*(s+20)+1<=3*1000020+1:=Nat.add_le_add_right (Zw (by omega) (by omega)) 1;have hok:∀ k,k<ds.length->Bd (n*(s+20)+1) (M3 n (Gg M k))/\(M3 n (Gg M k)).length<=(ds.eraseIdx k).sum+1:=λk hk=>by
   have hd':=Df (ds:=ds) (k:=k) hk;rcases Qhi n (ds.eraseIdx k) (Gg M k) (by rw [Jf hk]; omega) (by omega) (h.minor hk) with h' | h'
   ·exact ⟨h'.1,h'.2.1⟩
   ·omega
  have hds:=Qis (f:=M3 n) (B:=n*(s+20)+1) h hd hok;have cm:=λk=>Q52 (M:=M) (k:=k) (by omega) (λr hr=>by rw [h.w r hr]; omega)
  show Uh Tryz.prog 54 [.one (.row (zmt M))] [.one (rp (zp (Do (M3 n) M (n+1))))];obtain ⟨f,hf⟩:=nmE (M3 n);rw [<-hf] at hds hok ih ⊢;refine Ha Tryz.func54 rfl ?_;refine go tt [.f (decide_eq_false (by omega)),.z 3] rfl trivial ?_;refine lp (S:=Nat) 0 (λL1 i=>(13,.v (.one (.int .i64 (i:Int))))::(3,.v (.one (rp (zp (Do f M i)))))::L1) (λ_=>[]) (λi=>M.length-i) (λi=>i<=M.length) 0 (Qg _) rfl (λ_ _=>rfl) rfl λi hi=>?_
  obtain ⟨d2,d3⟩:=hds i (by omega);by_cases hlt:i<M.length
  ·obtain ⟨r,p,hr,hp,e,b,l⟩:=h.at (k:=i) (by omega);obtain ⟨k2,k3⟩:=hok i (by omega);have hse:=Df (ds:=ds) (k:=i) (by omega);have ci:=ih i (by omega);have cp:=Qbs (p:=p) (q:=f (Gg M i)) (by omega) (by omega) b k2 (by omega);have hmb:Bd (s+(n*(s+20)+1)+7) (Uq p (f (Gg M i))):=Rx b k2 (Zz l (by omega));have hml:=Hu p (f (Gg M i));by_cases h2:i % 2=1
   ·have es:Do f M (i+1)=Tf (Do f M i) (H5 (Uq p (f (Gg M i)))):=by simp only [Do,Ef]; rw [e,if_pos h2]
    have hnl:=Bs (Uq p (f (Gg M i)));refine go tt [.t (decide_eq_true (by omega)),.x (Qh9 hr),.x (Qq2 hp),.c [] (cm i),.c [] ci,.c [] cp,.r 28 (eI (b:=((i % 2:Nat):Int)) rfl),.t (decide_eq_true (by omega)),.c [] (Qvo (Ug hmb (by omega)) (by omega)),.c [] (Qob (p:=Do f M i) (q:=H5 (Uq p (f (Gg M i)))) (Ug d2 (by omega)) (Ug (Qac hmb) (by omega)) (by omega) (by omega))] rfl (by simp [Uf] <;> omega) ?_;exact rd (i+1) (by omega) hlt (by rw [es]; rfl)
   ·have es:Do f M (i+1)=Tf (Do f M i) (Uq p (f (Gg M i))):=by simp only [Do,Ef]; rw [e,if_neg h2]
    refine go tt [.t (decide_eq_true (by omega)),.x (Qh9 hr),.x (Qq2 hp),.c [] (cm i),.c [] ci,.c [] cp,.r 28 (eI (b:=((i % 2:Nat):Int)) rfl),.f (decide_eq_false (by omega)),.c [] (Qob (p:=Do f M i) (q:=Uq p (f (Gg M i))) (Ug d2 (by omega)) (Ug hmb (by omega)) (by omega) (by omega))] rfl (by simp [Uf] <;> omega) ?_;exact rd (i+1) (by omega) hlt (by rw [es]; rfl)
  ·obtain rfl:i=n+1:=by omega
   exact en tt [.f (decide_eq_false (by omega))] rfl rfl trivial
theorem Qta {a b c:Crv} (ha:Rs a) (hb:Rs b) (hc:Rs c):SqR 100000 [15,15,0] (Lq a b c):=by
 have key:∀ k:Crv,Rs k->(∀ p∈[k.x,k.y,[k.d]],Bd 100000 p)/\∀ (j:Nat) (p:List Int),[k.x,k.y,[k.d]][j]? = some p->p.length≤[15,15,0].getD j 0+1:=λk hk=>by
  refine ⟨λp hp=>?_,λj p hp=>?_⟩
  ·simp only [Qo,X8,or_false] at hp;rcases hp with rfl | rfl | rfl
   ·exact hk.c.x
   ·exact hk.c.y
   ·exact Zhg hk.c.d
  ·match j,hp with
   | 0,hp=>injection hp with hp; subst hp; exact hk.c.lx
   | 1,hp=>injection hp with hp; subst hp; exact hk.c.ly
   | 2,hp=>injection hp with hp; subst hp; exact Qm _
   | j+3,hp=>simp at hp
 have h3:∀ r∈Lq a b c,r=[a.x,a.y,[a.d]]\/r=[b.x,b.y,[b.d]]\/r=[c.x,c.y,[c.d]]:=λr hr=>by
  simpa [Lq] using hr
 refine ⟨rfl,λr hr=>?_,λr hr=>?_,λr hr=>?_⟩
 ·rcases h3 r hr with rfl | rfl | rfl <;> rfl
 ·rcases h3 r hr with rfl | rfl | rfl
  ·exact (key a ha).1
  ·exact (key b hb).1
  ·exact (key c hc).1
 ·rcases h3 r hr with rfl | rfl | rfl
  ·exact (key a ha).2
  ·exact (key b hb).2
  ·exact (key c hc).2
def Co (a b c:Crv):List Int:=M3 3 (Lq a b c)
theorem Qjz {a b c:Crv} (ha:Rs a) (hb:Rs b) (hc:Rs c):Bd 400000 (Co a b c)/\(Co a b c).length<=31:=by
 rcases Qhi 3 [15,15,0] (Lq a b c) rfl (by decide) (Qta ha hb hc) with h | h
 ·exact ⟨Ug h.1 (by decide),h.2.1⟩
 ·omega
theorem Qlj {a b c:Crv} (ha:Rs a) (hb:Rs b) (hc:Rs c):Uh Tryz.prog 12 [.agg (B6 a),.agg (B6 b),.agg (B6 c)] [.one (rp (zp (Co a b c)))]:=by
 have cd:=Qvu (by decide) 3 [15,15,0] (Lq a b c) (by decide) rfl (by decide) (Qta ha hb hc);have x0:[B6 a,B6 b,B6 c][0]? = some (B6 a):=rfl;have x1:[B6 a,B6 b,B6 c][1]? = some (B6 b):=rfl;have x2:[B6 a,B6 b,B6 c][2]? = some (B6 c):=rfl;have hs1:∀ k:Crv,∀ y∈[[LV.row (zrw [k.x,k.y,[k.d]])]],y.length=1:=λk y hy=>by rw [Qn.1 hy]; rfl
 refine Ha Tryz.func12 rfl ?_;refine go tt [.o 7 29 1] rfl trivial ?_;refine lp (S:=Nat) 4 (λL1 i=>(18,.v (.one (.int .i64 (i:Int))))::(7,.v (.one (.orow 3 1 none)))::L1) (λi=>[.blk 59 (B6 a),.blk 59 (B6 b),.blk 59 (B6 c),.row false 29 1 (zmt ((Lq a b c).take i))]) (λi=>3-i) (λi=>i<=3) 0 (by decide) rfl (λ_ _=>rfl) rfl λi hi=>?_
 rcases (show i=0\/i=1\/i=2\/i=3 by omega) with rfl | rfl | rfl | rfl
 ·exact go tt [.t rfl,.x x0,.c [] (Qbt ha),.s (sz:=1) (hs1 a)] rfl (by simp [Uf,zmt,Lq]) (rd 1 (by omega) (by omega) rfl)
 ·exact go tt [.t rfl,.x x1,.c [] (Qbt hb),.s (sz:=1) (hs1 b)] rfl (by simp [Uf,zmt,Lq]) (rd 2 (by omega) (by omega) rfl)
 ·exact go tt [.t rfl,.x x2,.c [] (Qbt hc),.s (sz:=1) (hs1 c)] rfl (by simp [Uf,zmt,Lq]) (rd 3 (by omega) (by omega) rfl)
 ·exact en tt [.f rfl,.c [] cd] rfl rfl trivial
end Orr
namespace Orq
section
variable {α:Type} (X Y:α->Rat)
def lx (a b:α):Prop:=X a<X b\/X a=X b/\Y a<Y b
def ori (a b c:α):Rat:=(X b-X a)*(Y c-Y a)-(X c-X a)*(Y b-Y a)
variable {X Y}
def Edg (Q:α->α->Prop):List α->Prop
 | a::b::r=>Q a b/\Edg Q (b::r)
 | _=>True
def Cnv (R:α->α->α->Prop):List α->Prop
 | a::b::c::r=>R a b c/\Cnv R (b::c::r)
 | _=>True
theorem Edg.tail {Q:α->α->Prop} {a:α} {l:List α} (h:Edg Q (a::l)):Edg Q l:=by
 cases l with
 | nil=>trivial
 | cons b l=>exact h.2
theorem Cnv.tail {R:α->α->α->Prop} {a:α} {l:List α} (h:Cnv R (a::l)):Cnv R l:=by
 match l,h with
 | [],_=>trivial
 | [_],_=>trivial
 | b::c::l,h=>exact h.2
theorem Edg.imp {Q Q':α->α->Prop}:∀ {l:List α},(∀ a∈l,∀ b∈l,Q a b->Q' a b)->Edg Q l->Edg Q' l
 | [],_,_=>trivial
 | [_],_,_=>trivial
 | a::b::l,hq,h=>⟨hq a (by simp) b (by simp) h.1,Edg.imp (l:=b::l) (λx hx y hy=>hq x (Qh _ hx) y (Qh _ hy)) h.2⟩
theorem Cnv.imp {R R':α->α->α->Prop}:∀ {l:List α},(∀ a∈l,∀ b∈l,∀ c∈l,R a b c->R' a b c)->Cnv R l->Cnv R' l
 | [],_,_=>trivial
 | [_],_,_=>trivial
 | [_,_],_,_=>trivial
 | a::b::c::l,hq,h=>⟨hq a (by simp) b (by simp) c (by simp) h.1,Cnv.imp (l:=b::c::l) (λx hx y hy z hz=>hq x (Qh _ hx) y (Qh _ hy) z (Qh _ hz)) h.2⟩
structure Stk (X Y:α->Rat) (P:List α) (st:List α):Prop where
 srt:st.Pairwise λb a=>lx X Y a b
 mem:∀ p∈st,p∈P
 edg:Edg (λb a=>∀ p∈P,0≤ori X Y a b p) st
 cnv:Cnv (λc b a=>0<ori X Y a b c) st
theorem Stk.tail {P:List α} {a:α} {st:List α} (h:Stk X Y P (a::st)):Stk X Y P st:=⟨(Zy.1 h.srt).2,λp hp=>h.mem p (Qh _ hp),h.edg.tail,h.cnv.tail⟩
end
end Orq
namespace Orr
open Go
theorem Q7i (c:Int) (l:List Int):Gj (l.map (· * c))=Gj l*c.natAbs:=by
 have key:∀ (l:List Int) (g:Nat),(l.map (· * c)).foldl (λg z=>Nat.gcd g z.natAbs) (g*c.natAbs)=l.foldl (λg z=>Nat.gcd g z.natAbs) g*c.natAbs:=by
  intro l
  induction l with
  | nil=>intro g; rfl
  |
   cons z l ih =>
   intro g;simp only [Zt,Z8,Jp,Ww];exact ih _
 have:=key l 0;rwa [J4] at this
end Orr
namespace Orq
open Orr Go
theorem Qub {p q:List Int} (tp:Um p) (tq:Um q) (h:∀ i,p.getD i 0=q.getD i 0):p=q:=by
 have hl:∀ {p q:List Int},Um p->(∀ i,p.getD i 0=q.getD i 0)->p.length<=q.length:=λ{p q} tp h=>by
  refine Nat.not_lt.1 λhn=>?_
  have h1:=Gw tp (by omega);rw [h,Qe,Qr (by omega)] at h1;exact h1 rfl
 have e:=V8 (hl tp h) (hl tq λi=>(h i).symm);refine List.ext_getElem e λi h1 h2=>?_
 have:=h i;rw [Qe,Qe,Qf h1,Qf h2] at this;exact this
theorem Qsc {p:List Int} (h:p=[]) (i:Nat):p.getD i 0=0:=by rw [h]; simp
theorem Cu (p:List Int) (c:Int) (i:Nat):(Uz p c).getD i 0=p.getD i 0*c:=by
 unfold Uz;rw [Rz]
 split
 ·rfl
 ·rename_i h;rw [Qe,Qr (by omega)]; simp
theorem Qkg (p q:List Int) (i:Nat):(Sx p q).getD i 0=p.getD i 0-q.getD i 0:=by
 unfold Sx;rw [Rz]
 split
 ·rfl
 ·rename_i h;rw [Qe,Qe,Qr (by omega),Qr (by omega)]; simp
theorem Zef {x y:Crv} (hx:Nml x) (hy:Nml y) (h1:Qpy x y=[]) (h2:Qpn x y=[]):x=y:=by
 have e1:∀ i,y.x.getD i 0*x.d=x.x.getD i 0*y.d:=λi=>by
  have:=Qsc h1 i;unfold Qpy at this;rw [Qkg,Cu,Cu] at this;omega
 have e2:∀ i,y.y.getD i 0*x.d=x.y.getD i 0*y.d:=λi=>by
  have:=Qsc h2 i;unfold Qpn at this;rw [Qkg,Cu,Cu] at this;omega
 have key:∀ {x y:Crv},Nml x->Nml y->(∀ i,y.x.getD i 0*x.d=x.x.getD i 0*y.d)->(∀ i,y.y.getD i 0*x.d=x.y.getD i 0*y.d)->x.d∣y.d:=λ{x y} hx hy e1 e2=>by
  have hd:=Qr3 (d:=x.d) (l:=(x.d::(x.x++x.y)).map (· * y.d)) λz hz=>by
   obtain ⟨w,hw,rfl⟩:=Zi.1 hz;rcases Qo.1 hw with rfl | hw
   ·exact Wq _ _
   ·rcases Qw.1 hw with hw | hw
    ·obtain ⟨i,hi,rfl⟩:=Yy.1 hw;have:=e1 i;rw [show x.x.getD i 0=x.x[i] from by rw [Qe,Qf hi]; rfl] at this;rw [<-this]; exact Y4 _ _
    ·obtain ⟨i,hi,rfl⟩:=Yy.1 hw;have:=e2 i;rw [show x.y.getD i 0=x.y[i] from by rw [Qe,Qf hi]; rfl] at this;rw [<-this]; exact Y4 _ _
  rw [Q7i,hx.2.2.2,Wh] at hd;exact Vd hd (Int.natAbs_dvd.2 (Kv _))
 have hd:x.d=y.d:=Int.dvd_antisymm (Kx hx.2.2.1) (Kx hy.2.2.1) (key hx hy e1 e2) (key hy hx (λi=>(e1 i).symm) λi=>(e2 i).symm);have hd0:y.d≠0:=by have:=hy.2.2.1; omega
 rw [hd] at e1 e2;have ex:x.x=y.x:=Qub hx.1 hy.1 λi=>(Yt hd0 (e1 i)).symm
 have ey:x.y=y.y:=Qub hx.2.1 hy.2.1 λi=>(Yt hd0 (e2 i)).symm
 cases x; cases y;simp only at hd ex ey;rw [hd,ex,ey]
theorem Qul (l:List Pt):(C0 l).Sublist l:=by
 have key:∀ (l out o:List Pt),out.Sublist o->(l.foldl Sa out).Sublist (o++l):=by
  intro l
  induction l with
  | nil=>intro out o h; rw [Xo]; exact h
  |
   cons p l ih =>
   intro out o h;have:(Sa out p).Sublist (o++[p]):=by
    unfold Sa
    split
    ·exact h.trans (List.sublist_append_left _ _)
    ·exact h.append (List.Sublist.refl _)
   have:=ih _ _ this;rwa [Ze] at this
 exact key l [] [] (List.Sublist.refl _)
theorem Py (f:Nat->List Int) (rows:List (List (List Int))) (q:Rat) (i:Nat):Ui (Mt f rows (i+1)) q=Ui (Mt f rows i) q+(if i % 2=0 then 1 else -1)*(Ui ((rows.getD i []).getD 0 []) q*Ui (f i) q):=by
 simp only [Mt]
 split
 ·rename_i h;have:Ui ((rows.getD i []).getD 0 []) q=0:=by rw [Qi h]; rfl
  rw [this]; grind
 ·split
  ·rw [To,Uw]; grind
  ·rw [D6,Uw]; grind
theorem Q0u (z:Int) (q:Rat):Ui [z] q=(z:Rat):=by simp [Ui,Rat.add_zero]
theorem Qte (p:List Int) (q:Rat):Ui (Pn 1 [[p]]) q=Ui p q:=by
 show Ui (Mt (λi=>Pn 0 (Of [[p]] i)) [[p]] (0+1)) q=_;rw [Py];show (0:Rat)+1*(Ui p q*Ui [1] q)=_;rw [Q0u];have:((1:Int):Rat)=1:=rfl;grind
theorem Qj6 (p r s t:List Int) (q:Rat):Ui (Pn 2 [[p,r],[s,t]]) q=Ui p q*Ui t q-Ui s q*Ui r q:=by
 show Ui (Mt (λi=>Pn 1 (Of [[p,r],[s,t]] i)) [[p,r],[s,t]] (0+1+1)) q=_;rw [Py,Py];show (0:Rat)+1*(Ui p q*Ui (Pn 1 [[t]]) q)+(-1)*(Ui s q*Ui (Pn 1 [[r]]) q)=_;rw [Qte,Qte]; grind
theorem On (a1 a2 a3 b1 b2 b3 c1 c2 c3:List Int) (q:Rat):Ui (Pn 3 [[a1,a2,a3],[b1,b2,b3],[c1,c2,c3]]) q=Ui a1 q*(Ui b2 q*Ui c3 q-Ui c2 q*Ui b3 q)-Ui b1 q*(Ui a2 q*Ui c3 q-Ui c2 q*Ui a3 q)+Ui c1 q*(Ui a2 q*Ui b3 q-Ui b2 q*Ui a3 q):=by
 show Ui (Mt (λi=>Pn 2 (Of [[a1,a2,a3],[b1,b2,b3],[c1,c2,c3]] i)) [[a1,a2,a3],[b1,b2,b3],[c1,c2,c3]] (0+1+1+1)) q=_;rw [Py,Py,Py];show (0:Rat)+1*(Ui a1 q*Ui (Pn 2 [[b2,b3],[c2,c3]]) q)+(-1)*(Ui b1 q*Ui (Pn 2 [[a2,a3],[c2,c3]]) q)+1*(Ui c1 q*Ui (Pn 2 [[a2,a3],[b2,b3]]) q)=_;rw [Qj6,Qj6,Qj6]; grind
def Zlx (sg:List Int->Int) (a b c:Pt):Bool:=decide (0<Nw sg (Gn a.c b.c c.c))
def Q0k (sg:List Int->Int) (a b c:Pt):Ct:=⟨3,a.id,b.id,c.id,0,Gn a.c b.c c.c,Nw sg (Gn a.c b.c c.c)⟩
def Zn0 (l:List Pt):List (List Int):=l.flatMap λx=>l.flatMap λy=>l.map λz=>Gn x.c y.c z.c
end Orq
namespace Orr
open Go Go.Proofs Orq
set_option maxRecDepth 10000
theorem Zb9 {a b c:Pt} {t:Tm} (ha:Sc a.c) (hb:Sc b.c) (hc:Sc c.c) (ht:Va t):Uh Tryz.prog 120 [.one (.int .i64 3),.agg (ta t),.one (.row [Hn a,Hn b,Hn c])] [.agg (Qla (Q0k (Ch t) a b c)),.one (.int .i64 0)]:=by
 have hp:=(Qlo ha hb hc).dp;have e:Qla (Q0k (Ch t) a b c)=[.int .i64 3,.int .i64 a.id,.int .i64 b.id,.int .i64 c.id,.int .i64 0,pl (Gn a.c b.c c.c),.int .i64 (Nw (Ch t) (Gn a.c b.c c.c))]:=by rw [Q0k]
 rw [e];have cg:=Zgd hp ht;have cf:=Q48 ha hb hc;generalize Gn a.c b.c c.c=F at *;refine Ha Tryz.func120 rfl ?_;refine go tt [.c [] Q17,.f rfl] rfl trivial ?_;refine lp (S:=Nat) 3 (λL1 i=>(22,.v (.one (.int .i64 (i:Int))))::L1) (λi=>[.blk 79 (ta t),.blk 99 zCt,.blk 99 [.int .i64 3,.int .i64 (if 1<=i then a.id else 0),.int .i64 (if 2<=i then b.id else 0),.int .i64 (if 3<=i then c.id else 0),.int .i64 0,.nils,.int .i64 0]]) (λi=>3-i) (λi=>i<=3) 0 (Qg _) rfl (λ_ _=>rfl) rfl λi hi=>?_
 rcases (show i=0\/i=1\/i=2\/i=3 by omega) with rfl | rfl | rfl | rfl
 ·refine go tt [.t rfl,.x (i:=0) (xs:=Hn a) rfl,.i 0] rfl (by simp [Uf]) ?_;exact rd 1 (by omega) (by omega) rfl
 ·refine go tt [.t rfl,.x (i:=1) (xs:=Hn b) rfl,.i 1] rfl (by simp [Uf]) ?_;exact rd 2 (by omega) (by omega) rfl
 ·refine go tt [.t rfl,.x (i:=2) (xs:=Hn c) rfl,.i 2] rfl (by simp [Uf]) ?_;exact rd 3 (by omega) (by omega) rfl
 ·exact en tt [.f rfl,.f rfl,.f rfl,.t rfl,.x (i:=0) (xs:=Hn a) rfl,.x (i:=1) (xs:=Hn b) rfl,.x (i:=2) (xs:=Hn c) rfl,.c [] cf,.c [] cg] rfl rfl trivial
theorem Zfw {l:List Pt} (hl:∀ p∈l,Sc p.c):∀ p∈l,Quu 4294967294 1073741824 p:=λp hp=>⟨(hl p hp).n,(hl p hp).c.mono (by decide) (by decide)⟩
def Qbn (a b:Crv):Bool:=decide ((Qd0 (Lv a.x a.d) (Lv b.x b.d)).length=0) && decide ((Qd0 (Lv a.y a.d) (Lv b.y b.d)).length=0)
theorem Zcq {a b:Crv} (ha:Rs a) (hb:Rs b):Uh Tryz.prog 50 [.agg (B6 a),.agg (B6 b)] [.one (.bool (Qbn a b))]:=by
 have lx1:=ha.c.lx;have ly1:=ha.c.ly;have lx2:=hb.c.lx;have ly2:=hb.c.ly;have cx:=Q5v (p:=Lv a.x a.d) (q:=Lv b.x b.d) (Qcc (Ug ha.c.x (by decide)) (Qd ha.c.d (by decide)) (by decide)) (Qcc (Ug hb.c.x (by decide)) (Qd hb.c.d (by decide)) (by decide)) (by rw [Ma]; omega) (by rw [Ma]; omega);have cy:=Q5v (p:=Lv a.y a.d) (q:=Lv b.y b.d) (Qcc (Ug ha.c.y (by decide)) (Qd ha.c.d (by decide)) (by decide)) (Qcc (Ug hb.c.y (by decide)) (Qd hb.c.d (by decide)) (by decide)) (by rw [Ma]; omega) (by rw [Ma]; omega);unfold Qbn;generalize Qd0 (Lv a.x a.d) (Lv b.x b.d)=X at *;generalize Qd0 (Lv a.y a.d) (Lv b.y b.d)=Y at *;have hX:(frow X).length=X.length:=by simp [frow]
 have hY:(frow Y).length=Y.length:=by simp [frow]
 by_cases h:X.length=0
 ·by_cases h':Y.length=0
  ·rw [decide_eq_true h,decide_eq_true h'];exact w tt Tryz.func50 rfl [.c [] cx,.g 12 true (decide_eq_true (by omega)),.c [] cy,.g 19 true (decide_eq_true (by omega))] rfl rfl trivial
  ·rw [decide_eq_true h,decide_eq_false h'];exact w tt Tryz.func50 rfl [.c [] cx,.g 12 true (decide_eq_true (by omega)),.c [] cy,.g 19 false (decide_eq_false (by omega))] rfl rfl trivial
 ·rw [decide_eq_false h];exact w tt Tryz.func50 rfl [.c [] cx,.g 12 false (decide_eq_false (by omega))] rfl rfl trivial
def Qcl (out:List Pt) (p:Pt):List Pt:=if (out.any λo=>Qbn o.c p.c)=true then out else out++[p]
def Io (l:List Pt):List Pt:=(H8 Dw l).foldl Qcl []
theorem Qeg:∀ (M O:List Pt),(∀ p∈M.foldl Qcl O,p∈O\/p∈M)/\(M.foldl Qcl O).length≤O.length+M.length
 | [],O=>⟨λp hp=>.inl hp,by simp⟩
 |
  x::M,O=>by
  obtain ⟨h1,h2⟩:=Qeg M (Qcl O x);have e1:(Qcl O x).length<=O.length+1:=by unfold Qcl; split <;> simp
  refine ⟨λp hp=>?_,by rw [Z8,Q7]; omega⟩;rcases h1 p hp with h | h
  ·unfold Qcl at h
   split at h
   ·exact .inl h
   ·rcases Qw.1 h with h | h
    ·exact .inl h
    ·exact .inr (by rw [Qn.1 h]; simp)
  ·exact .inr (Qh _ h)
theorem Q37 {l:List Pt} {p:Pt} (h:p∈Io l):p∈l:=by
 rcases (Qeg (H8 Dw l) []).1 p h with h | h
 ·cases h
 ·exact De.1 h
theorem Qnw (l:List Pt):(Io l).length<=l.length:=by
 have:=(Qeg (H8 Dw l) []).2;rw [Ny,Jw,Z0] at this;exact this
theorem Zas {α:Type} {f:α->Bool} {l:List α} {i:Nat} {x:α} (h:l[i]? = some x):(l.take (i+1)).any f=((l.take i).any f || f x):=by
 rw [Xc,h,W7]; simp
theorem Qy3 {l:List Pt} (hl:∀ p∈l,Rs p.c) (hn:l.length≤1000):Uh Tryz.prog 9 [.one (.row (U8 l))] [.one (.row (U8 (Io l)))]:=by
 have c1:=Qy1 (l:=l) (by omega);have hML:(H8 Dw l).length=l.length:=Ny _ _;have hMl:∀ p∈H8 Dw l,Rs p.c:=λp hp=>hl p (De.1 hp)
 unfold Io;obtain ⟨M,hM⟩:=nmE (H8 Dw l);rw [<-hM] at c1 hML hMl ⊢;have hcl:=Tk M;refine Ha Tryz.func9 rfl ?_;refine go tt [.o 3 61 7,.c [] c1] rfl trivial ?_;refine lp (S:=Nat) 1 (λL1 i=>(11,.v (.one (.int .i64 (i:Int))))::(3,.v (.one (.orow 0 7 none)))::L1) (λi=>[.row false 61 7 (U8 ((M.take i).foldl Qcl []))]) (λi=>M.length-i) (λi=>i<=M.length) 0 (Qg _) rfl (λ_ _=>rfl) rfl λi hi=>?_
 by_cases hlt:i<M.length
 ·obtain ⟨p,hp⟩:=gxE (l:=M) (i:=i) hlt;have hpr:=hMl p (Qa hp);have hst:=Rk Qcl [] M hp;have hsub:=Qeg (M.take i) [];obtain ⟨O,hO⟩:=nmE ((M.take i).foldl Qcl []);rw [<-hO] at hst hsub ⊢;have hOl:O.length<=1000:=by have:=hsub.2; rw [Jw,Qx] at this; omega
  have hOm:∀ o∈O,Rs o.c:=λo ho=>by
   rcases hsub.1 o ho with h | h
   ·cases h
   ·exact hMl o (Ql h)
  have hrl:=Tk O;refine go tt [.t (decide_eq_true (by omega))] rfl trivial ?_;refine lp (S:=Nat) 1 (λL1 k=>(16,.v (.one (.int .i64 (k:Int))))::(5,.v (.one (.bool ((O.take k).any λo=>Qbn o.c p.c))))::L1) (λ_=>[.row false 61 7 (U8 O)]) (λk=>O.length-k) (λk=>k<=O.length) 0 (Qg _) rfl (λ_ _=>rfl) rfl λk hk=>?_
  by_cases hkl:k<O.length
  ·obtain ⟨o,ho⟩:=gxE (l:=O) (i:=k) hkl;have ha:=Zas (f:=λo=>Qbn o.c p.c) ho;cases hb:(O.take k).any λo=>Qbn o.c p.c with
   |
    true =>
    rw [hb,Bool.true_or] at ha;refine go tt [.t (decide_eq_true (by omega)),.g 20 true rfl] rfl (by simp [Uf] <;> omega) ?_;exact rd (k+1) (by omega) hkl (by rw [ha]; rfl)
   |
    false =>
    rw [hb,Bool.false_or] at ha;refine go tt [.t (decide_eq_true (by omega)),.g 20 false rfl,.i k,.x (Fq ho),.x (Fq hp),.c [] (Zcq (hOm o (Qa ho)) hpr)] rfl (by simp [Uf] <;> omega) ?_;exact rd (k+1) (by omega) hkl (by rw [ha]; rfl)
  ·obtain rfl:k=O.length:=by omega
   rw [Q5];have h7z:∀ y∈[Bl p],y.length=7:=λy hy=>by rw [Qn.1 hy]; rfl
   cases hb:O.any λo=>Qbn o.c p.c with
   |
    true =>
    have e:Qcl O p=O:=if_pos hb;refine go tt [.f (decide_eq_false (by omega)),.f rfl] rfl (by simp [Uf] <;> omega) ?_;exact rd (i+1) (by omega) hlt (by rw [hst,e]; rfl)
   |
    false =>
    have e:Qcl O p=O++[p]:=if_neg (by rw [hb]; decide);refine go tt [.f (decide_eq_false (by omega)),.t rfl,.x (Fq hp),.s (sz:=7) h7z] rfl (by simp [Uf] <;> omega) ?_;exact rd (i+1) (by omega) hlt (by rw [hst,e]; simp [U8]; rfl)
 ·obtain rfl:i=M.length:=by omega
  rw [Q5];exact en tt [.f (decide_eq_false (by omega))] rfl rfl trivial

def Qb3 (sg:List Int->Int) (a b c:Pt):Ct:=⟨3,a.id,b.id,c.id,0,Co a.c b.c c.c,Nw sg (Co a.c b.c c.c)⟩
theorem Q5z {a b u:Pt} {q:Rat} {c:List (List Int)} (ha:Rs a.c) (hb:Rs b.c) (hu:Rs u.c) (hq:Qs 1000000 q):Uh Tryz.prog 265 [.one (.int .i64 3),.agg (aq q c),.one (.row [Bl a,Bl b,Bl u])] [.agg (rct (Qb3 (Ak q) a b u)),.one (.bool true)]:=by
 have x0:[Bl a,Bl b,Bl u][0]? = some (Bl a):=rfl;have x1:[Bl a,Bl b,Bl u][1]? = some (Bl b):=rfl;have x2:[Bl a,Bl b,Bl u][2]? = some (Bl u):=rfl;have cf:=Qlj ha hb hu;have hsz:=Qjz ha hb hu;have cg:=Qcy (c:=c) (Ug hsz.1 (by decide)) (Qd hsz.2 (by decide)) hq;have e:rct (Qb3 (Ak q) a b u)=[.int .i64 3,.int .i64 a.id,.int .i64 b.id,.int .i64 u.id,.int .i64 0,rp (zp (Co a.c b.c u.c)),.int .i64 (Fc (Co a.c b.c u.c) q),.row [],.bool false]:=by simp only [Qb3,rct,Qjf]
 rw [e];generalize Co a.c b.c u.c=F at *;refine Ha Tryz.func265 rfl ?_;refine go tt [.g 14 false rfl,.g 18 false rfl,.x (l:=[[.int .i64 0],[.int .i64 2],[.int .i64 2],[.int .i64 3],[.int .i64 4],[.int .i64 4]]) (i:=3) (xs:=[.int .i64 3]) rfl,.f rfl] rfl trivial ?_;refine lp (S:=Nat) 3 (λL1 i=>(33,.v (.one (.int .i64 (i:Int))))::L1) (λi=>[.blk 37 (aq q c),.blk 227 rzc,.blk 227 [.int .i64 3,.int .i64 (if 0<i then a.id else 0),.int .i64 (if 1<i then b.id else 0),.int .i64 (if 2<i then u.id else 0),.int .i64 0,.nils,.int .i64 0,.nils,.bool false]]) (λi=>3-i) (λi=>i<=3) 0 (by decide) rfl (λ_ _=>rfl) rfl λi hi=>?_
 rcases (show i=0\/i=1\/i=2\/i=3 by omega) with rfl | rfl | rfl | rfl
 ·exact go tt [.t rfl,.x x0,.i 0] rfl (by simp [Uf]) (rd 1 (by omega) (by omega) rfl)
 ·exact go tt [.t rfl,.x x1,.i 1] rfl (by simp [Uf]) (rd 2 (by omega) (by omega) rfl)
 ·exact go tt [.t rfl,.x x2,.i 2] rfl (by simp [Uf]) (rd 3 (by omega) (by omega) rfl)
 exact en tt [.f rfl,.f rfl,.f rfl,.t rfl,.x x0,.x x1,.x x2,.c [] cf,.c [] cg] rfl rfl trivial
theorem Zcs {a b u:Pt} {q:Rat} {c:List (List Int)} (ha:Rs a.c) (hb:Rs b.c) (hu:Rs u.c) (hq:Qs 1000000 q):Uh Tryz.prog 232 [.one (.int .i64 3),.agg (aq q c),.one (.row [Bl a,Bl b,Bl u])] [.agg (rct (Qb3 (Ak q) a b u))] :=
 w tt Tryz.func232 rfl [.c [] (Q5z ha hb hu hq)] rfl rfl trivial
end Orr
