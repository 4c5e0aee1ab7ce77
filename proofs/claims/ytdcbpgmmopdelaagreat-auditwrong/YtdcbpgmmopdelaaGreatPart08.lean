/- R6 R7 R8 R9 Z3 R27 R28 ZC Z4 KGoL SplitL Z5 SortQ HullG RawL NewsL BegL TurnL PairN DetL H1 FI Z6 Z7 ZD ZE ZF ZI RefCL -/
import Derived.Test.YtdcbpgmmopdelaaGreatPart07
import Derived.Test.YtdcbpgmmopdelaaGreatPart05
import Derived.Test.YtdcbpgmmopdelaaGreatPart00
import Derived.Test.YtdcbpgmmopdelaaGreatPart04
import Derived.Test.YtdcbpgmmopdelaaGreatPart06
set_option linter.all false
namespace Orr
open Go Go.Proofs Tryz
set_option maxRecDepth 10000
theorem Qgm{a b:Int}(ha:Gy a<=40000000)(hb:Gy b<=40000000):Fo 171 [.agg (fr (a:Rat)),.agg (fr (b:Rat))] [.agg (fr ((a*b:Int):Rat))]:=by
 have h:=bG (Ag ha (by decide)) (Ag hb (by decide));rw[<-Jc]at h;exact h
theorem Qtm{a b:Int}(ha:Gy a<=20000000)(hb:Gy b<=20000000):Fo 100 [.agg (fr (a:Rat)),.agg (fr (b:Rat))] [.agg (fr ((a+b:Int):Rat))]:=by
 have h:=yB (Ag ha (by decide)) (Ag hb (by decide));rw[<-Wd]at h;exact h
theorem tL(l:Ft)(i:Nat)(z:Int):(frow (zp l)).set i (fr (z:Rat))=frow (zp (l.set i z)):=by simp[frow,zp,V1]
theorem Qne{p:Ft}{i:Nat}(h:i<p.length):(zp p)[i]? = some ((p.getD i 0:Int):Rat):=Qnd (Pd h)
theorem Pz{p:Ft}{i:Nat}(h:i<p.length):(frow (zp p))[i]? = some (fr ((p.getD i 0:Int):Rat)):=Is (Qne h)
theorem GI(p:Ft):(frow (zp p)).length=p.length:=by rw[Pu,Mc]
abbrev zR:Fy:=[.nils,.bool false,.nils,.bool false]
theorem vE{n i:Nat}(h:i<n):(List.replicate i (fr 0)++List.replicate (n-i) zR).set i (fr 0)=List.replicate (i+1) (fr 0)++List.replicate (n-(i+1)) zR:=by
 rw[List.set_append_right _ _ (by simp),Jj,J4,show n-i=n-(i+1)+1 by omega,Yh (n:=n-(i+1)),List.set_cons_zero,List.replicate_succ' (n:=i),Zj];rfl
theorem OI(n:Nat):List.replicate n (fr 0)++List.replicate (n-n) zR=frow (zp (List.replicate n 0)):=by simp[zp,frow]
theorem Ow{p q:Ft}{s t:Nat}(hlp:p.length<=1000000)(hlq:q.length<=1000000)(hp:Bd s p)(hq:Bd t q)(hst:s+t<=19000000):Fo 259 [.one (rp (zp p)),.one (rp (zp q))] [.one (rp (zp (Gq p q)))]:=by
 have Ee:=GI p;have hql:=GI q;rcases Qx p.length with h0|h0
 ·have e:Gq p q=[]:=by unfold Gq;rw[if_pos (.inl h0)]
  rw[e];exact Fi func259 rfl [.g 12 true Fq,.t rfl] rfl
 rcases Qx q.length with h1|h1
 ·have e:Gq p q=[]:=by unfold Gq;rw[if_pos (.inr h1)]
  rw[e];exact Fi func259 rfl [.g 12 false Fp,.T] rfl
 have e:Gq p q=trim (Lt p q (List.replicate (p.length+q.length-1) 0) p.length):=by unfold Gq;rw[if_neg (by omega)]
 rw[e];obtain⟨N,hN⟩:=nmE (p.length+q.length-1);rw[<-hN];obtain⟨o,ho⟩:=nmE (List.replicate N (0:Int));rw[<-ho];have hol:o.length=N:=by rw[ho];simp
 have ho0:∀m,o.getD m 0=0:=λm=>by rw[ho];exact Ty N m
 have cc:=XB (p:=zp (Lt p q o p.length));rw[Dn]at cc;refine Sk func259 rfl ?_;refine Fg [.g 12 false Fp,.F,.r 22 (eI (b:=(N:Int)) (by omega)),.i N,.i N,.r 25 (eI (b:=(N:Int)) (by simp))] rfl ?_;refine Fl (S:=Nat) 1 (λL1 i=>(26,.v (.oi i))::L1) (λi=>[.row false 34 4 (List.replicate i (fr 0)++List.replicate (N-i) zR)]) (λi=>N-i) (λi=>i<=N) 0 (Qh _) rfl rfl λi hi=>?_
 by_cases hlt:i<N
 ·refine Fg [.T,.k Qdg,.i i] rfl ?_;rw[vE hlt];exact rd (i+1) (by omega) hlt rfl
 have hiN:i=N:=by omega
 rw[hiN,OI,<-ho];clear hiN hlt hi;refine Ff [.F] rfl ?_;refine Fl (S:=Nat) 1 (λL1 i=>(36,.v (.oi i))::L1) (λi=>[.row false 34 4 (frow (zp (Lt p q o i)))]) (λi=>p.length-i) (λi=>i<=p.length) 0 (Qh _) rfl rfl λi hi=>?_
 by_cases hlt:i<p.length
 ·refine Ff [.T] rfl ?_;refine Fl (S:=Nat) 1 (λL1 k=>(41,.v (.oi k))::L1) (λk=>[.row false 34 4 (frow (zp (ZU (p.getD i 0) q i (Lt p q o i) k)))]) (λk=>q.length-k) (λk=>k<=q.length) 0 (Qh _) rfl rfl λk hk=>?_
  by_cases hk2:k<q.length
  ·have hm1:Gy ((ZU (p.getD i 0) q i (Lt p q o i) k).getD (i+k) 0)<=20000000:=Qe (O6 (t:=39) (kD (by rw[Lu];omega) (kC (λj hj=>by omega) ho0 (λi j=>C6 (G5 hp i) (G5 hq j))) (λj=>C6 (G5 hp i) (G5 hq j)) (i+k)) (Wj (show i+1<549755813888 by omega) (by decide))) (by omega);have hm2:Gy (p.getD i 0*q.getD k 0)<=20000000:=Qe (Ho _ _) (by have:=G5 hp i;have:=G5 hq k;omega);have hml:(ZU (p.getD i 0) q i (Lt p q o i) k).length=N:=by rw[ZH,Lu,hol]
   have cm:=Qgm (a:=p.getD i 0) (b:=q.getD k 0) (Qe (G5 hp i) (by omega)) (Qe (G5 hq k) (by omega));have hfl:=GI (ZU (p.getD i 0) q i (Lt p q o i) k);refine go tt [.T,.i (i+k),.x (Pz (p:=ZU (p.getD i 0) q i (Lt p q o i) k) (i:=i+k) (by omega)),.x (Pz hlt),.x (Pz hk2),.k cm,.k (Qtm hm1 hm2),.i (i+k)] rfl (by simp[Ge,hfl,-List.getD_eq_getElem?_getD] <;> omega) ?_;rw[tL];exact rd (k+1) (by omega) hk2 rfl
  ·obtain rfl:k=q.length:=by omega
   exact go tt [.F] rfl (by simp[Ge];omega) (rd (i+1) (by omega) hlt rfl)
 ·obtain rfl:i=p.length:=by omega
  exact Fh [.F,.k cc] rfl
def tU(p:Ft)(n:Nat):Ft:=(List.range n).map λk=>p.getD (k+1) 0*((k+1:Nat):Int)
theorem Qih(p:Ft)(n:Nat):(tU p n).length=n:=by simp[tU]
theorem Qd5(p:Ft)(n:Nat):tU p (n+1)=tU p n++[p.getD (n+1) 0*((n+1:Nat):Int)]:=by simp[tU,W6]
theorem fH(p:Ft)(z:Int):frow (zp (p++[z]))=frow (zp p)++[fr (z:Rat)]:=by simp[frow,zp]
theorem vJ{p:Ft}(hp:Bd 40000000 p)(hl:p.length<=1000000):Fo 60 [.one (rp (zp p))] [.one (rp (zp (Hn p)))]:=by
 have Ee:=GI p;have cc:=XB (p:=zp (tU p (p.length-1)));rw[Dn]at cc;refine Sk func60 rfl ?_;refine Ff [.o 3 34 4] rfl ?_;refine Fl (S:=Nat) 1 (λL1 j=>(4,.v (.oi ((j+1:Nat):Int)))::(3,.v (.one (.orow 0 4 none)))::L1) (λj=>[.row false 34 4 (frow (zp (tU p j)))]) (λj=>p.length-j) (λj=>j<=p.length-1) 0 (Qh _) rfl rfl λj hj=>?_
 have hfl:=GI (tU p j);rw[Qih]at hfl;by_cases h:j+1<p.length
 ·have hk:Gy ((j+1:Nat):Int)<=40000000:=Qe (kV (t:=38) (k:=j+1) (Wj (show j+1<274877906944 by omega) (by decide))) (by decide);refine go tt [.T,.x (Pz h),.k (UH (n:=((j+1:Nat):Int)) (by omega)),.k (Qgm (G5 hp (j+1)) hk),.s (sz:=4) (pQ _)] rfl (by simp[Ge,hfl,-List.getD_eq_getElem?_getD] <;> omega) ?_;exact rd (j+1) (by omega) (by omega) (by rw[Qd5,fH];rfl)
 ·have e:j=p.length-1:=by omega
  rw[e];exact Fh [.F,.k cc] rfl
theorem Qui(z:Int):fr (z:Rat)=[nd z.natAbs,sg z,.row [[.int .i64 1]],.bool false]:=by
 have e:Hz 1=[1]:=by rw[XC (by decide),show 1 / 10000=0 from rfl,To]
 show [nd z.natAbs,sg z,nd 1,sg 1]=_;unfold nd dl;rw[e];rfl
theorem Qhi{p:Ft}(hl:p.length<=1000000):Fo 265 [.one (rp (zp p))] [.one (.bool true)]:=by
 have Ee:=GI p;refine Sk func265 rfl ?_;refine Ff [] rfl ?_;refine Fl (S:=Nat) 0 (λL1 i=>(6,.v (.oi i))::L1) (λ_=>[]) (λi=>p.length-i) (λi=>i<=p.length) 0 (Qh _) rfl rfl λi hi=>?_
 by_cases h:i<p.length
 ·have hg:=Pz h;rw[Qui]at hg;refine Fg [.T,.x hg,.g 17 false rfl,.x hg,.x (l:=[[.int .i64 1]]) (i:=0) (xs:=[.int .i64 1]) rfl,.f rfl] rfl ?_;exact rd (i+1) (by omega) h rfl
 ·exact Fh [.F] rfl
theorem Qcn:[LV.nils,LV.bool false].map BF=ri 0:=by
 show _=[nd 0,sg 0];unfold nd dl;rw[To];rfl
theorem lO(p:Ft)(q:Rat):Int.sign (Bz p q.num q.den p.length).1=Hq p q:=by
 unfold Hq Qql Ac;generalize (Bz p q.num q.den p.length).1=z;rcases Yg z 0 with h|h|h
 ·rw[if_pos h,Ju h]
 ·subst h;rfl
 ·rw[if_neg (by omega),if_pos h,Ye h]
theorem XN{p:Ft}{q:Rat}(hp:Bd 30000000 p)(hl:p.length<=64)(hq:Qs 2000000 q):Fo 168 [.one (rp (zp p)),.agg (fr q)] [.oi (Hq p q)]:=by
 have Ee:=GI p;refine Sk func168 rfl ?_;refine Fg [.k (Qhi (p:=p) (by omega)),.f rfl,.k (Aj (n:=1) (by decide)),.r 19 (eI (b:=(p.length:Int)-1-((0:Nat):Int)) (by simp;omega))] rfl ?_;refine nlb 1 rfl rfl rfl ?_;rw[Qcn];refine Fl (S:=Nat) 3 (λL1 j=>(7,.v (.oi ((p.length:Int)-1-(j:Int))))::L1) (λj=>[.blk 34 (fr q),.blk 32 (ri (Bz p q.num q.den j).1),.blk 32 (ri (Bz p q.num q.den j).2)]) (λj=>p.length-j) (λj=>j<=p.length) 0 (Qh _) rfl rfl λj hj=>?_
 have hv:=fZ (k:=j) hp hq.1 hq.2;have hjl:j*(2000000+1)<=p.length*(2000000+1):=Qy _ (by omega);by_cases h:j<p.length
 ·have hc:=G5 hp (p.length-1-j);have hq1:=hq.1;have hq2:=hq.2;have hm1:Gy ((Bz p q.num q.den j).1*q.num)<=200000000:=Qe (Ho _ _) (by omega);have hm2:Gy (p.getD (p.length-1-j) 0*(Bz p q.num q.den j).2)<=200000000:=Qe (Ho _ _) (by omega);refine go tt [.T,.k (Bh (a:=(Bz p q.num q.den j).1) (b:=q.num) (by omega) (by omega)),.r 29 (eI (b:=((p.length-1-j:Nat):Int)) (by omega)),.x (Pz (p:=p) (i:=p.length-1-j) (by omega)),.k (Bh (a:=p.getD (p.length-1-j) 0) (b:=(Bz p q.num q.den j).2) (by omega) (by omega)),.k (bN hm1 hm2),.k (Bh (a:=(Bz p q.num q.den j).2) (b:=(q.den:Int)) (by omega) (by omega)),.r 23 (eI (b:=(p.length:Int)-1-((j+1:Nat):Int)) (by omega))] rfl (by simp[Ge] <;> omega) ?_;exact rd (j+1) (by omega) h rfl
 ·obtain rfl:j=p.length:=by omega
  exact Fh [.F,.k oV] rfl (by rw[lO]) trivial
theorem RRun.inv{b a r:Ft}{k:Nat}(h:RRun b k a r):(k=0/\a=r/\a.length<b.length)\/(∃j,k=j+1/\b.length<=a.length/\a.length<=1000/\Bd 9000000 a/\Bd 9000000 b/\RRun b j (Oo a b) r):=by
 cases h with
 |stop h=>exact .inl ⟨rfl,rfl,h⟩
 |step h1 h2 h3 h4 h5=>exact .inr ⟨_,rfl,h1,h2,h3,h4,h5⟩
theorem Qqx{a b:Ft}(ha:Bd 9000000 a):Gy (E7 a b)<=9000000:=by
 unfold E7;split
 ·rw[T0];exact G5 ha _
 ·exact G5 ha _
theorem Qqr(n:Nat):ri (n:Int)=[nd n,.bool false]:=by
 show [nd n,sg (n:Int)]=_;unfold sg;rw[decide_eq_false (by omega)]
def uW(a b:Ft)(n:Nat):Ft:=(List.range n).map (Ah a b)
theorem Qlt(a b:Ft)(n:Nat):(uW a b n).length=n:=by simp[uW]
theorem jE(a b:Ft)(n:Nat):uW a b (n+1)=uW a b n++[Ah a b n]:=by simp[uW,W6]
theorem oR{a0 b res:Ft}{n:Nat}(hb0:0<b.length)(hb1:b.length<=1000)(hbb0:Bd 9000000 b)(hrun:RRun b n a0 res):Fo 257 [.one (rp (zp a0)),.one (rp (zp b))] [.one (rp (zp res))]:=by
 have hbl:=GI b;have hle:Gy (((G6 b).natAbs:Nat):Int)<=9000000:=G5 hbb0 _;refine Sk func257 rfl ?_;refine Fg [.r 15 (eI (b:=((b.length-1:Nat):Int)) (by omega)),.x (Pz (p:=b) (i:=b.length-1) (by omega))] rfl ?_;refine sb [(0,.v (.one (rp (zp a0)))),(1,.v (.one (rp (zp b)))),(5,.v (.one (.ow 0 0))),(6,.v (.one (.ow 1 0)))] [.blk 32 (ri (G6 b)),.blk 32 [nd (G6 b).natAbs,.bool false]] rfl rfl ?_;refine Fl (S:=Nat×Ft) 2 (λL1 s=>(0,.v (.one (rp (zp s.2))))::L1) (λ_=>[.blk 32 (ri (G6 b)),.blk 32 [nd (G6 b).natAbs,.bool false]]) (λs=>s.1) (λs=>RRun b s.1 s.2 res) (n,a0) hrun rfl rfl λ⟨k,a⟩ hs=>?_
 have hal:=GI a;have hs:RRun b k a res:=hs;rcases RRun.inv hs with⟨rfl,rfl,h1⟩|⟨j,rfl,h1,h2,ha,hb,hr⟩
 ·exact Fh [.f (decide_eq_false (by dsimp only;omega))] rfl
 obtain⟨K,hK⟩:=nmE (a.length-b.length);have htb:=Qqx (b:=b) ha;have cc:=XB (p:=zp (uW a b a.length));rw[Dn,show trim (uW a b a.length)=Oo a b from rfl]at cc;refine Fg [.t (decide_eq_true (by dsimp only;omega)),.r 30 (eI (b:=(K:Int)) (by dsimp only;omega)),.r 34 (eI (b:=((a.length-1:Nat):Int)) (by dsimp only;omega)),.x (Pz (p:=a) (i:=a.length-1) (by omega))] rfl ?_;refine ct 1 (S:=Unit) (λ_=>[(0,.v (.one (rp (zp a)))),(1,.v (.one (rp (zp b)))),(5,.v (.one (.ow 0 0))),(6,.v (.one (.ow 1 0))),(7,.v (.oi K)),(8,.v (.one (.ow 2 0)))]) (λ_=>[.blk 32 (ri (G6 b)),.blk 32 [nd (G6 b).natAbs,.bool false],.blk 32 (ri (E7 a b))]) (λ_=>True) rfl ?_ (λ_ _=>?_)
 ·by_cases hn:G6 b<0
  ·have e:E7 a b=-(G6 a):=if_pos hn;rw[e];exact go tt [.t (decide_eq_true hn),.k (XS (z:=G6 a))] rfl trivial (rc () trivial rfl)
  ·have e:E7 a b=G6 a:=if_neg hn;rw[e];exact go tt [.f (decide_eq_false hn)] rfl trivial (rc () trivial rfl)
 refine Ff [.o 9 34 4] rfl ?_;refine Fl (S:=Nat) 4 (λL1 i=>(44,.v (.oi i))::(9,.v (.one (.orow 3 4 none)))::L1) (λi=>[.blk 32 (ri (G6 b)),.blk 32 [nd (G6 b).natAbs,.bool false],.blk 32 (ri (E7 a b)),.row false 34 4 (frow (zp (uW a b i)))]) (λi=>a.length-i) (λi=>i<=a.length) 0 (Qh _) rfl rfl λi hi=>?_
 have hfl:=GI (uW a b i);rw[Qlt]at hfl;by_cases h:i<a.length
 ·have cm:=Bh (a:=a.getD i 0) (b:=(((G6 b).natAbs:Nat):Int)) (Qe (G5 ha i) (by decide)) (by omega);have hm:=Ho (a.getD i 0) (((G6 b).natAbs:Nat):Int);have hai:=G5 ha i;rw[Qqr (G6 b).natAbs]at cm;by_cases hk:K<=i
  ·have hbi:=G5 hb (i-K);have hm2:=Ho (E7 a b) (b.getD (i-K) 0);have e:Ah a b i=a.getD i 0*(((G6 b).natAbs:Nat):Int)-E7 a b*b.getD (i-K) 0:=by unfold Ah;rw[if_pos (by omega),hK]
   refine go tt [.T,.x (Pz h),.k cm,.T,.r 62 (eI (b:=((i-K:Nat):Int)) (by omega)),.x (Pz (p:=b) (i:=i-K) (by omega)),.k (Bh (a:=E7 a b) (b:=b.getD (i-K) 0) (by omega) (by omega)),.k (Qg7 (by omega) (by omega)),.k (Aj (n:=1) (by decide)),.k (Cz (n:=a.getD i 0*(((G6 b).natAbs:Nat):Int)-E7 a b*b.getD (i-K) 0)),.s (sz:=4) (pQ _)] rfl (by simp[Ge,hfl,-List.getD_eq_getElem?_getD] <;> omega) ?_;exact rd (i+1) (by omega) h (by rw[jE,fH,e];rfl)
  ·have e:Ah a b i=a.getD i 0*(((G6 b).natAbs:Nat):Int):=by unfold Ah;rw[if_neg (by omega),Int.sub_zero]
   refine go tt [.T,.x (Pz h),.k cm,.F,.k (Aj (n:=1) (by decide)),.k (Cz (n:=a.getD i 0*(((G6 b).natAbs:Nat):Int))),.s (sz:=4) (pQ _)] rfl (by simp[Ge,hfl,-List.getD_eq_getElem?_getD] <;> omega) ?_;exact rd (i+1) (by omega) h (by rw[jE,fH,e];rfl)
 ·have e:i=a.length:=by omega
  rw[e];exact go tt [.F,.k cc] rfl trivial (rd (j,Oo a b) (by omega) hr rfl)
theorem Qt3:Fo 221 [.agg (ri 1),.agg (ri 1)] [.agg (ri 1)]:=Bh (a:=1) (b:=1) (by decide) (by decide)
theorem Qoa:Fo 251 [.agg (ri 1),.agg (ri 1)] [.agg (ri 1)]:=LK (a:=1) (b:=1) (by decide) (by decide)
theorem Qn6{z:Int}(hz:Gy z<=90000000):Fo 221 [.agg (ri z),.agg (ri 1)] [.agg (ri z)]:=by
 have h:=Bh (a:=z) (b:=1) (by omega) (by decide);rwa[Ui]at h
theorem iN{z:Int}(hz:Gy z<=90000000):Fo 252 [.agg (ri z),.agg (ri 1)] [.agg (ri z)]:=by
 have h:=SJ (a:=z) (b:=1) hz (by decide) (by decide) (Int.emod_one z);rwa[Ki]at h
theorem Qgo{z:Int}:Fo 154 [.agg (fr (z:Rat))] [.agg (fr ((-z:Int):Rat))]:=by
 have h:=Qgn (a:=(z:Rat));rwa[<-Ka]at h
theorem Qvi{c:Int}(hc:c≠0)(hs:Gy c<=9000000):Qs 40000000 (((1:Int):Rat) / (c:Rat)):=by
 have h0:(c:Rat)≠0:=λe=>hc (by exact_mod_cast e)
 rw[<-jT h0];unfold Sa;rw[if_neg (X9 (Dt _) (λe=>hc (by simpa using e)))];refine Qs.divInt (by show Gy (1*1)<=_;decide) ?_ (by decide);show Gy (1*c)<=_;rw[Vm];omega
theorem bR{p:Ft}{c:Int}(hc:c≠0)(hs:Gy c<=9000000)(hd:∀j,c∣p.getD j 0)(hp:Bd 9000000 p)(hl:p.length<=1000):Fo 249 [.one (rp (zp p)),.agg (fr (((1:Int):Rat) / (c:Rat)))] [.one (rp (zp (B8 p.length λi=>p.getD i 0 / c)))]:=by
 have h:=QP ((JA hp (by omega)).mono (by omega)) (Qvi hc hs) (by rw[Mc];omega);rwa[show((1:Int):Rat)=1 from rfl,eL hc hd]at h
theorem XM{p:Ft}(tp:Gh p)(hp:Bd 9000000 p)(hl:p.length<=1000):Fo 315 [.one (rp (zp p))] [.agg (fr ((Ci p:Int):Rat)),.one (rp (zp (Tg p)))]:=by
 have Ee:=GI p;rcases Qx p.length with h0|h0
 ·have e:=Qf h0;subst e;exact Fi func315 rfl [.t rfl,.k Qdg] rfl
 have hc:=Qiu tp h0;refine Sk func315 rfl ?_;refine Ff [.F,.k (Aj (n:=1) (by decide))] rfl ?_;refine Fl (S:=Nat) 2 (λL1 i=>(16,.v (.oi i))::L1) (λi=>[.blk 34 [.nils,.bool false,.nils,.bool false],.blk 32 (ri 1)]) (λi=>p.length-i) (λi=>i<=p.length) 0 (Qh _) rfl rfl λi hi=>?_
 by_cases h:i<p.length
 ·refine Fg [.T,.x (Pz h),.k Qt3,.x (Pz h),.k Qoa,.k (iN (z:=1) (by decide))] rfl ?_;exact rd (i+1) (by omega) h rfl
 refine Ff [.F] rfl ?_;clear h hi;refine nlb 2 rfl rfl rfl ?_;rw[Qcn];refine Fl (S:=Nat) 3 (λL1 i=>(37,.v (.oi i))::L1) (λi=>[.blk 34 [.nils,.bool false,.nils,.bool false],.blk 32 (ri 1),.blk 32 (ri ((Od p i:Nat):Int))]) (λi=>p.length-i) (λi=>i<=p.length) 0 (Qh _) rfl rfl λi hi=>?_
 by_cases h:i<p.length
 ·have hb:=G5 hp i;have hg:=YR hp i;refine Fg [.T,.x (Pz h),.k (Qn6 (z:=p.getD i 0) (by omega)),.x (Pz h),.k (iN (z:=p.getD i 0) (by omega)),.k (LK (a:=((Od p i:Nat):Int)) (b:=p.getD i 0) (by omega) (by omega))] rfl ?_;exact rd (i+1) (by omega) h rfl
 have e:i=p.length:=by omega
 rw[e];have co:=UH (n:=1) (by decide);have cs:=bR hc (zB hp) (Qd9 p) hp hl;by_cases hn:G6 p<0
 ·have e2:Ci p=-((cont p:Nat):Int):=if_pos hn;rw[show(λi=>p.getD i 0 / Ci p)=λi=>p.getD i 0 / Ci p from rfl]at cs;have cn:=Qgo (z:=((cont p:Nat):Int));rw[<-e2]at cn;exact Fh [.F,.k (Cz (n:=((cont p:Nat):Int))),.r 62 (eI (b:=((p.length-1:Nat):Int)) (by omega)),.x (Pz (p:=p) (i:=p.length-1) (by omega)),.t (decide_eq_true hn),.k cn,.k co,.k (yA (a:=((1:Int):Rat)) (b:=((Ci p:Int):Rat)) ⟨by decide,by decide⟩ (Ag (by have:=zB hp;omega) (by decide)) (λe=>hc (by exact_mod_cast e))),.k cs] rfl rfl (by simp[Ge];omega)
 ·have e2:Ci p=((cont p:Nat):Int):=if_neg hn;have cm:=Cz (n:=Ci p);rw[e2]at cm cs hc ⊢;exact Fh [.F,.k cm,.r 62 (eI (b:=((p.length-1:Nat):Int)) (by omega)),.x (Pz (p:=p) (i:=p.length-1) (by omega)),.f (decide_eq_false hn),.k co,.k (yA (a:=((1:Int):Rat)) (b:=((((cont p:Nat):Int):Int):Rat)) ⟨by decide,by decide⟩ (Ag (by have:=YR hp p.length;unfold cont;omega) (by decide)) (λe=>hc (by exact_mod_cast e))),.k cs] rfl (by unfold Tg;rw[e2];rfl) (by simp[Ge];omega)
theorem XP{p:Ft}(tp:Gh p)(hp:Bd 9000000 p)(hl:p.length<=1000):Fo 202 [.one (rp (zp p))] [.one (rp (zp (Tg p)))] :=
 Fi func202 rfl [.k (XM tp hp hl)] rfl
theorem zC{p:Ft}(tp:Gh p):Ci p<0↔G6 p<0:=by
 unfold Ci;rcases Qx p.length with h0|h0
 ·have:=Qf h0;subst this;decide
 ·have:=rC tp h0
  split <;> omega
theorem bC{p:Ft}(hp:Bd 9000000 p)(hl:p.length<=1000000):Fo 256 [.one (rp (zp p))] [.one (rp (zp (Nn p)))]:=by
 have h:=bE ((JA hp (by decide)).mono (by decide)) (by rw[Mc];exact hl);rwa[Qco]at h
theorem hQ{p:Ft}(tp:Gh p)(hp:Bd 9000000 p)(hl:p.length<=1000):Fo 255 [.one (rp (zp p))] [.one (rp (zp (S6 p)))]:=by
 by_cases hn:G6 p<0
 ·have e:S6 p=Nn (Tg p):=if_pos hn;rw[e];exact Fi func255 rfl [.k (XM tp hp hl),.t (decide_eq_true ((zC tp).2 hn)),.k (bC (DL hp) (Qe (PP p) (by omega)))] rfl
 ·have e:S6 p=Tg p:=if_neg hn;rw[e];exact Fi func255 rfl [.k (XM tp hp hl),.f (decide_eq_false λh=>hn ((zC tp).1 h))] rfl
theorem Qhe{a b g:Ft}{n:Nat}(ta:Gh a)(tb:Gh b)(ha:Bd 9000000 a)(hb:Bd 9000000 b)(la:a.length<=1000)(lb:b.length<=1000)(hrun:GRun n (Tg a) (Tg b) g):Fo 264 [.one (rp (zp a)),.one (rp (zp b))] [.one (rp (zp g))]:=by
 refine Sk func264 rfl ?_;refine Ff [.k (XP ta ha la),.k (XP tb hb lb)] rfl ?_;refine sb [(0,.v (.one (rp (zp (Tg a))))),(1,.v (.one (rp (zp (Tg b)))))] [] rfl rfl ?_;refine Fl (S:=Nat×Ft×Ft) 0 (λL1 s=>(0,.v (.one (rp (zp s.2.1))))::(1,.v (.one (rp (zp s.2.2))))::L1) (λ_=>[]) (λs=>s.1) (λs=>GRun s.1 s.2.1 s.2.2 g) (n,Tg a,Tg b) hrun rfl rfl λ⟨k,x,y⟩ hs=>?_
 have hs:GRun k x y g:=hs;have hyl:=GI y;rcases hs.inv with⟨hk,hy0,hxg⟩|⟨j,m2,r,hk,hy0,hy1,hyb,hrr,hrl,hrb,hrt,hgr⟩
 ·rw[<-hxg];exact Fh [.f (decide_eq_false (by dsimp only;omega))] rfl
 ·subst hk;refine Ff [.t (decide_eq_true (by dsimp only;omega)),.k (oR (a0:=x) (b:=y) (res:=r) hy0 hy1 hyb hrr),.k (XP (p:=r) hrt hrb hrl)] rfl ?_;exact rd (j,y,Tg r) (by dsimp only;omega) hgr rfl
theorem Qn7{x y:Int}(hx:Gy x<=9000000)(hy:Gy y<=9000000)(h0:y≠0)(hd:y∣x):Fo 261 [.agg (fr (x:Rat)),.agg (fr (y:Rat))] [.agg (fr ((x / y:Int):Rat))]:=by
 have hy0:(y:Rat)≠0:=λe=>h0 (by exact_mod_cast e)
 have h:=yA (Ag (s:=40000000) (z:=x) (by omega) (by omega)) (Ag (s:=40000000) (z:=y) (by omega) (by omega)) hy0;obtain⟨k,rfl⟩:=hd;rw[X8 _ h0];rwa[show(((y*k:Int):Rat)) / (y:Rat)=(k:Rat) by rw[Jc];grind]at h
theorem Qdi{p:Ft}{c:Int}(hp:Bd 40000000 p)(hc:Gy c<=40000000)(hl:p.length<=1000000):Fo 249 [.one (rp (zp p)),.agg (fr (c:Rat))] [.one (rp (zp (Gs p c)))]:=by
 have h:=QP (JA hp (by omega)) (Ag hc (by omega)) (by rw[Mc];exact hl);rwa[jD]at h
theorem Qq8(k:Nat)(p:Ft):frow (zp (List.replicate k 0))++frow (zp p)=frow (zp (Po k p)):=by simp[zp,Po,frow]
theorem Qeb(l:Ft)(i:Nat)(z:Int):(frow (zp l)).set i [nd ((z:Rat)).num.natAbs,sg ((z:Rat)).num,nd (((z:Rat)).den:Int).natAbs,sg (((z:Rat)).den:Int)]=frow (zp (l.set i z)):=tL l i z
theorem Qod{p q:Ft}(hp:Bd 18000000 p)(hq:Bd 18000000 q)(hlp:p.length<=1000000)(hlq:q.length<=1000000):Cf prog 276 [.one (rp (zp p)),.one (.orow 0 4 none)] [.row false 34 4 (frow (zp q))] [.one (rp (zp (Ma p q)))] [.gone]:=by
 have hn:=bE ((JA hq (by decide)).mono (by decide)) (by rw[Mc];exact hlq);have ha:=bD (p:=zp p) (q:=OV (zp q)) ((JA hp (by decide)).mono (by decide)) ((Qld (JA hq (by decide))).mono (by decide)) (by rw[Mc];exact hlp) (Qe (mK _) (by rw[Mc];exact hlq));have e:mX (zp p) (OV (zp q))=zp (Ma p q):=Qcs p q;rw[e]at ha;refine Sk func276 rfl ?_;exact Fj [] [0] [.k hn,.k ha] rfl
theorem Qdk{a0 b qf rem:Ft}{n:Nat}(hb0:0<b.length)(hb1:b.length<=1000)(hl0:a0.length<=1000)(hbb:Bd 9000000 b)(hqb:Bd 9000000 qf)(hrun:DRun b n a0 (List.replicate (a0.length+1-b.length) 0) qf rem):Fo 347 [.one (rp (zp a0)),.one (rp (zp b))] [.one (rp (zp (trim qf))),.one (rp (zp rem))]:=by
 have h0l:=GI a0;have hbl:=GI b;obtain⟨N,hN⟩:=nmE (a0.length+1-b.length);rw[<-hN]at hrun;have cc:=XB (p:=zp qf);rw[Dn]at cc;refine Sk func347 rfl ?_;refine Fg [.r 18 (eI (b:=(N:Int)) (by omega)),.i N,.i N,.r 21 (eI (b:=(N:Int)) (by simp))] rfl ?_;refine Fl (S:=Nat) 1 (λL1 i=>(22,.v (.oi i))::L1) (λi=>[.row false 34 4 (List.replicate i (fr 0)++List.replicate (N-i) zR)]) (λi=>N-i) (λi=>i<=N) 0 (Qh _) rfl rfl λi hi=>?_
 by_cases hlt:i<N
 ·refine Fg [.T,.k Qdg,.i i] rfl ?_;rw[vE hlt];exact rd (i+1) (by omega) hlt rfl
 have hiN:i=N:=by omega
 rw[hiN,OI];clear hiN hlt hi;refine Ff [.F] rfl ?_;refine sb [(0,.v (.one (rp (zp a0)))),(1,.v (.one (rp (zp b)))),(6,.v (.one (.orow 0 4 none)))] [.row false 34 4 (frow (zp (List.replicate N 0)))] rfl rfl ?_;refine Fl (S:=Nat×Ft×Ft) 1 (λL1 s=>(0,.v (.one (rp (zp s.2.1))))::L1) (λs=>[.row false 34 4 (frow (zp s.2.2))]) (λs=>s.1) (λs=>DRun b s.1 s.2.1 s.2.2 qf rem/\s.2.2.length=N) (n,a0,List.replicate N 0) ⟨hrun,Jj⟩ rfl rfl λ⟨k,a,q⟩ ⟨hr0,hr1⟩=>?_
 have hr0:DRun b k a q qf rem:=hr0;have hr1:q.length=N:=hr1;have hal:=GI a;have hql:=GI q;rcases hr0.inv with⟨hk,hqf,har,hlt⟩|⟨j,hk,hba,hal2,hab,hpb,hpd,hkq,hrj⟩
 ·subst hqf;subst har;exact Fh [.f (decide_eq_false (by dsimp only;omega)),.k cc] rfl
 subst hk;obtain⟨K,hK⟩:=nmE (a.length-b.length);rw[<-hK]at hrj hkq;have hla:Gy (G6 a)<=9000000:=G5 hab _;have hlb:Gy (G6 b)<=9000000:=G5 hbb _;obtain⟨c,hc⟩:=nmE (G6 a / G6 b);have cq:=Qn7 hla hlb hpb hpd;have hcs:Gy (G6 a / G6 b)<=9000000:=Qe (VQ _ _) hla;rw[<-hc]at cq hcs hrj;have hsl:=Gz b c;have hqs:∀x,(q.set K x).length=N:=λx=>by rw[Jk];exact hr1
 dsimp only;refine go tt [.T,.r 39 (eI (b:=(K:Int)) (by omega)),.r 43 (eI (b:=((a.length-1:Nat):Int)) (by omega)),.x (Pz (p:=a) (i:=a.length-1) (by omega)),.r 49 (eI (b:=((b.length-1:Nat):Int)) (by omega)),.x (Pz (p:=b) (i:=b.length-1) (by omega)),.k cq,.i K,.i K,.i K,.r 60 (eI (b:=(K:Int)) (by simp))] rfl (by simp[Ge,hql] <;> omega) ?_;rw[Qeb];refine Fl (S:=Nat) 3 (λL1 i=>(61,.v (.oi i))::L1) (λi=>[.row false 34 4 (frow (zp (q.set K c))),.blk 34 (fr (c:Rat)),.row false 34 4 (List.replicate i (fr 0)++List.replicate (K-i) zR)]) (λi=>K-i) (λi=>i<=K) 0 (Qh _) rfl rfl λi hi=>?_
 by_cases hlt:i<K
 ·refine Fg [.T,.k Qdg,.i i] rfl ?_;rw[vE hlt];exact rd (i+1) (by omega) hlt rfl
 have hiK:i=K:=by omega
 rw[hiK,OI];clear hiK hlt hi;have hzl:=GI (List.replicate K 0);rw[Jj]at hzl;have Ee:=GI (Gs b c);refine Ff [.F] rfl ?_;refine sb [(10,.v (.one (.orow 2 4 none))),(9,.v (.one (.ow 1 0))),(0,.v (.one (rp (zp a)))),(1,.v (.one (rp (zp b)))),(6,.v (.one (.orow 0 4 none)))] [.row false 34 4 (frow (zp (q.set K c))),.blk 34 (fr (c:Rat)),.row false 34 4 (frow (zp (List.replicate K 0)))] rfl rfl ?_;have p2:=Qod (p:=a) (q:=Po K (Gs b c)) (Gd hab (by decide)) (Gd (Qc6 (G9 hbb hcs)) (by decide)) (by omega) (by rw[FU];omega);rw[<-Qq8]at p2;refine go tt [.k (Qdi (c:=c) (Gd hbb (by decide)) (by omega) (by omega)),.s (sz:=4) (SI (zp (Gs b c))),.c [2] p2] rfl (by simp[Ge,hzl,Ee];omega) ?_;exact rd (j,Ma a (Po K (Gs b c)),q.set K c) (by dsimp only;omega) ⟨hrj,hqs c⟩ rfl
def qS(l:Fu):Fz:=l.map λp=>[rp (zp p)]
theorem JP(l:Fu):(qS l).length=l.length:=by simp[qS]
theorem TM(l:Fu)(g:Ft):qS l++[[rp (zp g)]]=qS (l++[g]):=by simp[qS]
theorem JS{l:Fu}{i:Nat}(h:i<l.length):(qS l)[i]? = some [rp (zp (l.getD i []))]:=Tk (dR h)
theorem Qp8(x:LV):∀c∈[[x]],c.length=1:=λc hc=>by rw[Qo.1 hc];rfl
theorem LH{a b q:Ft}(h:DOk a b q):∃r,Fo 347 [.one (rp (zp a)),.one (rp (zp b))] [.one (rp (zp q)),.one (rp (zp r))]:=by
 obtain⟨h1,h2,h3,h4,qf,r,n,h5,h6,h7,rfl⟩:=h;exact⟨r,Qdk h1 h2 h3 h4 h5 h7⟩
theorem bL{a:Ft}{mf:Nat}{f:Nat->Ft}(ta:Gh a)(ha:Bd 9000000 a)(la:a.length<=1000)(h2:2<=a.length)(hF:FRun a mf f):Fo 258 [.one (rp (zp a))] [.one (.row (qS (OM f mf)))]:=by
 obtain⟨⟨n,ls,hrun,hlen,hq⟩,hms⟩:=hF;have hal:=GI a;refine Sk func258 rfl ?_;refine Ff [.F,.k (XP ta ha la),.o 3 28 1,.lo] rfl ?_;refine sb [(3,.v (.one (.orow 0 1 none))),(4,.v (.one (.orow 1 1 none)))] [.row false 28 1 [],.row false 28 1 (qS [Tg a])] rfl rfl ?_;refine Fl (S:=Nat×Fu) 2 (λL1 s=>(4,.v (.one (.orow 1 1 none)))::L1) (λs=>[.row false 28 1 [],.row false 28 1 (qS s.2)]) (λs=>s.1) (λs=>LRun s.1 s.2 ls/\0<s.2.length/\s.2.length<=1001) (n,[Tg a]) ⟨hrun,by show 0<1;decide,by show 1<=1001;decide⟩ rfl rfl λ⟨k,l⟩ ⟨hs1,hs2,hs3⟩=>?_
 have hs1:LRun k l ls:=hs1;have hs2:0<l.length:=hs2;have hs3:l.length<=1001:=hs3;have hll:=JP l;have hlast:(qS l)[l.length-1]? = some [rp (zp (My l))]:=JS (by omega);have Ee:=GI (My l);dsimp only;rcases hs1.inv with⟨hk,hlf,hl1⟩|⟨j,m2,g,hk,hg1,hg2,hg3,hg4,hg5,hg6,hg7,hlr⟩
 ·have hlm:l.length=mf+1:=by rw[hlf];exact hlen
  rw[<-hlf]at hq;have hl2:=JP (l++[[1]]);have hl3:(l++[[1]]).length=mf+2:=by simp[hlm]
  refine go tt [.r 23 (eI (b:=((l.length-1:Nat):Int)) (by omega)),.i (l.length-1),.x hlast,.F,.k bI,.s (sz:=1) (Qp8 _)] rfl (by simp[Ge,hll];omega) ?_;rw[TM];refine Fl (S:=Nat) 2 (λL1 i=>(6,.v (.oi i))::(3,.v (.one (.orow 0 1 none)))::L1) (λi=>[.row false 28 1 (qS (OM f i)),.row false 28 1 (qS (l++[[1]]))]) (λi=>mf-i) (λi=>i<=mf) 0 (Qh _) rfl rfl λi hi=>?_
  have htl:=JP (OM f i);rw[mA]at htl;by_cases h:i<mf
  ·obtain⟨x,y,z,hx,hy,hz,hf⟩:=hq i h;obtain⟨rx,hdx⟩:=LH hx;obtain⟨ry,hdy⟩:=LH hy;obtain⟨rz,hdz⟩:=LH hz;refine go tt [.T,.i i,.x (JS (by omega)),.i (i+1),.x (JS (by omega)),.k hdx,.i (i+1),.x (JS (by omega)),.i (i+2),.x (JS (by omega)),.k hdy,.k (XP hx.trim hx.bd hx.len),.k (XP hy.trim hy.bd hy.len),.k hdz,.k (XP hz.trim hz.bd hz.len),.s (sz:=1) (Qp8 _)] rfl (by simp[Ge,hl2,htl];omega) ?_;exact rd (i+1) (by omega) h (by rw[TM,Qfe,hf];rfl)
  ·have e:i=mf:=by omega
   rw[e];exact Fh [.F] rfl rfl (by simp[Ge];omega)
 ·subst hk;refine go tt [.r 23 (eI (b:=((l.length-1:Nat):Int)) (by omega)),.i (l.length-1),.x hlast,.T,.r 31 (eI (b:=((l.length-1:Nat):Int)) (by omega)),.i (l.length-1),.x hlast,.k (vJ (Gd hg4 (by decide)) (by omega)),.k (Qhe hg3 (Gk _ _) hg4 hg5 hg2 (Qe (Pw _) (by omega)) hg6),.s (sz:=1) (Qp8 _)] rfl (by simp[Ge,hll];omega) ?_;exact rd (j,l++[g]) (by dsimp only;omega) ⟨hlr,by simp,by simp;omega⟩ (by rw[TM];rfl)
theorem qD{a:Ft}{mf:Nat}{f:Nat->Ft}(ta:Gh a)(ha:Bd 9000000 a)(la:a.length<=1000)(h2:2<=a.length)(hF:FRun a mf f)(hP:Qnm mf f):Fo 158 [.one (rp (zp a))] [.one (rp (zp (Na f mf)))]:=by
 have hms:=hF.small;have hal:=GI a;have htl:=JP (OM f mf);rw[mA]at htl;refine Sk func158 rfl ?_;refine Ff [.F,.k bI,.k (bL ta ha la h2 hF)] rfl ?_;refine Fl (S:=Nat) 0 (λL1 i=>(15,.v (.oi i))::(3,.v (.one (rp (zp (Na f i)))))::L1) (λ_=>[]) (λi=>mf-i) (λi=>i<=mf) 0 (Qh _) rfl rfl λi hi=>?_
 by_cases h:i<mf
 ·obtain⟨g1,g2,g3,g4⟩:=hP i h;refine Fg [.T,.x (Tk (f:=λp=>[rp (zp p)]) (Qmo h)),.k (Ow (p:=Na f i) (q:=f i) (by omega) (by omega) g1 g3 (by decide))] rfl ?_;exact rd (i+1) (by omega) h rfl
 ·have e:i=mf:=by omega
  rw[e];exact Fh [.F] rfl
theorem Qei{l:Fu}(g:Ft)(h:0<l.length):(qS l++[[rp (zp g)]])[l.length-1]? = some [rp (zp (My l))]:=by
 rw[Q3 (by rw[JP];omega)];exact JS (by omega)
theorem GG{a sq:Ft}{c:Fu}(ta:Gh a)(ha:Bd 9000000 a)(la:a.length<=1000)(h2:2<=a.length)(hC:ChRun a sq c):Fo 157 [.one (rp (zp a))] [.one (.row (qS c))]:=by
 obtain⟨⟨mf,f,hF,hP,rfl⟩,⟨n,hcr⟩,hbd,hle,hsm⟩:=hC;refine Sk func157 rfl ?_;refine Ff [.k (qD ta ha la h2 hF hP),.lo,.k (vJ (p:=Na f mf) (Gd hbd (by decide)) (by omega)),.k (hQ (p:=Hn (Na f mf)) (Gk _ _) (Gd (BB (t:=10) hbd (by omega)) (by decide)) (Qe (Pw _) (by omega)))] rfl ?_;refine sb [(5,.v (.one (rp (zp (S6 (Hn (Na f mf))))))),(4,.v (.one (.orow 0 1 none)))] [.row false 28 1 (qS [Na f mf])] rfl rfl ?_;refine Fl (S:=Nat×Fu×Ft) 1 (λL1 s=>(5,.v (.one (rp (zp s.2.2))))::(4,.v (.one (.orow 0 1 none)))::L1) (λs=>[.row false 28 1 (qS s.2.1)]) (λs=>s.1) (λs=>CRun s.1 s.2.1 s.2.2 c/\0<s.2.1.length/\s.2.1.length<=1001) (n,[Na f mf],S6 (Hn (Na f mf))) ⟨hcr,by show 0<1;decide,by show 1<=1001;decide⟩ rfl rfl λ⟨k,l,g⟩ ⟨hs1,hs2,hs3⟩=>?_
 have hs1:CRun k l g c:=hs1;have hs2:0<l.length:=hs2;have hs3:l.length<=1001:=hs3;have hll:=JP l;have hgl:=GI g;dsimp only;rcases hs1.inv with⟨hk,hlf,hg0⟩|⟨j,m2,r,hk,hg1,hg2,hg3,hrr,hrt,hrb,hrl,hl0,hl1,hcj⟩
 ·subst hlf;exact Fh [.F] rfl
 ·subst hk;refine go tt [.T,.s (sz:=1) (Qp8 _),.r 23 (eI (b:=((l.length-1:Nat):Int)) (by simp;omega)),.i (l.length-1),.x (Qei g hl0),.k (oR (a0:=My l) (b:=g) (res:=r) hg1 hg2 hg3 hrr),.k (hQ (p:=r) hrt hrb hrl),.k (bC (p:=S6 r) (qM hrb) (Qe (XO r) (by omega)))] rfl (by simp[Ge,hll];omega) ?_;exact rd (j,l++[g],Nn (S6 r)) (by dsimp only;omega) ⟨hcj,by simp,by simp;omega⟩ (by rw[TM];rfl)
theorem Qww{q:Rat}(h1:Gy q.num<=2000000)(h2:Gy (q.den:Int)<=2000000):Bd 9000000 [-q.num,(q.den:Int)]:=λz hz=>by
 simp only[Qj,Vk,or_false]at hz;rcases hz with rfl|rfl
 ·rw[T0];omega
 ·omega
abbrev aq(q:Rat)(c:Fu):Fy:=[rp (zp [-q.num,(q.den:Int)]),.row (qS c)]++fr q++fr q
theorem ME{q:Rat}{c:Fu}(hq:Qs 2000000 q)(hC:Qr0 q c):Fo 55 [.agg (fr q)] [.agg (aq q c)]:=by
 obtain⟨sq,hch⟩:=hC;have co:=Aj (n:=1) (by decide);exact Fi func55 rfl [.k co,.k (Cz (n:=q.num)),.k (Qgo (z:=q.num)),.k co,.k (Cz (n:=(q.den:Int))),.k (GG (a:=[-q.num,(q.den:Int)]) (uB q) (Qww hq.1 hq.2) (by show 2<=1000;decide) (Qn 2) hch)] rfl
theorem rQ{q:Rat}{c:Fu}(hq:Qs 2000000 q):Fo 167 [.agg (aq q c)] [.one (.bool true)]:=by
 have cr:=GV (a:=q) (b:=q) (hq.mono (by decide)) (hq.mono (by decide));rw[D6]at cr;exact Fi func167 rfl [.k cr] rfl
theorem Qet{p:Ft}(h:p.length=0)(q:Rat):Hq p q=0:=by rw[Qf h];rfl
theorem oG{p:Ft}{q:Rat}{c:Fu}(hp:Bd 30000000 p)(hl:p.length<=64)(hq:Qs 2000000 q):Fo 166 [.one (rp (zp p)),.agg (aq q c)] [.one (.bool (decide (Hq p q=0)))]:=by
 have Ee:=GI p;rcases Qx p.length with h0|h0
 ·rw[decide_eq_true (Qet h0 q)];exact Fi func166 rfl [.T] rfl
 ·exact Fi func166 rfl [.F,.k (rQ hq),.t rfl,.k (XN hp hl hq)] rfl
theorem qC{p:Ft}{q:Rat}{c:Fu}(hp:Bd 30000000 p)(hl:p.length<=64)(hq:Qs 2000000 q):Fo 59 [.one (rp (zp p)),.agg (aq q c)] [.oi (Hq p q)]:=by
 by_cases h0:Hq p q=0
 ·have cz:=oG (c:=c) hp hl hq;rw[h0]at cz ⊢;exact Fi func59 rfl [.k cz,.t rfl] rfl
 ·exact Fi func59 rfl [.k (oG hp hl hq),.f (decide_eq_false h0),.k (rQ hq),.g 11 true rfl,.t rfl,.k (XN hp hl hq)] rfl
theorem Qhc{p:Ft}{q:Rat}{c:Fu}(hp:Bd 20000000 p)(hl:p.length<=64)(hq:Qs 2000000 q):Fo 16 [.one (rp (zp p)),.agg (aq q c)] [.oi (dH p q)]:=by
 refine Sk func16 rfl ?_;refine Ff [] rfl ?_;refine Fl (S:=Ft) 1 (λL1 r=>(0,.v (.one (rp (zp r))))::L1) (λ_=>[.blk 36 (aq q c)]) (λr=>r.length) (λr=>r.length<=64/\Bd (25000000-30*r.length) r/\Pm (λp=>Hq p q) r.length r=dH p q) p ⟨hl,Gd hp (by omega),rfl⟩ rfl rfl λr ⟨hr0,hr1,hr2⟩=>?_
 have hrl:=GI r;rcases Qx r.length with h0|h0
 ·rw[YA _ h0]at hr2;exact Fh [.F] rfl (by rw[<-hr2]) trivial
 by_cases hs:Hq r q=0
 ·have hd:=Pw r;refine Ff [.T,.k (qC (p:=r) (c:=c) (Gd hr1 (by omega)) hr0 hq),.f (decide_eq_false (λh=>h hs)),.k (vJ (p:=r) (Gd hr1 (by omega)) (by omega))] rfl ?_;exact rd (Hn r) (by omega) ⟨by omega,Gd (BB (t:=6) hr1 (by omega)) (by omega),by rw[<-hr2,YE _ h0 hs]⟩ rfl
 ·exact Fh [.T,.k (qC (p:=r) (c:=c) (Gd hr1 (by omega)) hr0 hq),.t (decide_eq_true hs)] rfl (by rw[<-hr2,YL _ h0 hs]) trivial
end Orr
namespace Orq
open Orr Go
def crR(C:Fu)(p:Ft)(lo hi t:Rat):Int :=
 if Tn lo hi=0 then Tn lo t else if Tn t lo<=0 then 1 else if 0<Tn t hi then -1 else if Rf C lo t=0 then 1 else if Hq p t=0 then 0 else -1
theorem Qh5{p:Ft}{C:Fu}{lo hi:Rat}(V:Vt (cz p) (C.map cz) lo hi)(q:Rat):crR C p lo hi q=cq (cz p) lo hi q:=by
 have hl:=V.l;unfold crR;rw[if_neg (λh=>by have:=Pf.1 h;grind)];rcases Classical.em (q<=lo)with h1|h1
 ·rw[if_pos (GT.2 h1),Bl h1]
 rw[if_neg (λh=>h1 (GT.1 h))];rcases Classical.em (hi<q)with h2|h2
 ·rw[if_pos (Dk.2 h2),QL hl h2]
 rw[if_neg (λh=>h2 (Dk.1 h))];have h1':lo<q:=J1.1 h1;have h2':q<=hi:=Rat.not_lt.1 h2;rw[Mq (Qm h1'),Sf];rcases V.two h1' h2' with⟨a,b,_⟩|⟨a,b,_⟩
 ·rw[if_pos (by rw[a];omega),b]
 ·rw[if_neg (by have:=V.v;omega)];rw[Ds h1' h2',Gg]at *
  split
  ·rfl
  ·rename_i h0;rw[if_neg h0]at b
   split at b
   ·exact absurd rfl b
   ·rename_i hne;rw[if_neg hne]
theorem Qps{t:Tm}{L:Fx}{D M k:Nat}{lo hi:Rat}(hu:Hv t D M k ⟨t.p,lo,hi⟩)(V:Vt (cz t.p) L lo hi) :
 (cq (cz t.p) lo hi (O7 lo hi)<=0->Hv t D M (k+1) ⟨t.p,lo,O7 lo hi⟩/\Vt (cz t.p) L lo (O7 lo hi))/\(¬cq (cz t.p) lo hi (O7 lo hi)<=0->Hv t D M (k+1) ⟨t.p,O7 lo hi,hi⟩/\Vt (cz t.p) L (O7 lo hi) hi):=by
 have hl:=V.l;have h2:(lo+hi) / 2*2=lo+hi:=Hu (by decide);have gm:Gr D M (k+1) (O7 lo hi):=by rw[Ae];exact PU hu.l hu.h
 rw[Ae]at *;generalize (lo+hi) / 2=m at *;have m1:lo<m:=by grind
 have m2:m<hi:=by grind
 have cut:∀q,Hl ⟨t.p,lo,hi⟩ q=cq (cz t.p) lo hi q:=λq=>Py (t:=⟨t.p,lo,hi⟩) hl q
 refine⟨λh=>?_,λh=>?_⟩
 ·have hm:cq (cz t.p) lo hi m≠1:=λe=>by omega
  have V':Vt (cz t.p) L lo m:=⟨V.s,m1,by rw[V.eq_hi m1 (Qm m2) hm];exact V.v⟩;refine⟨⟨rfl,.inr ⟨L,V'⟩,λq=>?_,JD hu.l,gm⟩,V'⟩;rw[<-hu.c q,cut q];show Hl ⟨t.p,lo,m⟩ q=_;rw[Py (t:=⟨t.p,lo,m⟩) m1 q];exact(V'.uniq V.cut (Bl Ql) hm V.van q).symm
 ·have hm:cq (cz t.p) lo hi m=1:=by
   rcases V.cut.val m with e|e|e <;> omega
  have V':Vt (cz t.p) L m hi:=⟨V.s,m2,by rw[V.eq_lo m1 (Qm m2) hm];exact V.v⟩;refine⟨⟨rfl,.inr ⟨L,V'⟩,λq=>?_,gm,JD hu.h⟩,V'⟩;rw[<-hu.c q,cut q];show Hl ⟨t.p,m,hi⟩ q=_;rw[Py (t:=⟨t.p,m,hi⟩) m2 q];exact(V'.uniq V.cut hm V.hi1 V.van q).symm
end Orq
namespace Orr
open Go Go.Proofs Tryz Orq
set_option maxRecDepth 10000
abbrev ax(p:Ft)(C:Fu)(lo hi:Rat):Fy:=[rp (zp p),.row (qS C)]++fr lo++fr hi
theorem sJ{sg:Ft->Int}{l:Fu}{i:Nat}{p:Ft}(h:l[i]? = some p):(Mx (l.map sg))[i]? = some [.int .i64 (sg p)]:=HY (by rw[Zb,h];rfl)
theorem Qhm{l:Fu}{sg:Ft->Int}(hl:l.length<=1000)(hs:∀p,-1<=sg p/\sg p<=1):Fo 349 [.one (.row (Mx (l.map sg)))] [.oi (XV sg l:Nat)]:=by
 have Ee:(Mx (l.map sg)).length=l.length:=by simp
 refine Sk func349 rfl ?_;refine Ff [] rfl ?_;refine Fl (S:=Nat) 0 (λL1 i=>(8,.v (.oi i))::(3,.v (.oi ((YX sg l i).1:Int)))::(4,.v (.one (.int .i64 (YX sg l i).2)))::L1) (λ_=>[]) (λi=>l.length-i) (λi=>i<=l.length) 0 (Qh _) rfl rfl λi hi=>?_
 by_cases hlt:i<l.length
 ·obtain⟨p,hp⟩:=gxE (l:=l) (i:=i) hlt;have hst:YX sg l (i+1)=M8 sg (YX sg l i) p:=Mi _ _ _ hp;obtain⟨b1,b2,b3⟩:=uL hs l i;have b4:=hs p;have hx:=sJ (sg:=sg) hp;have ht:decide ((i:Int)<((Mx (l.map sg)).length:Int))=true:=decide_eq_true (by omega);by_cases h0:sg p=0
  ·refine Fg [.t ht,.x hx,.f (by simpa using h0)] rfl ?_;exact rd (i+1) (by omega) hlt (by rw[hst,show M8 sg (YX sg l i) p=YX sg l i from by unfold M8;rw[if_pos h0]];rfl)
  ·by_cases h2:(YX sg l i).2=0
   ·refine Fg [.t ht,.x hx,.t (by simpa using h0),.g 18 false (by simp[h2]),.f rfl,.x hx] rfl ?_;exact rd (i+1) (by omega) hlt (by rw[hst,show M8 sg (YX sg l i) p=((YX sg l i).1,sg p) from by unfold M8;rw[if_neg h0,if_neg (by omega)]];rfl)
   ·by_cases h1:(YX sg l i).2=-(sg p)
    ·refine Fg [.t ht,.x hx,.t (by simpa using h0),.g 18 true (by simpa using h2),.x hx,.t (by simp;omega),.x hx] rfl ?_;exact rd (i+1) (by omega) hlt (by rw[hst,show M8 sg (YX sg l i) p=((YX sg l i).1+1,sg p) from by unfold M8;rw[if_neg h0,if_pos h1]];rfl)
    ·refine Fg [.t ht,.x hx,.t (by simpa using h0),.g 18 true (by simpa using h2),.x hx,.f (by simp;omega),.x hx] rfl ?_;exact rd (i+1) (by omega) hlt (by rw[hst,show M8 sg (YX sg l i) p=((YX sg l i).1,sg p) from by unfold M8;rw[if_neg h0,if_neg h1]];rfl)
 ·obtain rfl:i=l.length:=by omega
  refine Fh [.F] rfl ?_ trivial;unfold YX XV;rw[List.take_length]
def Cok(C:Fu):Prop:=C.length≤1000/\∀p∈C,Bd 9000000 p/\p.length≤64
theorem LR{C:Fu}{q:Rat}(hC:Cok C)(hq:Qs 2000000 q):Fo 268 [.one (.row (qS C)),.agg (fr q)] [.oi (Be C q:Nat)]:=by
 obtain⟨hl,hp⟩:=hC;have hzl:=JP C;refine Sk func268 rfl ?_;refine Ff [.o 5 3 1] rfl ?_;refine Fl (S:=Nat) 2 (λL1 i=>(9,.v (.oi i))::(5,.v (.one (.orow 1 1 none)))::L1) (λi=>[.blk 34 (fr q),.row false 3 1 (Mx ((C.take i).map λp=>Hq p q))]) (λi=>C.length-i) (λi=>i<=C.length) 0 (Qh _) rfl rfl λi hi=>?_
 have hol:(Mx ((C.take i).map λp=>Hq p q)).length=i:=by simp;omega
 by_cases h:i<C.length
 ·have hx:=JS h;have hm:=Jf h;have he:C.getD i []=C[i]:=by rw[Qc,Qg h];rfl
  rw[he]at hx;have cs:=XN (Gd (hp _ hm).1 (by decide)) (hp _ hm).2 hq;have hg:Mx ((C.take (i+1)).map λp=>Hq p q)=Mx ((C.take i).map λp=>Hq p q)++[[.int .i64 (Hq C[i] q)]]:=by
   have e:(C.take (i+1)).map (λp=>Hq p q)=(C.take i).map (λp=>Hq p q)++[Hq C[i] q]:=by rw[X6,Qg h,Xo];rfl
   rw[e];exact Xo
  refine go tt [.T,.x hx,.k cs,.s (sz:=1) (VG _)] rfl (by simp[Ge,hol,-List.map_take];omega) ?_;exact rd (i+1) (by omega) h (by rw[hg];rfl)
 ·have e:i=C.length:=by omega
  rw[e,Za];exact Fh [.F,.p 1,.k (Qhm (sg:=λp=>Hq p q) hl λp=>I3 p q)] rfl
theorem El{C:Fu}{lo hi:Rat}(hC:Cok C)(ql:Qs 2000000 lo)(qh:Qs 2000000 hi):Fo 169 [.one (.row (qS C)),.agg (fr lo),.agg (fr hi)] [.oi (Rf C lo hi)]:=by
 have b1:Be C lo<=C.length:=TK (λp=>I3 p lo) C;have b2:Be C hi<=C.length:=TK (λp=>I3 p hi) C;have hl:=hC.1;have c1:=GV (qh.mono (by decide)) (ql.mono (by decide));unfold Rf;by_cases h:Tn hi lo<0
 ·rw[if_pos h];exact Fi func169 rfl [.k c1,.t (by simpa using h)] rfl
 ·rw[if_neg h];exact Fi func169 rfl [.k c1,.f (by simpa using h),.k (LR hC ql),.k (LR hC qh)] rfl rfl (by simp[Ge];omega)
theorem Qg4{p:Ft}{C:Fu}{lo hi:Rat}(ql:Qs 2000000 lo)(qh:Qs 2000000 hi):Fo 167 [.agg (ax p C lo hi)] [.one (.bool (decide (Tn lo hi=0)))] :=
 Fi func167 rfl [.k (GV (ql.mono (by decide)) (qh.mono (by decide)))] rfl
def O1(p:Ft)(lo hi:Rat):Rat:=if Tn lo hi≠0/\Hq p hi=0 then hi else lo
theorem vQ{p:Ft}{C:Fu}{lo hi:Rat}(hp:Bd 30000000 p)(Ee:p.length<=64)(ql:Qs 2000000 lo)(qh:Qs 2000000 hi):Fo 204 [.agg (ax p C lo hi)] [.agg (ax p C (O1 p lo hi) hi)]:=by
 have c1:=GV (ql.mono (t:=40000000) (by decide)) (qh.mono (by decide));have c2:=XN hp Ee qh;unfold O1;by_cases h0:Tn lo hi=0
 ·rw[if_neg (λh=>h.1 h0)];exact Fi func204 rfl [.k c1,.g 9 false (by simp[h0]),.f rfl] rfl
 by_cases h1:Hq p hi=0
 ·rw[if_pos ⟨h0,h1⟩];exact Fi func204 rfl [.k c1,.g 9 true (by simp[h0]),.k c2,.t (decide_eq_true h1)] rfl
 ·rw[if_neg (λh=>h1 h.2)];exact Fi func204 rfl [.k c1,.g 9 true (by simp[h0]),.k c2,.f (decide_eq_false h1)] rfl
theorem iL{lo hi:Rat}(ql:Qs 2000000 lo)(qh:Qs 2000000 hi):Fo 262 [.agg (fr lo),.agg (fr hi)] [.agg (fr (O7 lo hi))]:=by
 have c1:=yB (ql.mono (t:=20000000) (by decide)) (qh.mono (by decide));have c2:=Qr7 (n:=1) (d:=2) (by decide) (by decide);have e:Sa 1 2=(1:Rat) / 2:=by rw[MZ (by decide)];decide +kernel
 rw[e]at c2;have q1:Qs 40000000 (lo+hi):=(Qvh ql qh).mono (by decide);have q2:Qs 40000000 ((1:Rat) / 2):=by rw[<-e];exact⟨by decide,by decide⟩
 have c3:=bG q1 q2;have em:(lo+hi)*((1:Rat) / 2)=O7 lo hi:=by rw[Ae];grind
 rw[em]at c3;exact Fi func262 rfl [.k c1,.k c2,.k c3] rfl
theorem Qno(z:Int):[nd ((z:Rat)).num.natAbs,.bool false,nd ((((z:Rat)).den:Int)).natAbs,sg (((z:Rat)).den:Int)]=fr ((z.natAbs:Int):Rat):=by
 simp only[fr,ri,U9,Rat.den_intCast,Xa,J5,Zw];have:sg (z.natAbs:Int)=.bool false:=by
  show LV.bool (decide ((z.natAbs:Int)<0))=_;rw[decide_eq_false (by omega)]
 rw[this]
theorem Qom(a b:Nat):Tn ((a:Int):Rat) ((b:Int):Rat)=if a<b then -1 else if a=b then 0 else 1:=by
 rcases Ez ((a:Int):Rat) ((b:Int):Rat)with⟨e,h⟩|⟨e,h⟩|⟨e,h⟩
 ·have h:(b:Int)<(a:Int):=by exact_mod_cast h
  rw[e,if_neg (by omega),if_neg (by omega)]
 ·have h:(a:Int)=(b:Int):=by exact_mod_cast h
  rw[e,if_neg (by omega),if_pos (by omega)]
 ·have h:(a:Int)<(b:Int):=by exact_mod_cast h
  rw[e,if_pos (by omega)]
theorem Qc8{p:Ft}(h:Gp p≠0):((1:Int):Rat)+((most (p.take (p.length-1)):Int):Rat) / (((Gp p).natAbs:Int):Rat)=Hw p:=by
 have e:=YK h;have hp:(0:Rat)<((Gp p).natAbs:Rat):=nat_pos (by omega);have hne:((Gp p).natAbs:Rat)≠0:=by grind
 have e2:=Zc (a:=((most (p.take (p.length-1)):Nat):Rat)) hne;have e3:((((Gp p).natAbs:Int)):Rat)=((Gp p).natAbs:Rat):=rfl;have e4:(((most (p.take (p.length-1)):Nat):Int):Rat)=((most (p.take (p.length-1)):Nat):Rat):=rfl;rw[e3,e4];generalize ((most (p.take (p.length-1)):Nat):Rat) / ((Gp p).natAbs:Rat)=y at *;have:(Hw p-(((1:Int):Rat)+y))*((Gp p).natAbs:Rat)=0:=by push_cast;grind
 rcases Xn.1 this with h'|h'
 ·grind
 ·exact absurd h' hne
theorem Qhd{p:Ft}{s:Nat}(tp:Gh p)(h2:2<=p.length)(hl:p.length<=1000)(hb:Bd s p)(hs:s<=1000000):Fo 159 [.one (rp (zp p))] [.agg (fr (Hw p))]:=by
 have hlp:(frow (zp p)).length=p.length:=by rw[Pu,Mc]
 have c1:=UH (n:=1) (by decide);have hld:Gp p≠0:=Lq tp (by omega);have hm:∀i,Gy (most (p.take i):Int)<=s:=λi=>Qpv λz hz=>hb z (Qq hz)
 have hL:Gy ((Gp p).natAbs:Int)<=s:=by rw[kJ];exact Nl hb
 have q1:∀z:Int,Gy z<=s->Qs 1000000 (z:Rat):=λz hz=>⟨by rw[U9];omega,by rw[Rat.den_intCast];decide⟩
 have cq:=yA (a:=((most (p.take (p.length-1)):Int):Rat)) (b:=(((Gp p).natAbs:Int):Rat)) ((q1 _ (hm _)).mono (by decide)) ((q1 _ hL).mono (by decide)) (O5 (by omega));have hq:Qs 20000000 (((most (p.take (p.length-1)):Int):Rat) / (((Gp p).natAbs:Int):Rat)):=by
  have hp:(0:Rat)<((Gp p).natAbs:Rat):=nat_pos (by omega);have e2:((most (p.take (p.length-1)):Int):Rat) / (((Gp p).natAbs:Int):Rat)*((Gp p).natAbs:Rat)=((most (p.take (p.length-1)):Int):Rat):=Zc (a:=((most (p.take (p.length-1)):Int):Rat)) (b:=((Gp p).natAbs:Rat)) (by grind);have g:Gr (Gp p).natAbs (most (p.take (p.length-1))+1) 0 (((most (p.take (p.length-1)):Int):Rat) / (((Gp p).natAbs:Int):Rat)):=by
   refine⟨⟨(most (p.take (p.length-1)):Int),by rw[Ve,Y0];exact e2⟩,?_,by omega⟩;have hn:(0:Rat)<=((most (p.take (p.length-1)):Int):Rat):=Xt;have hnn:(0:Rat)<=((most (p.take (p.length-1)):Int):Rat) / (((Gp p).natAbs:Int):Rat):=by
    rcases Hr (0:Rat) (((most (p.take (p.length-1)):Int):Rat) / (((Gp p).natAbs:Int):Rat))with h'|h'
    ·exact h'
    ·exfalso;have:=J8 h' hp;rw[e2]at this;grind
   have:Gw (((most (p.take (p.length-1)):Int):Rat) / (((Gp p).natAbs:Int):Rat))=((most (p.take (p.length-1)):Int):Rat) / (((Gp p).natAbs:Int):Rat):=by unfold Gw;rw[if_neg (by grind)]
   rw[this];have hD1:(1:Rat)<=((Gp p).natAbs:Rat):=by
    have:((1:Nat):Rat)<=((Gp p).natAbs:Rat):=Zg.2 (by omega);exact this
   have h3:=Ni (a:=((most (p.take (p.length-1)):Int):Rat) / (((Gp p).natAbs:Int):Rat)) (c:=1) hnn Ql (by decide) hD1;rw[e2]at h3;have h4:(((most (p.take (p.length-1))+1:Nat):Nat):Rat)=((most (p.take (p.length-1)):Int):Rat)+1:=by push_cast;rfl
   rw[h4];grind
  have hM1:Gy ((most (p.take (p.length-1))+1:Nat):Int)<=s+1:=HU (s:=s) (by
   have:=hm (p.length-1);rw[Pn]at this;rwa[Zw]at this)
  exact(Oj g (Wm _) (B:=20000000) (by omega))
 have ca:=yB (a:=((1:Int):Rat)) (b:=((most (p.take (p.length-1)):Int):Rat) / (((Gp p).natAbs:Int):Rat)) ⟨by decide,by decide⟩ hq;rw[Qc8 hld]at ca;have getz:∀i z,p[i]? = some z->(frow (zp p))[i]? = some (fr ((z:Int):Rat)):=λi z hz=>by unfold frow zp;rw[List.getElem?_map,List.getElem?_map,hz];rfl
 refine Sk func159 rfl ?_;refine Ff [.k Qdg] rfl ?_;refine Fl (S:=Nat) 2 (λL1 i=>(4,.v (.oi i))::L1) (λi=>[.blk 34 [.nils,.bool false,.nils,.bool false],.blk 34 (fr ((most (p.take i):Int):Rat))]) (λi=>p.length-i) (λi=>i<=p.length-1) 0 (Qh _) rfl rfl λi hi=>?_
 by_cases h:i+1<p.length
 ·obtain⟨z,hz⟩:=gxE (l:=p) (i:=i) (by omega);have hzb:=hb z (Qa hz);have e:most (p.take (i+1))=if most (p.take i)<z.natAbs then z.natAbs else most (p.take i):=by
   rw[X2,hz,Jr,Qem]
  have cc:=GV (a:=((z.natAbs:Int):Rat)) (b:=((most (p.take i):Int):Rat)) ((q1 _ (by rw[kJ];exact hzb)).mono (by decide)) ((q1 _ (hm i)).mono (by decide));rw[Qom]at cc;by_cases hlt:most (p.take i)<z.natAbs
  ·rw[if_neg (by omega),if_neg (by omega)]at cc;rw[if_pos hlt]at e;refine go tt [.T,.x (getz i z hz),.r 21 (v:=.agg (fr ((z.natAbs:Int):Rat))) (congrArg TV.agg (Qno z)),.k cc,.t rfl,.r 25 (v:=.agg (fr ((z.natAbs:Int):Rat))) (congrArg TV.agg (Qno z))] rfl (by simp[Ge] <;> omega) ?_;exact rd (i+1) (by omega) (by omega) (by rw[e];rfl)
  ·rw[if_neg hlt]at e;obtain⟨v,hv,hv0⟩:∃v:Int,v=(if z.natAbs<most (p.take i)then -1 else if z.natAbs=most (p.take i)then 0 else 1)/\v<=0:=⟨_,rfl,by
    split
    ·decide
    ·rw[if_pos (by omega)];decide⟩
   rw[<-hv]at cc;refine go tt [.T,.x (getz i z hz),.r 21 (v:=.agg (fr ((z.natAbs:Int):Rat))) (congrArg TV.agg (Qno z)),.k cc,.F] rfl (by simp[Ge] <;> omega) ?_;exact rd (i+1) (by omega) (by omega) (by rw[e];rfl)
 ·obtain rfl:i=p.length-1:=by omega
  have hz:p[p.length-1]? = some (Gp p):=by
   unfold Gp;rw[Qc,Qg (by omega)];rfl
  exact Fh [.F,.F,.r 33 (eI (b:=((p.length-1:Nat):Int)) (by omega)),.x (getz _ _ hz),.k c1,.r 40 (v:=.agg (fr (((Gp p).natAbs:Int):Rat))) (congrArg TV.agg (Qno (Gp p))),.k cq,.k ca] rfl rfl (by simp[Ge] <;> omega)
inductive SRun (q:List Int) (c:List (List Int)):Rat->Rat->List Tm->Prop
 |none {lo hi:Rat} (a:Qs 2000000 lo) (b:Qs 2000000 hi) (h:Rf c lo hi=0):SRun q c lo hi []
 |one {lo hi:Rat} (a:Qs 2000000 lo) (b:Qs 2000000 hi) (h:Rf c lo hi=1):SRun q c lo hi [⟨q,lo,hi⟩]
 |more {lo hi:Rat} {l r:List Tm} (a:Qs 2000000 lo) (b:Qs 2000000 hi) (h0:Rf c lo hi≠0) (h1:Rf c lo hi≠1) (hl:SRun q c lo (O7 lo hi) l) (hr:SRun q c (O7 lo hi) hi r):SRun q c lo hi (l++r)
theorem uM{q:Ft}{c:Fu}{D M:Nat}(hM:0<M):∀(k j:Nat) (lo hi:Rat) (n:Int) (r:List Tm),I5 q c k lo hi n=some r->lo<hi->n=Rf c lo hi->Gr D M j lo->Gr D M j hi->Gy (D:Int)+Gy (M:Int)+(j+k)<=1600000->SRun q c lo hi r
 | 0,_,_,_,_,_,h,_,_,_,_,_=>by cases h
 |
  k+1,j,lo,hi,n,r,h,hl,hn,g1,g2,hs=>by
  have q1:Qs 2000000 lo:=Oj g1 hM (by omega);have q2:Qs 2000000 hi:=Oj g2 hM (by omega);simp only[I5]at h
  split at h
  ·rename_i h0;injection h with h;subst h;exact .none q1 q2 (by omega)
  ·rename_i h0
   split at h
   ·rename_i h1;injection h with h;subst h;exact .one q1 q2 (by omega)
   ·rename_i h1;obtain⟨m,hm,h⟩:=Qk.1 h;have hm:O7 lo hi=m:=by
     unfold chq at hm
     split at hm
     ·injection hm with hm
     ·cases hm
    subst hm;obtain⟨x,hx,h⟩:=Qk.1 h;obtain⟨y,hy,h⟩:=Qk.1 h;injection h with h;subst h;have h2:(lo+hi) / 2*2=lo+hi:=Hu (by decide);have gm:Gr D M (j+1) (O7 lo hi):=by rw[Ae];exact PU g1 g2
    have l1:lo<O7 lo hi:=by rw[Ae];grind
    have l2:O7 lo hi<hi:=by rw[Ae];grind
    have bt:∀{a b:Rat},a<b->Rf c a b=(Be c a:Int)-(Be c b:Int):=λ{a b} h=>by
     unfold Rf;rw[if_neg (by
      rcases Ez b a with⟨e,_⟩|⟨e,_⟩|⟨e,h'⟩
      ·omega
      ·omega
      ·exfalso;grind)]
    exact .more q1 q2 (by omega) (by omega) (uM hM k (j+1) lo _ _ x hx l1 rfl (JD g1) gm (by omega)) (uM hM k (j+1) _ hi _ y hy l2 (by rw[hn,bt hl,bt l1,bt l2];omega) gm (JD g2) (by omega))
abbrev axr(q:Ft)(c:Fu)(t:Tm):Fy:=ax q c (O1 q t.lo t.hi) t.hi
abbrev DG(q:Ft)(c:Fu)(r:List Tm):Fz:=r.map (axr q c)
theorem Qf7(q:Ft)(c:Fu)(r:List Tm):∀y∈DG q c r,y.length=10:=λy hy=>by
 obtain⟨t,_,rfl⟩:=Zd.1 hy;rfl
theorem Qhl{q:Ft}{c:Fu}(hq:Bd 9000000 q)(hql:q.length<=64)(hc:Cok c){lo hi:Rat}{r:List Tm}(h:SRun q c lo hi r):r.length<=1000000->Cf prog 160 [.one (rp (zp q)),.one (.row (qS c)),.agg (fr lo),.agg (fr hi)] [] [.one (.orow 0 10 none)] [.row false 36 10 (DG q c r)]:=by
 induction h with
 |
  @none lo hi a b h =>
  intro _;have cb:=El hc a b;rw[h]at cb;refine Sk func160 rfl ?_;exact Fj [] [2] [.k cb,.t rfl,.o 8 36 10] rfl
 |
  @one lo hi a b h =>
  intro _;have cb:=El hc a b;rw[h]at cb;have ce:=vQ (p:=q) (C:=c) (Gd hq (by decide)) hql a b;refine Sk func160 rfl ?_;exact Fj [] [2] [.k cb,.f rfl,.t rfl,.k ce,.lo] rfl
 |
  @more lo hi l r a b h0 h1 hl hr ih1 ih2 =>
  intro hn;rw[Q6]at hn;have cb:=El hc a b;have c1:=ih1 (by omega);have c2:=ih2 (by omega);have hll:(DG q c l).length=l.length:=by simp
  have hrl:(DG q c r).length=r.length:=by simp
  rw[show DG q c (l++r)=DG q c l++DG q c r from Xo];refine Sk func160 rfl ?_;exact Fj [] [3] [.k cb,.f (decide_eq_false h0),.f (decide_eq_false h1),.k (iL a b),.c [3] c1,.c [4] c2,.s (Qf7 q c r)] rfl (by simp[Ge];omega)
end Orr
namespace Orq
open Orr Go
def p2(k:Nat):Rat:=((2^k:Nat):Rat)
theorem PL(a b:Nat):p2 (a+b)=p2 a*p2 b:=by unfold p2;rw[Nat.pow_add,Rat.natCast_mul]
theorem KL{a b:Nat}(h:a<=b):p2 a<=p2 b:=Zg.2 (Zs (by decide) h)
theorem IT(k:Nat):0<=p2 k:=Xt
theorem KE(k:Nat):p2 (k+1)=p2 k+p2 k:=by have:=jW k;unfold p2;rw[this];grind
theorem lV(k:Nat):1<=p2 k:=KL (Qh k)
theorem Qax{S m:Nat}{R:Rat}(h0:0≤R)(hR:R≤p2 m):∀{p:Fw},(∀a∈p,Gw a≤p2 S)->vL R p≤p2 (S+(m+1)*p.length)
 | [],_=>IT _
 |
  a::p,h=>by
  have ih:=Qax h0 hR (p:=p) (λx hx=>h x (Qi _ hx));have h1:=h a (Qw ..);have h2:=Ni h0 hR (XE h0 p) ih;rw[<-PL]at h2;have e:S+(m+1)*(a::p).length=(m+(S+(m+1)*p.length))+1:=by rw[Zf,Wl];omega
  rw[e,KE];have h3:=KL (show S<=m+(S+(m+1)*p.length) by omega);simp only[vL];grind
theorem Qap{S m:Nat}{R:Rat}(h0:0≤R)(hR:R≤p2 m):∀{p:Fw},(∀a∈p,Gw a≤p2 S)->EH R p≤p2 (S+(m+1)*p.length)
 | [],_=>IT _
 |
  a::p,h=>by
  have hp:=λx hx=>h x (Qi a hx)
  have ih:=Qap h0 hR (p:=p) hp;have h1:=Qax h0 hR (p:=p) hp;have h2:=Ni h0 hR (Bm h0 p) ih;rw[<-PL]at h2;have e:S+(m+1)*(a::p).length=(m+(S+(m+1)*p.length))+1:=by rw[Zf,Wl];omega
  rw[e,KE];have h3:=KL (show S+(m+1)*p.length<=m+(S+(m+1)*p.length) by omega);simp only[EH];grind
theorem Qua{S:Nat}{p:Ft}(h:Bd S p):∀a∈cz p,Gw a≤p2 S:=λa ha=>by
 obtain⟨z,hz,rfl⟩:=Zd.1 ha;have h1:=UC (q:=(z:Rat));rw[U9]at h1;exact Zi h1 (KL (h z hz))
theorem Qb9{D:Rat}{b:Nat}(h0:0<=D)(h:D<=p2 b):∀n:Nat,D^n<=p2 (b*n)/\0<=D^n
 | 0=>by rw[Xu];exact⟨lV _,by decide⟩
 |
  n+1=>by
  obtain⟨h1,h2⟩:=Qb9 h0 h n;rw[Xk,Wl,PL];exact⟨Ni h2 h1 h0 h,Cu h2 h0⟩
theorem Qqb{p:Ft}{n b:Nat}(hl:p.length=n+1){q:Rat}(hb:Gy (q.den:Int)<=b)(h:Gf p q≠0):1<=Gw (Gf p q)*p2 (b*n):=by
 have hd0:(0:Rat)<((q.den:Int):Rat):=by
  have := @Rat.intCast_lt_intCast 0 (q.den:Int);rw[show((0:Int):Rat)=0 from rfl]at this;exact this.2 (den_pos q)
 have hd:((q.den:Int):Rat)≠0:=by intro h;rw[h]at hd0;exact absurd hd0 (by decide)
 obtain⟨_,hv⟩:=fX p q.num q.den hd p.length (Qn _);rw[J4,Je,Tt,Z9]at hv;have hD:((q.den:Int):Rat)<=p2 b:=by
  have h1:=Pn.1 hb;rw[Zw]at h1;exact Zg.2 (Yn h1)
 generalize (Bz p q.num (q.den:Int) p.length).1=Z at hv;generalize ((q.den:Int):Rat)=D at *;rw[hl,Xk]at hv;have hZ:(Z:Rat)=D^n*Gf p q:=by
  have:((Z:Rat)-D^n*Gf p q)*D=0:=by grind
  rcases Xn.1 this with h'|h'
  ·grind
  ·exact absurd h' hd
 obtain⟨k1,k2⟩:=Qb9 (Qm hd0) hD n;have hp0:=wB hd0 n;have hz0:Z≠0:=λe=>by
  rw[e]at hZ;rcases Xn.1 hZ.symm with h'|h'
  ·rw[h']at hp0;exact absurd hp0 (by decide)
  ·exact h h'
 have h1:=JZ hz0;rw[hZ,Ay]at h1;have h2:Gw (D^n)=D^n:=by unfold Gw;rw[if_neg (by grind)]
 rw[h2]at h1;have:=Q7 k1 (Tz (Gf p q));grind
theorem Qpb{p:Ft}{L:Fx}{lo hi r:Rat}(V:Vt (cz p) L lo hi){n b m S:Nat}(hl:p.length=n+1)(hS:Bd S p)(h1:Gw r<=p2 m)(h2:Gw hi<=p2 m)(hr:lo<r)(hc:cq (cz p) lo hi r=1)(hb:Gy (r.den:Int)<=b):1<=(hi-r)*p2 (S+(m+1)*(n+1)+b*n):=by
 have hrh:r<hi:=by
  rcases Yi.1 (show r<=hi from by
   rcases Hr r hi with e|e
   ·exact e
   ·rw[QL V.l e]at hc;exact absurd hc (by decide))with e|e
  ·exact e
  ·rw[e]at hc;exact absurd hc V.hi1
 have s1:Gt (ev (cz p) r)=M9 (cz p) lo:=by
  rcases V.two hr (Qm hrh)with⟨_,_,c⟩|⟨_,c,_⟩
  ·exact c
  ·exact absurd hc c
 have s0:=V.lowlo;have s2:Gt (ev (cz p) hi)≠M9 (cz p) lo:=λe=>by
  refine V.hi1 ?_;rw[Ds V.l Ql,if_neg (by rw[e];exact s0),if_pos e]
 have hne:ev (cz p) r≠0:=λe=>s0 (by rw[<-s1];exact Ha.2 e)
 have hd:Gw (ev (cz p) r)<=Gw (ev (cz p) hi-ev (cz p) r):=by
  rw[<-s1]at s2;unfold Gt at s2;unfold Gw;generalize ev (cz p) r=x at *;generalize ev (cz p) hi=y at *
  repeat' split
  all_goals (repeat' split at s2)
  all_goals grind
 have h3:=Qiq (R:=p2 m) h2 h1 (cz p);have h4:=Qap (S:=S) (IT m) (Ql (a:=p2 m)) (Qua hS);have hcl:(cz p).length=n+1:=by unfold cz;rw[List.length_map,hl]
 rw[hcl]at h4;have h5:=Qqb hl hb (by rw[<-Gg];exact hne);rw[<-Gg]at h5;have hq:Gw (hi-r)=hi-r:=by unfold Gw;rw[if_neg (by grind)]
 rw[hq]at h3;have h6:Gw (ev (cz p) r)<=(hi-r)*p2 (S+(m+1)*(n+1)):=Zi (Zi hd h3) (by
  have:=Zt h4 (show 0<=hi-r by grind);exact this)
 have h7:=Q7 h6 (IT (b*n));rw[PL];grind
theorem Quq{a b:Tm}(ha:Cut (Hl a))(hb:Cut (Hl b))(h:¬WC b a):Leq a (Hl b):=λq hq=>by
 rcases ha.val q with e|e|e
 ·exact absurd ⟨q,hq,e⟩ h
 ·obtain⟨r,r1,r2⟩:=hb.dn q hq;exact absurd ⟨r,r2,ha.mono' r1 (by omega)⟩ h
 ·exact e
theorem Qed{p:Ft}{a b:Tm}{o:Option Tm}(hp:Dp p)(ha:Va a)(hb:Va b)(hab:¬WC b a)(h:I9 p a o)(ho:∀t,o=some t->WC b t):Hk (Hb b) p=Hk (Hb a) p:=by
 by_cases h0:p.length=0
 ·obtain rfl:=Qf h0;rfl
 obtain⟨ra,_⟩:=B9 ha hp h0;obtain⟨rb,_⟩:=B9 hb hp h0;have hl:=Quq ha.cut hb.cut hab;cases o with
 |
  none =>
  rcases h with h|⟨s,s0,h⟩
  ·exact absurd (by rw[h];rfl) h0
  ·exact(Qcr rb (h _ hb.cut hl)).trans (Qcr ra (h _ ha.cut λ_ h=>h)).symm
 |
  some t =>
  obtain⟨h1,h2,h3,s,s0,h4,h5⟩:=h;exact(Qcr rb (h4 _ hb.cut hl (ho t rfl))).trans (Qcr ra (h4 _ ha.cut (λ_ h=>h) h3)).symm
open Classical in
noncomputable def mu(T:List Tm)(a:Tm):Nat:=(T.filter λt=>decide (WC a t)).length
def tms(p:Ft):List Tm:=(OL p).getD []
structure KInv(c:Cr):Prop where
 ok:CrOk c
 k:∀w∈c.l,w.known=true->I9 w.c.p c.now w.fails/\∀t,w.fails=some t->t∈tms w.c.p
theorem lZ{p:Ft}(h:Cp p){a:Tm}(ha:Va a):∃r,xP p a=some r/\I9 p a r/\∀t,r=some t->t∈tms p:=by
 obtain⟨l,l1,_,_,l3⟩:=nY h;obtain⟨r,r1,r2,r3⟩:=l3 a ha;refine⟨r,?_,r2,λt ht=>by unfold tms;rw[l1];exact r3 t ht⟩;unfold xP;rw[l1];exact r1
theorem Qbr{now:Tm}(hn:Va now):∀{l:List Wt},(∀w∈l,WtOk w)->(∀w∈l,w.known=true->I9 w.c.p now w.fails/\∀t,w.fails=some t->t∈tms w.c.p) ->
 ∃ws,NF now l=some ws/\ws.map (·.c)=l.map (·.c)/\∀w∈ws,w.known=true/\I9 w.c.p now w.fails/\∀t,w.fails=some t->t∈tms w.c.p
 | [],_,_=>⟨[],rfl,rfl,λw hw=>by cases hw⟩
 |
  w::l,h,h'=>by
  obtain⟨ws,w1,w2,w3⟩:=Qbr hn (λv hv=>h v (Qi _ hv)) (λv hv=>h' v (Qi _ hv));by_cases hk:w.known=true
  ·refine⟨w::ws,by simp only[NF,hk,if_true,w1];rfl,by simp[w2],λv hv=>?_⟩;rcases Qj.1 hv with rfl|hv
   ·exact⟨hk,h' v (by simp) hk⟩
   ·exact w3 v hv
  ·obtain⟨r,r1,r2,r3⟩:=lZ (h w (by simp)).p hn;refine⟨⟨w.c,true,r⟩::ws,by simp only[NF];rw[if_neg hk,r1,w1];rfl,by simp[w2],λv hv=>?_⟩;rcases Qj.1 hv with rfl|hv
   ·exact⟨rfl,r2,r3⟩
   ·exact w3 v hv
theorem Qee{out:List Ct}{c x:Ct}:x∈AS out c↔x=c\/x∈out:=by
 have h:x∈out↔x∈out.take (lL out c out.length)\/x∈out.drop (lL out c out.length):=by
  rw[<-Qr,Zh]
 simp only[AS,Qr,Qj,h];constructor
 ·rintro (h|h|h)
  ·exact .inr (.inl h)
  ·exact .inl h
  ·exact .inr (.inr h)
 ·rintro (h|h|h)
  ·exact .inr (.inl h)
  ·exact .inl h
  ·exact .inr (.inr h)
theorem zE:∀(l acc:List Ct) {y:Ct},y∈l.foldl AS acc↔y∈l\/y∈acc
 | [],acc,y=>by simp
 |
  c::l,acc,y=>by
  simp only[Z0];rw[zE l,Qee,Qj];constructor
  ·rintro (h|h|h)
   ·exact .inl (.inr h)
   ·exact .inl (.inl h)
   ·exact .inr h
  ·rintro ((h|h)|h)
   ·exact .inr (.inl h)
   ·exact .inl h
   ·exact .inr (.inr h)
theorem yX{l:List Ct}{x:Ct}:x∈NE l↔x∈l:=by unfold NE;rw[zE];simp
theorem Qu7{ws:List Wt}(hw:∀w∈ws,WtOk w):∃o,Qu6 ws=some o/\match o with
 |none=>∀w∈ws,w.fails=none
 |some a=>Va a/\(∃w∈ws,w.fails=some a)/\∀w∈ws,∀t,w.fails=some t->¬WC t a:=by
 have hv:∀t∈ws.filterMap (·.fails),Va t:=λt ht=>by
  obtain⟨w,w1,w2⟩:=Vn.1 ht;exact(hw w w1).f t w2
 unfold Qu6;cases hf:ws.filterMap (·.fails)with
 |
  nil =>
  refine⟨none,rfl,λw h=>?_⟩;cases e:w.fails with
  |none=>rfl
  |
   some t =>
   have:t∈ws.filterMap (·.fails):=Vn.2 ⟨w,h,e⟩;rw[hf]at this;cases this
 |
  cons b l =>
  rw[hf]at hv;obtain⟨m,m1,m2,m3⟩:=xY l b hv;refine⟨some m,by show(AL b l).map some=_;rw[m1];rfl,hv m m2,?_,λw h t e=>?_⟩
  ·rw[<-hf]at m2;exact Vn.1 m2
  ·exact m3 t (by rw[<-hf];exact Vn.2 ⟨w,h,e⟩)
structure Stab{β:Type}(Bc:Tm->List Ct)(Br:Tm->β):Prop where
 ok:BuildOk Bc
 fin:∃Ps:List (List Int),(∀p∈Ps,Cp p)/\∀a,Va a->∀x∈Bc a,x.p∈Ps
 st:∀a b,Va a->Va b->(∀x∈Bc a,Hk (Hb b) x.p=Hk (Hb a) x.p)->Bc b=Bc a/\Br b=Br a
structure KSt{β:Type}(Bc:Tm->List Ct)(Br:Tm->β)(c:Cr)(r1:β):Prop where
 inv:KInv c
 cs:c.l.map (·.c)=NE (Bc c.now)
 r:r1=Br c.now
inductive Evs (Bc:Tm->List Ct) (t:Rat):Tm->List Tm->Prop
 |nil {a:Tm} (h:∀x∈Bc a,∃o,I9 x.p a o/\∀u,o=some u->WC (tq t) u):Evs Bc t a []
 |cons {a e:Tm} {E:List Tm} (he:Va e) (h1:WC a e) (h2:¬WC (tq t) e) (h3:∀x∈Bc a,∃o,I9 x.p a o/\∀u,o=some u->¬WC u e) (h4:∃x∈Bc a,I9 x.p a (some e)) (h5:Evs Bc t e E):Evs Bc t a (e::E)
end Orq
namespace Orq
open Orr Go
structure Quiet{β:Type}(Bc:Tm->List Ct)(Br:Tm->β)(a b:Tm):Prop where
 va:Va a
 vb:Va b
 le:¬WC b a
 n:∀x∈Bc a,∃o,I9 x.p a o/\∀u,o=some u->WC b u
section
variable{β:Type}{Bc:Tm->List Ct}{Br:Tm->β}(S:Stab Bc Br)
include S
theorem Quiet.same{a b:Tm}(h:Quiet Bc Br a b):Bc b=Bc a/\Br b=Br a:=by
 refine S.st a b h.va h.vb λx hx=>?_
 obtain⟨o,o1,o2⟩:=h.n x hx;exact Qed (S.ok.p _ h.va _ hx).dp h.va h.vb h.le o1 o2
end
end Orq
namespace Orq
open Orr Go
theorem Qz1{β:Type}{Bc:Tm->List Ct}{Br:Tm->β}{c:Cr}{r:β}(hS:KSt Bc Br c r):∃ws o,NF c.now c.l=some ws/\Qu6 ws=some o/\KSt Bc Br { c with l:=ws } r/\match o with
 |none=>∀x∈Bc c.now,I9 x.p c.now none
 |some a=>Va a/\WC c.now a/\(∃x∈Bc c.now,I9 x.p c.now (some a)/\a∈tms x.p)/\∀x∈Bc c.now,∃o',I9 x.p c.now o'/\∀u,o'=some u->¬WC u a:=by
 obtain⟨⟨ok,kk⟩,hcs,hr⟩:=hS;obtain⟨ws,w1,w2,w3⟩:=Qbr ok.n ok.l kk;have ok':=Qpq ok w1;rw[hcs]at w2;have hc_w:∀x∈Bc c.now,∃w∈ws,w.c=x:=λx hx=>by
  have:x∈ws.map (·.c):=by rw[w2];exact yX.2 hx
  exact Zd.1 this
 have hw_c:∀w∈ws,w.c∈Bc c.now:=λw hw=>yX.1 (by rw[<-w2];exact Jb hw)
 obtain⟨o,o1,o2⟩:=Qu7 ok'.l;refine⟨ws,o,w1,o1,⟨⟨ok',λw hw _=>(w3 w hw).2⟩,w2,hr⟩,?_⟩;cases o with
 |none =>
  intro x hx;obtain⟨w,hw,rfl⟩:=hc_w x hx;have:=(w3 w hw).2.1;rw[o2 w hw]at this;exact this
 |
  some a =>
  obtain⟨va,⟨w,hw,hwa⟩,hmin⟩:=o2;have k:=(w3 w hw).2.1;rw[hwa]at k;exact⟨va,k.2.2.1,⟨w.c,hw_c w hw,k,(w3 w hw).2.2 a hwa⟩,λx hx=>by
   obtain⟨v,hv,rfl⟩:=hc_w x hx;exact⟨v.fails,(w3 v hv).2.1,λu hu=>hmin v hv u hu⟩⟩
structure LwS(t:Tm)(L:List (List Rat))(D M k0 w0 j:Nat)(lo hi:Rat):Prop where
 hv:Hv t D M (k0+j) ⟨t.p,lo,hi⟩
 v:Vt (cz t.p) L lo hi
 w:(hi-lo)*p2 j<=p2 w0
theorem LwS.next{t:Tm}{L:Fx}{D M k0 w0 j:Nat}{lo hi:Rat}(h:LwS t L D M k0 w0 j lo hi) :
 (cq (cz t.p) lo hi (O7 lo hi)<=0->LwS t L D M k0 w0 (j+1) lo (O7 lo hi))/\(¬cq (cz t.p) lo hi (O7 lo hi)<=0->LwS t L D M k0 w0 (j+1) (O7 lo hi) hi):=by
 obtain⟨s1,s2⟩:=Qps h.hv h.v;have h2:(lo+hi) / 2*2=lo+hi:=Hu (by decide);have e:=Ae lo hi;have hw:=h.w;have hj:=KE j;refine⟨λhc=>?_,λhc=>?_⟩
 ·obtain⟨a,b⟩:=s1 hc;refine⟨a,b,?_⟩;rw[e,hj];generalize (lo+hi) / 2=m at *;have:(m-lo)*(p2 j+p2 j)=(hi-lo)*p2 j:=by
   have:m+m=lo+hi:=by grind
   have:(m-lo)*(p2 j+p2 j)=(m+m-lo-lo)*p2 j:=by grind
   rw[this,‹m+m=lo+hi›];grind
  rw[this];exact hw
 ·obtain⟨a,b⟩:=s2 hc;refine⟨a,b,?_⟩;rw[e,hj];generalize (lo+hi) / 2=m at *;have:(hi-m)*(p2 j+p2 j)=(hi-lo)*p2 j:=by
   have:m+m=lo+hi:=by grind
   have:(hi-m)*(p2 j+p2 j)=(hi+hi-(m+m))*p2 j:=by grind
   rw[this,‹m+m=lo+hi›];grind
  rw[this];exact hw
theorem vO{D M k s:Nat}{x:Rat}(h:Gr D M k x)(hs:Gy (M:Int)<=s):Gw x<=p2 s:=by
 refine Zi h.b ?_;have h1:=Pn.1 hs;rw[Zw]at h1;exact Zg.2 (Yn h1)
theorem LwS.few{t:Tm}{L:Fx}{D M k0 w0 j:Nat}{lo hi:Rat}(h:LwS t L D M k0 w0 j lo hi){n S m b:Nat}(hl:t.p.length=n+1)(hS:Bd S t.p)(hM:Gy (M:Int)<=m){r:Rat}(hb:Gy (r.den:Int)<=b)(hr:lo<r)(hc:Hl t r=1):j<=w0+(S+(m+1)*(n+1)+b*n):=by
 have hcq:cq (cz t.p) lo hi r=1:=by
  rw[<-Py (t:=⟨t.p,lo,hi⟩) h.v.l r,h.hv.c];exact hc
 have q1:=vO h.hv.l hM;have q2:=vO h.hv.h hM;have hrh:r<=hi:=by
  rcases Hr r hi with e|e
  ·exact e
  ·rw[QL h.v.l e]at hcq;exact absurd hcq (by decide)
 have q3:Gw r<=p2 m:=by
  have a1:=Mh.1 q1;have a2:=Mh.1 q2;rw[Mh];constructor
  ·exact Zi a1.1 (Qm hr)
  ·exact Zi hrh a2.2
 have hg:=Qpb h.v hl hS q3 q2 hr hcq hb;obtain⟨G,hG⟩:=nmE (S+(m+1)*(n+1)+b*n);rw[<-hG]at hg ⊢;rcases Q8 (w0+G) j with hj|hj
 ·exfalso;have h1:=KL (show w0+G+1<=j from hj);rw[KE,PL]at h1;have hw:=h.w;have hlo:0<hi-lo:=by have:=h.v.l;grind
  have h2:(hi-r)*p2 G<=(hi-lo)*p2 G:=Q7 (by grind) (IT G);have h3:=Zt h1 (Qm hlo);have h4:1<=(hi-lo)*p2 G:=Zi hg h2;have h5:=Q7 h4 (IT w0);have h6:=lV w0;have e1:(hi-lo)*(p2 w0*p2 G+p2 w0*p2 G)=(hi-lo)*p2 G*p2 w0+(hi-lo)*p2 G*p2 w0:=by grind
  rw[e1]at h3;grind
 ·exact hj
theorem HQ{a:Tm}(ha:Va a):∀(L:Fu),(∀p∈L,Dp p)->∃y,Hl a y=-1/\∀q,Hl a q=-1->q≤y->∀p∈L,Hk (Hb a) p=Gt (Gf p q)
 |
  [],_=>by
  obtain⟨y,hy⟩:=ha.cut.hi;exact⟨y,hy,λq _ _ p hp=>by cases hp⟩
 |
  p::L,h=>by
  obtain⟨y,y1,y2⟩:=HQ ha L (λq hq=>h q (Qi _ hq));by_cases h0:p.length=0
  ·obtain rfl:=Qf h0;refine⟨y,y1,λq q1 q2 r hr=>?_⟩;rcases Qj.1 hr with rfl|hr
   ·rw[YC];exact(Ha.2 rfl).symm
   ·exact y2 q q1 q2 r hr
  ·obtain⟨⟨z,z1,z2⟩,_⟩:=B9 ha (h p (by simp)) h0;refine⟨if y<=z then y else z,by split <;> assumption,λq q1 q2 r hr=>?_⟩;rcases Qj.1 hr with rfl|hr
   ·rw[<-Gg];exact(z2 q q1 (by grind)).symm
   ·exact y2 q q1 (by grind) r hr
section Srt
variable{α:Type}{lt:α->α->Bool}{R:α->α->Prop}
theorem jR(irr:∀x,¬R x x)(tr:∀x y z,R x y->R y z->R x z):∀{l m:List α},l.Pairwise R->m.Pairwise R->(∀x,x∈l↔x∈m)->l=m
 | [],[],_,_,_=>rfl
 | [],y::m,_,_,h=>by have:=(h y).2 (by simp);cases this
 |x::l,[],_,_,h=>by have:=(h x).1 (by simp);cases this
 |
  x::l,y::m,hl,hm,h=>by
  rw[Q5]at hl hm;have e:x=y:=by
   rcases Qj.1 ((h x).1 (by simp))with e|h1
   ·exact e
   ·rcases Qj.1 ((h y).2 (by simp))with e|h2
    ·exact e.symm
    ·exact absurd (tr _ _ _ (hl.1 y h2) (hm.1 x h1)) (irr x)
  subst e;rw[jR irr tr hl.2 hm.2 λz=>?_];constructor
  ·intro hz;rcases Qj.1 ((h z).1 (Qi _ hz))with e|h1
   ·subst e;exact absurd (hl.1 z hz) (irr z)
   ·exact h1
  ·intro hz;rcases Qj.1 ((h z).2 (Qi _ hz))with e|h1
   ·subst e;exact absurd (hm.1 z hz) (irr z)
   ·exact h1
theorem jV{out:List α}{x:α}:∀k,k<=out.length->(∀j y,Bs lt out x k<=j->j<k->out[j]? = some y->lt x y=true)/\(0<Bs lt out x k->∃y,out[Bs lt out x k-1]? = some y/\lt x y=false)
 | 0,_=>⟨λj y _ h=>by omega,λh=>by simp[Bs]at h⟩
 |
  k+1,hk=>by
  obtain⟨y,hy⟩:=gxE (l:=out) (i:=k) (by omega);by_cases h:lt x y=true
  ·rw[KI hy h];obtain⟨h1,h2⟩:=jV (out:=out) (x:=x) k (by omega);refine⟨λj z a1 a2 a3=>?_,h2⟩;by_cases e:j=k
   ·subst e;rw[hy]at a3;injection a3 with a3;subst a3;exact h
   ·exact h1 j z a1 (by omega) a3
  ·have h:lt x y=false:=by simpa using h
   rw[XQ hy h];exact⟨λj z a1 a2 _=>by omega,λ_=>⟨y,by simpa using hy,h⟩⟩
theorem Qph(tr:∀x y z,R x y->R y z->R x z){out:List α}{x:α}(ho:out.Pairwise R)(h1:∀y∈out,lt x y=true->R x y)(h2:∀y∈out,lt x y=false->R y x):(Cq lt out x).Pairwise R:=by
 obtain⟨s1,s2⟩:=jV (lt:=lt) (out:=out) (x:=x) out.length (Qn _);have hle:=wN lt out x out.length;unfold Cq;obtain⟨k,hk⟩:=nmE (Bs lt out x out.length);rw[<-hk]at s1 s2 hle ⊢;have hd:(out.take k++out.drop k).Pairwise R:=by rw[Zh];exact ho
 obtain⟨d1,d2,d3⟩:=Zv.1 hd;have hR:∀y∈out.drop k,R x y:=λy hy=>by
  obtain⟨i,hi⟩:=Ze hy;rw[Xi]at hi;have:k+i<out.length:=(Qd.1 hi).1;exact h1 y (Q9 hy) (s1 (k+i) y (by omega) this hi)
 have hL:∀y∈out.take k,R y x:=λy hy=>by
  obtain⟨i,hi⟩:=Ze hy;have hik:i<k:=by have:=(Qd.1 hi).1;simp at this;omega
  rw[Ja hik]at hi;obtain⟨z,z1,z2⟩:=s2 (by omega);have hz:=h2 z (Qa z1) z2;by_cases e:i=k-1
  ·subst e;rw[hi]at z1;injection z1 with z1;subst z1;exact hz
  ·have hp:=Xh.1 ho i (k-1) (by omega) (by omega) (by omega);obtain⟨_,e1⟩:=Qd.1 hi;obtain⟨_,e2⟩:=Qd.1 z1;rw[e1,e2]at hp;exact tr _ _ _ hp hz
 refine Zv.2 ⟨d1,Q5.2 ⟨hR,d2⟩,λy hy z hz=>?_⟩;rcases Qj.1 hz with rfl|hz
 ·exact hL y hy
 ·exact d3 y hy z hz
theorem foldG_pw(tr:∀x y z,R x y->R y z->R x z){S:α->Prop}(h1:∀x y,S x->S y->lt x y=true->R x y){D:α->α->Prop}(h2:∀x y,S x->S y->D y x->lt x y=false->R y x) :
 ∀(l acc:List α),acc.Pairwise R->(∀x∈acc,S x)->(∀x∈l,S x)->l.Pairwise D->(∀x∈acc,∀y∈l,D x y)->(l.foldl (Cq lt) acc).Pairwise R
 | [],acc,ha,_,_,_,_=>ha
 |
  x::l,acc,ha,hs,hl,hd,hx=>by
  rw[Q5]at hd;refine foldG_pw tr h1 h2 l (Cq lt acc x) ?_ ?_ (λy hy=>hl y (Qi _ hy)) hd.2 ?_
  ·exact Qph tr ha (λy hy=>h1 x y (hl x (by simp)) (hs y hy)) (λy hy=>h2 x y (hl x (by simp)) (hs y hy) (hx y hy x (by simp)))
  ·intro y hy;rcases HK.1 hy with rfl|hy
   ·exact hl _ (by simp)
   ·exact hs y hy
  ·intro y hy z hz;rcases HK.1 hy with rfl|hy
   ·exact hd.1 z hz
   ·exact hx y hy z (Qi _ hz)
end Srt
def px(p:Pt)(q:Rat):Rat:=Gf p.c.x q / (p.c.d:Rat)
def py(p:Pt)(q:Rat):Rat:=Gf p.c.y q / (p.c.d:Rat)
def ZY(q:Rat)(x y:Pt):Prop:=px x q<px y q\/px x q=px y q/\(py x q<py y q\/py x q=py y q/\x.id<y.id)
theorem AA(q:Rat)(x:Pt):¬ZY q x x:=by unfold ZY;grind
theorem CV(q:Rat)(x y z:Pt)(h:ZY q x y)(h':ZY q y z):ZY q x z:=by unfold ZY at *;grind
theorem Qjy{q:Rat}{x y:Pt}(h:x.id≠y.id)(h':¬ZY q x y):ZY q y x:=by unfold ZY at *;grind
theorem yZ{u v:Rat}{c d:Int}(hc:0<c)(hd:0<d):Gt (v*(c:Rat)-u*(d:Rat))=Gt (v / (d:Rat)-u / (c:Rat)):=by
 have hc':(0:Rat)<(c:Rat):=by exact_mod_cast hc
 have hd':(0:Rat)<(d:Rat):=by exact_mod_cast hd
 have e:v*(c:Rat)-u*(d:Rat)=((c:Rat)*(d:Rat))*(v / (d:Rat)-u / (c:Rat)):=by
  rw[Yp,Yp];have h1:=Up (c:Rat) (by grind);have h2:=Up (d:Rat) (by grind);grind
 rw[e,Eb (Xm hc' hd')]
theorem MF{x y:Pt}(hx:Sc x.c)(hy:Sc y.c)(q:Rat):Gt (Gf (Hi x.c y.c) q)=Gt (px y q-px x q):=by
 unfold Hi px;rw[Bq,Tf,Tf];exact yZ hx.n.2.2.1 hy.n.2.2.1
theorem MU{x y:Pt}(hx:Sc x.c)(hy:Sc y.c)(q:Rat):Gt (Gf (Hh x.c y.c) q)=Gt (py y q-py x q):=by
 unfold Hh py;rw[Bq,Tf,Tf];exact yZ hx.n.2.2.1 hy.n.2.2.1
theorem bX{a:Tm}(ha:Va a){x y:Pt}(hx:Sc x.c)(hy:Sc y.c){q:Rat}(h1:Hk (Hb a) (Hi x.c y.c)=Gt (Gf (Hi x.c y.c) q))(h2:Hk (Hb a) (Hh x.c y.c)=Gt (Gf (Hh x.c y.c) q)):Rh (Hb a) x y=true↔ZY q x y:=by
 rw[MF hx hy]at h1;rw[MU hx hy]at h2;have d1:=(C4 hx hy).dp;have d2:=(C3 hx hy).dp;unfold Rh;simp only[Af];have t1:=Hf (px y q-px x q);have t2:=Hf (py y q-py x q);by_cases e1:(Hi x.c y.c).length=0
 ·rw[if_neg (by omega)];rw[Qf e1,YC]at h1;have:px x q=px y q:=by grind
  by_cases e2:(Hh x.c y.c).length=0
  ·rw[if_neg (by omega)];rw[Qf e2,YC]at h2;unfold ZY;simp only[decide_eq_true_eq];grind
  ·rw[if_pos (by omega)];have:=(B9 ha d2 e2).2;unfold ZY;simp only[decide_eq_true_eq];grind
 ·rw[if_pos (by omega)];have:=(B9 ha d1 e1).2;unfold ZY;simp only[decide_eq_true_eq];grind
def nL(l:List Pt):Fu:=l.flatMap λx=>l.flatMap λy=>[Hi x.c y.c,Hh x.c y.c]
theorem QR{l:List Pt}{x y:Pt}(hx:x∈l)(hy:y∈l):Hi x.c y.c∈nL l/\Hh x.c y.c∈nL l :=
 ⟨Xb.2 ⟨x,hx,Xb.2 ⟨y,hy,by simp⟩⟩,Xb.2 ⟨x,hx,Xb.2 ⟨y,hy,by simp⟩⟩⟩
theorem iJ{l:List Pt}(hl:∀p∈l,Sc p.c):∀p∈nL l,Cp p:=λp hp=>by
 obtain⟨x,hx,hp⟩:=Xb.1 hp;obtain⟨y,hy,hp⟩:=Xb.1 hp;simp at hp;rcases hp with rfl|rfl
 ·exact C4 (hl x hx) (hl y hy)
 ·exact C3 (hl x hx) (hl y hy)
end Orq
namespace Orq
theorem ang{ux uy vx vy wx wy:Rat}(hu:0<ux\/ux=0/\0<uy)(hv:0<vx\/vx=0/\0<vy)(hw:0<wx\/wx=0/\0<wy)
 (h1:0<=ux*vy-vx*uy) (h2:0<=vx*wy-wx*vy):0<=ux*wy-wx*uy/\(0<ux*vy-vx*uy\/0<vx*wy-wx*vy->0<ux*wy-wx*uy):=by
 have ux0:0<=ux:=by grind
 have wx0:0<=wx:=by grind
 rcases hv with hv|⟨hv,hv2⟩
 ·have e:vx*(ux*wy-wx*uy)=ux*(vx*wy-wx*vy)+wx*(ux*vy-vx*uy):=by grind
  have hux:0<ux:=by
   rcases hu with h|⟨h,h'⟩
   ·exact h
   ·have:=Xm hv h';rw[h]at h1;grind
  have p1:=Jt ux0 h2;have p2:=Jt wx0 h1;have key:∀z:Rat,vx*z=ux*(vx*wy-wx*vy)+wx*(ux*vy-vx*uy)->0<=z:=λz hz=>by
   refine Rat.not_lt.1 λhn=>?_
   have:=Xm hv (show 0 < -z by grind);grind
  refine⟨key _ e,λhs=>?_⟩;rcases hw with hw|⟨hw,hw2⟩
  ·have hpos:0<vx*(ux*wy-wx*uy):=by
    rcases hs with hs|hs
    ·have:=Xm hw hs;grind
    ·have:=Xm hux hs;grind
   have h0:=key _ e;refine J1.1 λhn=>?_
   have:ux*wy-wx*uy=0:=by grind
   rw[this]at hpos;grind
  ·have:=Xm hux hw2;rw[hw];grind
 ·rw[hv]at h1 h2;have hw0:wx=0:=by
   rcases hw with hw|hw
   ·have:=Xm hw hv2;grind
   ·exact hw.1
  have hwy:0<wy:=by grind
  have p:=Jt ux0 (Qm hwy);refine⟨by rw[hw0];grind,λhs=>?_⟩;rw[hv,hw0]at hs;have hux:0<ux:=by
   rcases hs with hs|hs
   ·refine J1.1 λhn=>?_
    have:ux=0:=by grind
    rw[this]at hs;grind
   ·grind
  have:=Xm hux hwy;rw[hw0];grind
section
variable{α:Type}(X Y:α->Rat)
def lx(a b:α):Prop:=X a<X b\/X a=X b/\Y a<Y b
def H4(a b c:α):Rat:=(X b-X a)*(Y c-Y a)-(X c-X a)*(Y b-Y a)
variable{X Y}
theorem Dv(a:α):¬lx X Y a a:=by unfold lx;grind
theorem sP{a b c:α}(h:lx X Y a b)(h':lx X Y b c):lx X Y a c:=by unfold lx at *;grind
theorem Dw{a b:α}(h:lx X Y a b):0<X b-X a\/X b-X a=0/\0<Y b-Y a:=by unfold lx at h;grind
theorem ZR(a b:α):H4 X Y a b a=0/\H4 X Y a b b=0:=by unfold H4;grind
theorem Qkh(a b c:α):H4 X Y a c b=- H4 X Y a b c:=by unfold H4;grind
theorem Qp9(a b c:α):H4 X Y a b c=(X b-X a)*(Y c-Y b)-(X c-X b)*(Y b-Y a):=by unfold H4;grind
def Edg(Q:α->α->Prop):List α->Prop
 |a::b::r=>Q a b/\Edg Q (b::r)
 |_=>True
def Cnv(R:α->α->α->Prop):List α->Prop
 |a::b::c::r=>R a b c/\Cnv R (b::c::r)
 |_=>True
theorem Edg.tail{Q:α->α->Prop}{a:α}{l:List α}(h:Edg Q (a::l)):Edg Q l:=by
 cases l with
 |nil=>trivial
 |cons b l=>exact h.2
theorem Cnv.tail{R:α->α->α->Prop}{a:α}{l:List α}(h:Cnv R (a::l)):Cnv R l:=by
 match l,h with
 | [],_=>trivial
 | [_],_=>trivial
 |b::c::l,h=>exact h.2
theorem Edg.imp{Q Q':α->α->Prop}:∀{l:List α},(∀a∈l,∀b∈l,Q a b->Q' a b)->Edg Q l->Edg Q' l
 | [],_,_=>trivial
 | [_],_,_=>trivial
 |a::b::l,hq,h=>⟨hq a (by simp) b (by simp) h.1,Edg.imp (l:=b::l) (λx hx y hy=>hq x (Qi _ hx) y (Qi _ hy)) h.2⟩
theorem Cnv.imp{R R':α->α->α->Prop}:∀{l:List α},(∀a∈l,∀b∈l,∀c∈l,R a b c->R' a b c)->Cnv R l->Cnv R' l
 | [],_,_=>trivial
 | [_],_,_=>trivial
 | [_,_],_,_=>trivial
 |a::b::c::l,hq,h=>⟨hq a (by simp) b (by simp) c (by simp) h.1,Cnv.imp (l:=b::c::l) (λx hx y hy z hz=>hq x (Qi _ hx) y (Qi _ hy) z (Qi _ hz)) h.2⟩
def pM(s:α->α->α->Bool)(c:α):List α->List α
 |b::a::r=>if s a b c=true then b::a::r else pM s c (a::r)
 |l=>l
def YG(s:α->α->α->Bool):List α->List α->List α
 |acc,[]=>acc
 |acc,c::l=>YG s (c::pM s c acc) l
structure Stk(X Y:α->Rat)(P:List α)(st:List α):Prop where
 srt:st.Pairwise λb a=>lx X Y a b
 mem:∀p∈st,p∈P
 edg:Edg (λb a=>∀p∈P,0≤H4 X Y a b p) st
 cnv:Cnv (λc b a=>0<H4 X Y a b c) st
theorem Stk.tail{P:List α}{a:α}{st:List α}(h:Stk X Y P (a::st)):Stk X Y P st:=⟨(Q5.1 h.srt).2,λp hp=>h.mem p (Qi _ hp),h.edg.tail,h.cnv.tail⟩
theorem Qkv{P:List α}{s:α->α->α->Bool}{c:α}(hs:∀a∈P,∀b∈P,(s a b c=true↔0<H4 X Y a b c))(hc:∀p∈P,lx X Y p c) :
 ∀(st:List α) (t:α),Stk X Y P (t::st)->(∀p∈P,lx X Y t p->0≤H4 X Y t c p) ->
 ∃t' st',pM s c (t::st)=t'::st'/\Stk X Y P (t'::st')/\(∀p∈P,lx X Y t' p->0≤H4 X Y t' c p)/\(∀a r,st'=a::r->0<H4 X Y a t' c)/\(t'::st').getLast? = (t::st).getLast?
 | [],t,h,h2=>⟨t,[],rfl,h,h2,λa r e=>(by cases e),rfl⟩
 |
  a::r,t,h,h2=>by
  have ht:=h.mem t (by simp);have ha:=h.mem a (by simp);by_cases e:s a t c=true
  ·refine⟨t,a::r,by simp only[pM];rw[if_pos e],h,h2,λa' r' e'=>?_,rfl⟩;injection e' with e1 _
   rw[<-e1];exact(hs a ha t ht).1 e
  ·have hle:H4 X Y a t c<=0:=Rat.not_lt.1 λh'=>e ((hs a ha t ht).2 h')
   have hat:lx X Y a t:=(Q5.1 h.srt).1 a (by simp);obtain⟨t',st',g1,g2,g3,g4,g5⟩:=Qkv hs hc r a h.tail λp hp hap=>by
    have e1:=h.edg.1 p hp;have k:=ang (Dw (hc a ha)) (Dw hat) (Dw hap) (by rw[Qkh]at *;unfold H4 at *;grind) (by unfold H4 at *;grind);unfold H4;grind
   exact⟨t',st',by simp only[pM];rw[if_neg e];exact g1,g2,g3,g4,by rw[g5];rfl⟩
theorem zN{P:List α}{c:α}:∀(st:List α) (t:α),Stk X Y P (t::st)->lx X Y t c->(∀a r,st=a::r->0<H4 X Y a t c)->Edg (λb a=>0<H4 X Y a b c) (t::st)
 | [],_,_,_,_=>trivial
 | [a],t,_,_,h=>⟨h a [] rfl,trivial⟩
 |
  a::q::r,t,hS,htc,h=>by
  have h1:=h a (q::r) rfl;have h0:0<H4 X Y q a t:=hS.cnv.1;have p1:=Q5.1 hS.srt;have p2:=Q5.1 p1.2;have hat:lx X Y a t:=p1.1 a (by simp);have hqa:lx X Y q a:=p2.1 q (by simp);refine⟨h1,zN (q::r) a hS.tail (sP hat htc) λa' r' e=>?_⟩;injection e with e _;rw[<-e];rw[Qp9]at h0 h1 ⊢;have k:=(ang (Dw hqa) (Dw hat) (Dw htc) (Qm h0) (Qm h1)).2 (.inl h0);grind
theorem Qqj{P:List α}{t:α}{st:List α}{c:α}(h:Stk X Y P (t::st))(hc:∀p∈P,lx X Y p c)(hP:∀p∈P,p=t\/lx X Y p t\/lx X Y t p)(hb:∀p∈P,(t::st).getLast? = some p\/∃b,(t::st).getLast? = some b/\lx X Y b p)(h2:∀p∈P,lx X Y t p->0≤H4 X Y t c p)(h3:∀a r,st=a::r->0<H4 X Y a t c):Stk X Y (P++[c]) (c::t::st):=by
 have ht:=h.mem t (by simp);have htc:=hc t ht;have hf:=zN st t h htc h3;refine⟨Q5.2 ⟨λp hp=>hc p (h.mem p hp),h.srt⟩,λp hp=>?_,⟨λp hp=>?_,?_⟩,?_⟩
 ·rcases Qj.1 hp with rfl|hp
  ·simp
  ·exact Xv _ (h.mem p hp)
 ·rcases Qr.1 hp with hp|hp
  ·rcases hP p hp with rfl|hpt|htp
   ·rw[(ZR p c).1];exact Ql
   ·cases st with
    |
     nil =>
     exfalso;rcases hb p hp with e|⟨b,e,hb⟩
     ·injection e with e;subst e;exact Dv _ hpt
     ·injection e with e;subst e;exact Dv _ (sP hpt hb)
    |
     cons a r =>
     have e1:=h.edg.1 p hp;have h3:=h3 a r rfl;have hat:lx X Y a t:=(Q5.1 h.srt).1 a (by simp);have k:=(ang (Dw hpt) (Dw hat) (Dw htc) (by unfold H4 at *;grind) (by unfold H4 at *;grind)).1;unfold H4;grind
   ·exact h2 p hp htp
  ·rw[Qo.1 hp,(ZR t c).2];exact Ql
 ·cases st with
  |nil=>trivial
  |
   cons a r =>
   have key:∀l:List α,Edg (λb a=>∀p∈P,0≤H4 X Y a b p) l->Edg (λb a=>0<H4 X Y a b c) l->Edg (λb a=>∀p∈P++[c],0≤H4 X Y a b p) l:=by
    intro l
    induction l with
    |nil=>intros;trivial
    |
     cons x l ih =>
     cases l with
     |nil=>intros;trivial
     |
      cons y l =>
      intro k1 k2;refine⟨λp hp=>?_,ih k1.2 k2.2⟩;rcases Qr.1 hp with hp|hp
      ·exact k1.1 p hp
      ·rw[Qo.1 hp];exact Qm k2.1
   exact key _ h.edg hf
 ·cases st with
  |nil=>trivial
  |cons a r=>exact⟨h3 a r rfl,h.cnv⟩
theorem qI{s:α->α->α->Bool}{row:List α}(hs:∀a∈row,∀b∈row,∀c∈row,(s a b c=true↔0<H4 X Y a b c))(hrow:row.Pairwise (lx X Y)) :
 ∀(l P:List α) (t:α) (st:List α),row=P++l->Stk X Y P (t::st)->P.getLast? = some t->(t::st).getLast? = P.head? ->
 ∃t' st',YG s (t::st) l=t'::st'/\Stk X Y row (t'::st')/\row.getLast? = some t'/\(t'::st').getLast? = row.head?
 |
  [],P,t,st,e,h,h1,h2=>by
  rw[Xg]at e;subst e;exact⟨t,st,rfl,h,h1,h2⟩
 |
  c::l,P,t,st,e,h,h1,h2=>by
  have hPm:∀p∈P,p∈row:=λp hp=>by rw[e];exact Xv _ hp
  have hcm:c∈row:=by rw[e];simp
  have hpw:=hrow;rw[e]at hpw;obtain⟨w1,w2,w3⟩:=Zv.1 hpw;have hc:∀p∈P,lx X Y p c:=λp hp=>w3 p hp c (by simp)
  have htop:∀p∈P,p=t\/lx X Y p t:=λp hp=>by
   obtain⟨P1,rfl⟩:∃P1,P=P1++[t]:=by
    have:=List.getLast?_eq_some_iff.1 h1;exact this
   rcases Qr.1 hp with hp|hp
   ·exact .inr ((Zv.1 w1).2.2 p hp t (by simp))
   ·exact .inl (Qo.1 hp)
  obtain⟨t',st',g1,g2,g3,g4,g5⟩:=Qkv (λa ha b hb=>hs a (hPm a ha) b (hPm b hb) c hcm) hc st t h λp hp htp=>by
   rcases htop p hp with rfl|h'
   ·exact absurd htp (Dv _)
   ·exact absurd (sP htp h') (Dv _)
  have tot:∀p∈P,p=t'\/lx X Y p t'\/lx X Y t' p:=λp hp=>by
   obtain⟨i,hi,rfl⟩:=Vd.1 hp;obtain⟨j,hj,e2⟩:=Vd.1 (g2.mem t' (by simp));rcases J0 i j with h'|h'|h'
   ·exact .inr (.inl (by rw[<-e2];exact Xh.1 w1 i j hi hj h'))
   ·subst h';exact .inl e2
   ·exact .inr (.inr (by rw[<-e2];exact Xh.1 w1 j i hj hi h'))
  have hPne:P≠[]:=λh'=>by rw[h']at h1;cases h1
  have hb:∀p∈P,(t'::st').getLast? = some p\/∃b,(t'::st').getLast? = some b/\lx X Y b p:=λp hp=>by
   rw[g5,h2];cases P with
   |nil=>exact absurd rfl hPne
   |
    cons f P' =>
    rcases Qj.1 hp with rfl|hp
    ·exact .inl rfl
    ·exact .inr ⟨f,rfl,(Q5.1 w1).1 p hp⟩
  have hpush:=Qqj g2 hc tot hb g3 g4;obtain⟨t2,st2,k1,k2,k3,k4⟩:=qI hs hrow l (P++[c]) c (t'::st') (by rw[e];simp) hpush (by simp) (by
   rw[Wn,g5,h2];cases P with
   |nil=>exact absurd rfl hPne
   |cons f P'=>rfl)
  exact⟨t2,st2,by simp only[YG];rw[g1];exact k1,k2,k3,k4⟩
end
end Orq
namespace Orr
open Go
structure RawInt where
 b:Bool
 l:List Nat
structure RawPt where
 x:List RawInt
 y:List RawInt
 d:RawInt
 id:Int
abbrev MY(z:RawInt):Fy:=[.bool z.b,Qv5 z.l]
structure RawInt.Ok(z:RawInt):Prop where
 u:∀u∈z.l,u<4294967296
structure RawPt.Ok(z:RawPt):Prop where
 x:∀a∈z.x,a.Ok
 y:∀a∈z.y,a.Ok
 d:z.d.Ok
 id:-9223372036854775808<=z.id/\z.id<=9223372036854775807
def RawInt.cut(z:RawInt):RawInt:=⟨z.b,z.l.take 1⟩
def P0(most:Int)(z:RawInt):Int:=match z.l with
 | []=>0
 |u::_=>if z.b=true then -((u:Int) % (most+1))else(u:Int) % (most+1)
theorem UL{most:Int}(h:0<=most)(z:RawInt):-most<=P0 most z/\P0 most z<=most:=by
 unfold P0
 split
 ·omega
 ·rename_i u _ _;have h1:=K8 (u:Int) (b:=most+1) (by omega);have h2:=V7 (u:Int) (b:=most+1) (by omega)
  split <;> omega
def Tu(most:Int)(l:List RawInt):Ft:=(l.take 3).map (P0 most)
def HH(most:Int)(x y:List RawInt)(d:RawInt):Crv:=⟨Tu most x,Tu most y,P0 3 d⟩
def KB(most:Int)(z:RawPt):Pt:=⟨HH most z.x z.y z.d,z.id % 1000⟩
theorem NW(most:Int)(l:List RawInt):(Tu most l).length<=3:=by unfold Tu;rw[List.length_map,List.length_take];omega
theorem kT{most:Int}{l:List RawInt}{i:Nat}{z:RawInt}(hi:i<3)(h:l[i]? = some z):Tu most (l.take (i+1))=Tu most (l.take i)++[P0 most z]:=by
 unfold Tu;rw[List.take_take,List.take_take,Ku (by omega),Ku (by omega),X6,h];simp
theorem NK(most:Int){l:List RawInt}{i:Nat}(h:l.length<=i\/3<=i):Tu most (l.take i)=Tu most l:=by
 unfold Tu;rw[List.take_take];rcases Nat.le_total 3 i with h3|h3
 ·rw[Z8 h3]
 ·rcases h with h|h
  ·rw[Ku h3,Qp (l:=l) (i:=i) (by omega),Qp (l:=l) (i:=3) (by omega)]
  ·rw[Ku h3,show i=3 by omega]
theorem NU{most:Int}{l:List RawInt}{z:Int}(hm:0<=most)(h:z∈Tu most l):-most<=z/\z<=most:=by
 obtain⟨a,_,rfl⟩:=Zd.1 h;exact UL hm a
theorem zW{most:Int}(hm:0<=most/\most<=999)(x y:List RawInt)(d:RawInt):Cs 10 3 (HH most x y d):=by
 have key:∀z:Int,-999<=z/\z<=999->Gy z<=10:=λz h=>Pn.2 (by omega)
 refine⟨λz hz=>?_,λz hz=>?_,?_,NW _ _,NW _ _⟩
 ·have:=NU hm.1 hz;exact key _ (by omega)
 ·have:=NU hm.1 hz;exact key _ (by omega)
 ·have:=UL (most:=3) (by decide) d;show Gy (P0 3 d)<=10;exact key _ (by omega)
def Ng(n:Nat):List Pt->List Pt->List Pt
 |out,[]=>out
 |out,p::l=>if out.length<n then(if out.any (λx=>decide (x.id=p.id))=true then Ng n out l else Ng n (out++[p]) l)else out
theorem XA{n:Nat}:∀(l out:List Pt) (p:Pt),(Ng n out l).length<n->(Ng n out l).any (λx=>decide (x.id=p.id))=true->Ng n out (l++[p])=Ng n out l
 |
  [],out,p,h,ha=>by
  simp only[Ng]at h ha;show Ng n out [p]=out;simp only[Ng];rw[if_pos h,if_pos ha]
 |
  x::l,out,p,h,ha=>by
  show Ng n out (x::(l++[p]))=Ng n out (x::l);simp only[Ng]at h ha ⊢
  split
  ·rename_i h0;rw[if_pos h0]at h ha
   split
   ·rename_i h1;rw[if_pos h1]at h ha;exact XA l out p h ha
   ·rename_i h1;rw[if_neg h1]at h ha;exact XA l _ p h ha
  ·rfl
theorem O3{n:Nat}:∀(l out:List Pt) (p:Pt),(Ng n out l).length<n->(Ng n out l).any (λx=>decide (x.id=p.id))=false->Ng n out (l++[p])=Ng n out l++[p]
 |
  [],out,p,h,ha=>by
  simp only[Ng]at h ha;show Ng n out [p]=out++[p];simp only[Ng];rw[if_pos h,if_neg (by rw[ha];simp)]
 |
  x::l,out,p,h,ha=>by
  show Ng n out (x::(l++[p]))=Ng n out (x::l)++[p];simp only[Ng]at h ha ⊢
  split
  ·rename_i h0;rw[if_pos h0]at h ha
   split
   ·rename_i h1;rw[if_pos h1]at h ha;exact O3 l out p h ha
   ·rename_i h1;rw[if_neg h1]at h ha;exact O3 l _ p h ha
  ·rename_i h0;rw[if_neg h0]at h;omega
theorem PX{n:Nat}:∀(l m out:List Pt),n<=(Ng n out l).length->Ng n out (l++m)=Ng n out l
 |
  [],m,out,h=>by
  simp only[Ng]at h;show Ng n out m=out
  match m with
  | []=>rfl
  |p::m=>simp only[Ng];rw[if_neg (by omega)]
 |
  x::l,m,out,h=>by
  show Ng n out (x::(l++m))=Ng n out (x::l);simp only[Ng]at h ⊢
  split
  ·rename_i h0;rw[if_pos h0]at h
   split
   ·rename_i h1;rw[if_pos h1]at h;exact PX l m out h
   ·rename_i h1;rw[if_neg h1]at h;exact PX l m _ h
  ·rfl
theorem GO{n:Nat}:∀(l out:List Pt),out.length<=n->(Ng n out l).length<=n
 | [],out,h=>h
 |
  x::l,out,h=>by
  simp only[Ng]
  split
  ·split
   ·exact GO l out h
   ·exact GO l _ (by rw[Q6];show _+1<=_;omega)
  ·exact h
theorem AX{n:Nat}:∀(l out:List Pt) {p:Pt},p∈Ng n out l->p∈out\/p∈l
 | [],out,p,h=>.inl h
 |
  x::l,out,p,h=>by
  simp only[Ng]at h
  split at h
  ·split at h
   ·rcases AX l out h with h|h
    ·exact .inl h
    ·exact .inr (Qi _ h)
   ·rcases AX l _ h with h|h
    ·rcases Qr.1 h with h|h
     ·exact .inl h
     ·exact .inr (by rw[Qo.1 h];exact Qw ..)
    ·exact .inr (Qi _ h)
  ·exact .inl h
def OX(n:Nat)(most:Int)(zs:List RawPt):List Pt:=Ng n [] (zs.map (KB most))
def Pt.nrm(p:Pt):Pt:=⟨p.c.norm,p.id⟩
end Orr
namespace Orr
def Mj(l:List Pt):Prop:=l.Pairwise λa b=>a.id<b.id
end Orr
namespace Orr
open Go
section
variable{α:Type}{lt:α->α->Bool}
theorem Qef(out:List α)(c:α):(Cq lt out c).Perm (c::out):=by
 unfold Cq;exact(List.perm_middle).trans (by rw[Zh])
theorem EO:∀(l acc:List α),(l.foldl (Cq lt) acc).Perm (l++acc)
 | [],acc=>List.Perm.refl _
 |
  c::l,acc=>by
  simp only[Z0];exact(EO l _).trans (((Qef acc c).append_left l).trans List.perm_middle)
theorem OH(l:List α):(He lt l).Perm l:=by
 have:=EO (lt:=lt) l [];rwa[Xg]at this
end
def Td(a b:Pt):Bool:=decide (a.id<b.id)
def Pt.m5(p:Pt):Pt:=⟨p.c,p.id % 5⟩
def If(l:List Pt):Prop:=l.Pairwise λa b=>a.id≠b.id
def Qzk(p:Pt):Prop:=Cs 10 3 p.c
theorem Qek{n:Nat}{most:Int}(hm:0≤most/\most≤999){l:List RawPt}:∀p∈OX n most l,Qzk p:=λp hp=>by
 rcases AX _ _ hp with h|h
 ·cases h
 ·obtain⟨z,_,rfl⟩:=Zd.1 h;exact zW hm _ _ _
theorem WY:∀{l m:List Pt},Mj l->Mj m->(∀x,x∈l↔x∈m)->l=m
 | [],[],_,_,_=>rfl
 | [],b::m,_,_,h=>absurd ((h b).2 (Qw ..)) (by simp)
 |a::l,[],_,_,h=>absurd ((h a).1 (Qw ..)) (by simp)
 |
  a::l,b::m,h1,h2,h=>by
  have h1':=Q5.1 h1;have h2':=Q5.1 h2;have hab:a=b:=by
   rcases Qj.1 ((h a).1 (Qw ..))with e|e
   ·exact e
   ·rcases Qj.1 ((h b).2 (Qw ..))with e2|e2
    ·exact e2.symm
    ·have:=h2'.1 a e;have:=h1'.1 b e2;omega
  subst hab;congr 1;refine WY h1'.2 h2'.2 λx=>⟨λhx=>?_,λhx=>?_⟩
  ·rcases Qj.1 ((h x).1 (Qi _ hx))with e|e
   ·have:=h1'.1 x hx;rw[e]at this;omega
   ·exact e
  ·rcases Qj.1 ((h x).2 (Qi _ hx))with e|e
   ·have:=h2'.1 x hx;rw[e]at this;omega
   ·exact e
theorem A0{l:List Pt}(h:If l):Mj (He Td l) :=
 Orq.foldG_pw (R:=λa b:Pt=>a.id<b.id) (S:=λ_=>True) (D:=λa b:Pt=>a.id≠b.id) (λx y z h1 h2=>Int.lt_trans h1 h2) (λx y _ _ h=>of_decide_eq_true h) (λx y _ _ h1 h=>by have:=of_decide_eq_false h;omega) l [] .nil (λx hx=>by cases hx) (λ_ _=>trivial) h (λx hx=>by cases hx)
end Orr
namespace Orr
open Go
theorem Qi4(c:Int)(l:Ft):Tx (l.map (· * c))=Tx l*c.natAbs:=by
 have key:∀(l:Ft) (g:Nat),(l.map (· * c)).foldl (λg z=>Nat.gcd g z.natAbs) (g*c.natAbs)=l.foldl (λg z=>Nat.gcd g z.natAbs) g*c.natAbs:=by
  intro l
  induction l with
  |nil=>intro g;rfl
  |
   cons z l ih =>
   intro g;simp only[Zx,Z0,Yd,Uu];exact ih _
 have:=key l 0;rwa[Yc]at this
end Orr
namespace Orr
def Ts(a b:Crv):Ft:=Mt (Gq (Hi a b) (Hi a b)) (Gq (Hh a b) (Hh a b))
def H8(a b c d:Crv):Ft:=Ma (Gs (Ts c d) ((a.d*b.d)*(a.d*b.d))) (Gs (Ts a b) ((c.d*d.d)*(c.d*d.d)))
theorem pF{a b:Crv}(ha:Cb a)(hb:Cb b):Gh (Ts a b)/\(Ts a b).length<=31/\Bd 4194312 (Ts a b):=by
 obtain⟨_,l1,b1⟩:=pG ha hb;obtain⟨_,l2,b2⟩:=pU ha hb;have m1:=Te (Hi a b) (Hi a b);have m2:=Te (Hh a b) (Hh a b);have q1:=Si (u:=5) b1 b1 (by omega);have q2:=Si (u:=5) b2 b2 (by omega);refine⟨Gk _ _,?_,Gd (Oa q1 q2) (by omega)⟩;have:=E5 (Gq (Hi a b) (Hi a b)) (Gq (Hh a b) (Hh a b));unfold Ts;omega
theorem dM{a b:Crv}(ha:Cb a)(hb:Cb b):Gy (a.d*b.d)<=2097152:=by
 have:=Ho a.d b.d;have:=ha.d;have:=hb.d;omega
theorem Qbc{a b:Crv}(ha:Cb a)(hb:Cb b):Gy ((a.d*b.d)*(a.d*b.d))<=4194304:=by
 have:=Ho (a.d*b.d) (a.d*b.d);have:=dM ha hb;omega
def Qu2(sg:Ft->Int)(a b c d:Pt):Ct:=⟨5,a.id,b.id,c.id,d.id,H8 a.c b.c c.c d.c,Hk sg (H8 a.c b.c c.c d.c)⟩
def Tr:Nat->List Pt->List (Pt×Pt)
 | 0,_=>[]
 |_+1,[]=>[]
 |k+1,x::l=>l.map (λy=>(x,y))++Tr k l
def H5(l:List Pt):List (Pt×Pt):=Tr l.length l
theorem E6:∀(l:List Pt) (i:Nat) (x:Pt),l[i]? = some x->Tr (i+1) l=Tr i l++(l.drop (i+1)).map (λy=>(x,y))
 | [],i,x,h=>by simp at h
 |
  y::l,0,x,h=>by
  simp at h;subst h;simp[Tr]
 |
  y::l,i+1,x,h=>by
  have h:l[i]? = some x:=by simpa using h
  have ih:=E6 l i x h;show l.map (λz=>(y,z))++Tr (i+1) l=(l.map (λz=>(y,z))++Tr i l)++_;rw[ih,Zj];rfl
theorem En:∀(k:Nat) (l:List Pt),∀m∈Tr k l,m.1∈l/\m.2∈l
 | 0,l,m,h=>by simp[Tr]at h
 |k+1,[],m,h=>by simp[Tr]at h
 |
  k+1,x::l,m,h=>by
  rcases Qr.1 h with h|h
  ·obtain⟨y,hy,rfl⟩:=Zd.1 h;exact⟨Qw ..,Qi _ hy⟩
  ·obtain⟨h1,h2⟩:=En k l m h;exact⟨Qi _ h1,Qi _ h2⟩
def Nv(sg:Ft->Int)(s m:Pt×Pt):Pt×Pt:=if Hk sg (H8 s.1.c s.2.c m.1.c m.2.c)<0 then m else s
def Ta(sg:Ft->Int)(s:Pt×Pt)(ps:List (Pt×Pt)):Pt×Pt:=ps.foldl (Nv sg) s
theorem KC(sg:Ft->Int)(s m:Pt×Pt):Nv sg s m=m\/Nv sg s m=s:=by
 unfold Nv
 split
 ·exact .inl rfl
 ·exact .inr rfl
theorem Av(sg:Ft->Int)(s m:Pt×Pt)(ps:List (Pt×Pt)):Ta sg s (m::ps)=Ta sg (Nv sg s m) ps:=by unfold Ta;rw[List.foldl_cons]
theorem kA(sg:Ft->Int)(s:Pt×Pt)(ps:List (Pt×Pt))(m:Pt×Pt):Ta sg s (ps++[m])=Nv sg (Ta sg s ps) m:=by simp[Ta]
theorem NG(sg:Ft->Int){l:List Pt}:∀(ps:List (Pt×Pt)) (s:Pt×Pt),s.1∈l/\s.2∈l->(∀m∈ps,m.1∈l/\m.2∈l)->(Ta sg s ps).1∈l/\(Ta sg s ps).2∈l
 | [],s,hs,_=>hs
 |
  m::ps,s,hs,h=>by
  have hn:(Nv sg s m).1∈l/\(Nv sg s m).2∈l:=by
   rcases KC sg s m with e|e
   ·rw[e];exact h m (Qw ..)
   ·rw[e];exact hs
  rw[Av];exact NG sg ps (Nv sg s m) hn λx hx=>h x (Qi _ hx)
def Qxy(s m:Pt×Pt):Bool:=decide (m.1.id≠s.1.id) || decide (m.2.id≠s.2.id)
def Qxd(sg:Ft->Int)(s:Pt×Pt)(ps:List (Pt×Pt)):List Ct:=(ps.filter (Qxy s)).map λm=>Qu2 sg s.1 s.2 m.1 m.2
def UZ(sg:Ft->Int):List Pt->List Pt
 |a::b::l=>[(Ta sg (a,b) (H5 (a::b::l))).1,(Ta sg (a,b) (H5 (a::b::l))).2]
 |_=>[]
def Qx5(sg:Ft->Int):List Pt->List Ct
 |a::b::l=>Qxd sg (Ta sg (a,b) (H5 (a::b::l))) (H5 (a::b::l))
 |_=>[]
def On(l:List Fu):Fz:=l.map λr=>[.row (r.map λp=>[pl p])]
abbrev VP(r:Fu):Fz:=r.map λp=>[pl p]
theorem KO(l:List Fu):(On l).length=l.length:=by simp[On]
def VK(i:Nat)(rows:List Fu):Nat->List Fu
 | 0=>[]
 |j+1=>if j=i then VK i rows j else VK i rows j++[(rows.getD j []).drop 1]
def VV(rows:List Fu)(i:Nat):List Fu:=VK i rows rows.length
def Lh(f:Nat->Ft)(rows:List Fu):Nat->Ft
 | 0=>[]
 |
  i+1=>if ((rows.getD i []).getD 0 []).length=0 then Lh f rows i else
  if i % 2=0 then Mt (Lh f rows i) (Gq ((rows.getD i []).getD 0 []) (f i))else Ma (Lh f rows i) (Gq ((rows.getD i []).getD 0 []) (f i))
def Cv:Nat->List Fu->Ft
 | 0,_=>[1]
 |k+1,rows=>Lh (λi=>Cv k (VV rows i)) rows (k+1)
structure Sq(s:Nat)(ds:List Nat)(k w:Nat)(rows:List (List (List Int))):Prop where
 l:rows.length=k
 w:∀r∈rows,r.length=w
 t:∀r∈rows,∀p∈r,Gh p
 b:∀r∈rows,∀p∈r,Bd s p
 n:∀r∈rows,∀(j:Nat) (p:List Int),r[j]? = some p->p.length≤ds.getD j 0+1
theorem IJ{i:Nat}{rows:List Fu}:∀{j:Nat} {r:Fu},j≤rows.length->r∈VK i rows j->∃q∈rows,r=q.drop 1
 | 0,r,_,h=>by simp[VK]at h
 |
  j+1,r,hj,h=>by
  simp only[VK]at h
  split at h
  ·exact IJ (by omega) h
  ·rcases Qr.1 h with h|h
   ·exact IJ (by omega) h
   ·rw[Qo.1 h];exact⟨rows.getD j [],Qa (i:=j) (by rw[Qc,Qg (by omega)];rfl),rfl⟩
theorem IX{i:Nat}{rows:List Fu}:∀(j:Nat),(VK i rows j).length=if i<j then j-1 else j
 | 0=>rfl
 |
  j+1=>by
  have ih:=IX (i:=i) (rows:=rows) j;simp only[VK]
  split
  ·rename_i e;subst e;rw[ih,if_neg (by omega),if_pos (by omega)];omega
  ·rw[Q6,ih,X5]
   split <;> split <;> omega
theorem Sq.min{s d k w:Nat}{ds:Fv}{rows:List Fu}(h:Sq s (d::ds) (k+1) (w+1) rows){i:Nat}(hi:i<k+1):Sq s ds k w (VV rows i):=by
 have hl:=h.l;have hm:∀{r:Fu},r∈VV rows i->∃q∈rows,r=q.drop 1:=λh=>IJ (Qn _) h
 refine⟨by unfold VV;rw[IX,hl,if_pos hi];omega,λr hr=>?_,λr hr p hp=>?_,λr hr p hp=>?_,λr hr j p hp=>?_⟩
 ·obtain⟨q,hq,rfl⟩:=hm hr;rw[Xz,h.w q hq];omega
 all_goals obtain⟨q,hq,rfl⟩:=hm hr
 ·exact h.t q hq p (Q9 hp)
 ·exact h.b q hq p (Q9 hp)
 ·rw[Xi]at hp;have:=h.n q hq (1+j) p hp;rw[Yl 1 j]at this;exact this
theorem Sq.at{s d k w:Nat}{ds:Fv}{rows:List Fu}(h:Sq s (d::ds) k (w+1) rows){i:Nat}(hi:i<k):∃p r,rows[i]? = some (p::r)/\(rows.getD i []).getD 0 []=p/\Gh p/\Bd s p/\p.length<=d+1:=by
 obtain⟨r,hr⟩:=gxE (l:=rows) (i:=i) (by rw[h.l];exact hi);have hm:=Qa hr;cases r with
 |nil=>have:=h.w _ hm;simp at this
 |
  cons p r =>
  have e:rows.getD i []=p::r:=by rw[Qc,hr];rfl
  refine⟨p,r,hr,by rw[e];rfl,h.t _ hm p (by simp),h.b _ hm p (by simp),h.n _ hm 0 p rfl⟩
theorem vM{s d k w:Nat}{ds:Fv}{f:Nat->Ft}{rows:List Fu}{B L:Nat}(h:Sq s (d::ds) k (w+1) rows)(hn:d<31)(hf:∀i,i<k->Bd B (f i)/\(f i).length<=L+1):∀i,i<=k->Gh (Lh f rows i)/\Bd (s+B+5+i) (Lh f rows i)/\(Lh f rows i).length<=d+L+1
 | 0,_=>⟨rfl,λz hz=>(by cases hz),Qh _⟩
 |
  i+1,hi=>by
  obtain⟨h1,h2,h3⟩:=vM h hn hf i (by omega);obtain⟨p,r,_,e,t,b,l⟩:=h.at (i:=i) (by omega);obtain⟨f1,f2⟩:=hf i (by omega);have hp1:Bd (s+B+5) (Gq p (f i)):=Si b f1 (by omega);have hp2:=Te p (f i);simp only[Lh];rw[e]
  split
  ·exact⟨h1,Gd h2 (by omega),h3⟩
  ·split
   ·exact⟨Gk _ _,Gd (Oa h2 hp1) (by omega),Qe (E5 _ _) (by omega)⟩
   ·exact⟨Gk _ _,Gd (Dh h2 hp1) (by omega),Qe (Mm _ _) (by omega)⟩
theorem CP{s:Nat}:∀(k:Nat) (ds:Fv) (rows:List Fu),k<=4->ds.length=k->ds.sum<31->Sq s ds k k rows->Gh (Cv k rows)/\Bd (k*(s+10)+1) (Cv k rows)/\(Cv k rows).length<=ds.sum+1
 | 0,ds,rows,_,_,_,_=>⟨rfl,λz hz=>(by simp[Cv]at hz;subst hz;rw[Yc];decide),by simp[Cv]⟩
 |k+1,[],rows,_,hl,_,_=>by simp at hl
 |
  k+1,d::ds,rows,hk,hl,hd,h=>by
  rw[Ky]at hd;have ih:=λi (hi:i<k+1)=>CP k ds (VV rows i) (by omega) (by simpa using hl) (by omega) (h.min hi)
  obtain⟨h1,h2,h3⟩:=vM (f:=λi=>Cv k (VV rows i)) (B:=k*(s+10)+1) (L:=ds.sum) h (by omega) (λi hi=>⟨(ih i hi).2.1,(ih i hi).2.2⟩) (k+1) (Qn _);have e1:(k+1)*(s+10)=k*(s+10)+(s+10):=Xq ..;rw[Ky];exact⟨h1,Gd h2 (by omega),h3⟩
def Ol(a b c:Crv):List Fu:=[[a.x,a.y,[a.d]],[b.x,b.y,[b.d]],[c.x,c.y,[c.d]]]
def G8(a b c:Crv):Ft:=Cv 3 (Ol a b c)
end Orr
namespace Orr
open Go Go.Proofs Tryz Orq
set_option maxRecDepth 10000
theorem gz{P:Program}[Mo P]{n:Nat}{Q:Exit->Sg->Ga->Prop}{L L':Sg}{B B':Ga}(i:Nat){it:List It}(hs:Mb it=true)(h:Qev [i] L B=some (L',B'))(k:AK P n Q it L' B'):AK P n Q it L B:=AK.sub (RV h) hs k
theorem OY{r:Fu}{i:Nat}{p:Ft}(h:r[i]? = some p):(VP r)[i]? = some [pl p]:=Tk h
theorem Ia{l:List Fu}{i:Nat}{r:Fu}(h:l[i]? = some r):(On l)[i]? = some [.row (VP r)]:=Tk h
theorem Qgi{r:Fu}(ht:∀p∈r,Gh p)(hb:∀p∈r,Bd 1000000 p)(hl:∀p∈r,p.length≤1000000)(hn:r.length≤1000):Fo 280 [.one (.row (VP r))] [.one (.row (VP r))]:=by
 have hrl:(VP r).length=r.length:=by simp
 refine Sk func280 rfl ?_;refine Ff [.o 3 52 1] rfl ?_;refine Fl (S:=Nat) 1 (λL1 i=>(8,.v (.oi i))::(3,.v (.one (.orow 0 1 none)))::L1) (λi=>[.row false 52 1 (VP (r.take i))]) (λi=>r.length-i) (λi=>i<=r.length) 0 (Qh _) rfl rfl λi hi=>?_
 by_cases h:i<r.length
 ·obtain⟨p,hp⟩:=gxE (l:=r) (i:=i) h;have hm:=Qa hp;have hs:∀y∈[[pl p]],y.length=1:=λy hy=>by rw[Qo.1 hy];rfl
  have e:VP (r.take (i+1))=VP (r.take i)++[[pl p]]:=by rw[X6,hp];simp
  refine go tt [.T,.x (OY hp),.k (Ml (ht p hm) (by have:=hl p hm;omega) (Gd (hb p hm) (by decide))),.s (sz:=1) hs] rfl (by simp[Ge] <;> omega) ?_;exact rd (i+1) (by omega) h (by rw[e];rfl)
 ·obtain rfl:i=r.length:=by omega
  rw[Za];exact Fh [.F] rfl
theorem Qw7{s k w:Nat}{ds:Fv}{rows:List Fu}(h:Sq s ds k k rows)(_hw:w=k)(hk:k<=4):Fo 355 [.one (.row (On rows))] [.one (.bool true)]:=by
 have hrl:=KO rows;have hl:=h.l;refine Sk func355 rfl ?_;refine Ff [] rfl ?_;refine Fl (S:=Nat) 0 (λL1 i=>(7,.v (.oi i))::L1) (λ_=>[]) (λi=>rows.length-i) (λi=>i<=rows.length) 0 (Qh _) rfl rfl λi hi=>?_
 by_cases hlt:i<rows.length
 ·obtain⟨r,hr⟩:=gxE (l:=rows) (i:=i) hlt;have hw:=h.w r (Qa hr);have hql:(VP r).length=r.length:=by simp
  refine go tt [.T,.x (Ia hr),.f (decide_eq_false (λh=>h (by omega)))] rfl (by simp[Ge] <;> omega) ?_;exact rd (i+1) (by omega) hlt rfl
 ·exact Fh [.F] rfl (by rw[decide_eq_true (by omega:((On rows).length:Int)<=4)]) trivial
theorem Qob{s k w:Nat}{ds:Fv}{rows:List Fu}(h:Sq s ds k w rows)(hs:s<=1000000)(hk:k<=4)(hw:w<=4)(hd:∀j,ds.getD j 0<=1000)(i:Nat):Fo 387 [.oi i,.oi 0,.one (.row (On rows))] [.one (.row (On (VV rows i)))]:=by
 have hrl:=KO rows;have hl:=h.l;have hml:∀j,j<=rows.length->(On (VK i rows j)).length<=4:=λj hj=>by
  rw[KO,IX];split <;> omega
 refine Sk func387 rfl ?_;refine Ff [.o 7 335 1] rfl ?_;refine Fl (S:=Nat) 1 (λL1 j=>(15,.v (.oi j))::(7,.v (.one (.orow 0 1 none)))::L1) (λj=>[.row false 335 1 (On (VK i rows j))]) (λj=>rows.length-j) (λj=>j<=rows.length) 0 (Qh _) rfl rfl λj hj=>?_
 have hmlj:=hml j hj;by_cases hlt:j<rows.length
 ·obtain⟨r,hr⟩:=gxE (l:=rows) (i:=j) hlt;have hm:=Qa hr;have hw:=h.w r hm;have hql:(VP r).length=r.length:=by simp
  by_cases hij:j=i
  ·have e:VK i rows (j+1)=VK i rows j:=by simp only[VK];rw[if_pos hij]
   refine go tt [.T,.x (Ia hr),.T] rfl (by simp[Ge] <;> omega) ?_;exact rd (j+1) (by omega) hlt (by rw[e];rfl)
  ·have e:VK i rows (j+1)=VK i rows j++[r.drop 1]:=by
    simp only[VK];rw[if_neg hij,Qc,hr];rfl
   refine Ff [.T,.x (Ia hr),.F,.o 10 52 1] rfl ?_ (by simp[Ge]);refine Fl (S:=Nat) 2 (λL1 c=>(25,.v (.oi c))::(10,.v (.one (.orow 1 1 none)))::L1) (λc=>[.row false 335 1 (On (VK i rows j)),.row false 52 1 (VP ((r.take c).drop 1))]) (λc=>r.length-c) (λc=>c<=r.length) 0 (Qh _) rfl rfl λc hc=>?_
   by_cases hcl:c<r.length
   ·obtain⟨p,hp⟩:=gxE (l:=r) (i:=c) hcl;have hpm:=Qa hp;by_cases h0:c=0
    ·subst h0;refine Ff [.T,.x (OY hp),.f (decide_eq_false (by simp))] rfl ?_ (by simp[Ge]);exact rd 1 (by omega) hcl (by rw[X6,hp];rfl)
    ·have hs1:∀y∈[[pl p]],y.length=1:=λy hy=>by rw[Qo.1 hy];rfl
     have e2:VP ((r.take (c+1)).drop 1)=VP ((r.take c).drop 1)++[[pl p]]:=by
      rw[X6,hp,Ke (by rw[Qz];omega)];simp
     refine go tt [.T,.x (OY hp),.T,.k (Ml (h.t r hm p hpm) (by have:=h.n r hm c p hp;have:=hd c;omega) (Gd (h.b r hm p hpm) (by omega))),.s (sz:=1) hs1] rfl (by simp[Ge] <;> omega) ?_;exact rd (c+1) (by omega) hcl (by rw[e2];rfl)
   ·obtain rfl:c=r.length:=by omega
    rw[Za];have hs1:∀y∈[[LV.row (VP (r.drop 1))]],y.length=1:=λy hy=>by rw[Qo.1 hy];rfl
    refine Ff [.F] rfl ?_;refine gz 1 rfl rfl ?_;refine go tt [.s (sz:=1) hs1] rfl (by simp[Ge] <;> omega) ?_;exact rd (j+1) (by omega) hlt (by rw[e];simp[On];rfl)
 ·obtain rfl:j=rows.length:=by omega
  exact Fh [.F] rfl
theorem NQ:∀(ds:Fv) (j:Nat),ds.getD j 0<=ds.sum
 | [],j=>by simp
 |d::ds,0=>by simp
 |
  d::ds,j+1=>by
  have:=NQ ds j;rw[Ky];show ds.getD j 0<=_;omega
theorem Qsc{s:Nat}(hs:s<=100000):∀(k:Nat) (ds:Fv) (rows:List Fu),k<=4->ds.length=k->ds.sum<31->Sq s ds k k rows->Fo 356 [.one (.row (On rows))] [pr (Cv k rows)]
 |
  0,ds,rows,_,_,_,h=>by
  have e:=Qf h.l;subst e;have co:=Qw1 (p:=[1]) (by decide) (by decide);exact Fi func356 rfl [.t rfl,.k co] rfl
 |k+1,[],_,_,hl,_,_=>by simp at hl
 |
  k+1,d::ds,rows,hk,hl,hd,h=>by
  rw[Ky]at hd;have hl':ds.length=k:=by simpa using hl
  have hrl:=KO rows;have hrn:=h.l;have hmin:=λi (hi:i<k+1)=>h.min hi
  have ih:=λi (hi:i<k+1)=>Qsc hs k ds (VV rows i) (by omega) hl' (by omega) (hmin i hi)
  have hok:=λi (hi:i<k+1)=>CP k ds (VV rows i) (by omega) hl' (by omega) (hmin i hi)
  have hb:k*(s+10)+1<=500000:=by
   have:k*(s+10)<=4*(100010):=Xl (by omega) (by omega);omega
  have hds:=vM (f:=λi=>Cv k (VV rows i)) (B:=k*(s+10)+1) (L:=ds.sum) h (by omega) (λi hi=>⟨(hok i hi).2.1,(hok i hi).2.2⟩);have cm:=Qob h (by omega) hk hk (λj=>by have:=NQ (d::ds) j;rw[Ky]at this;omega);show Fo 356 [.one (.row (On rows))] [pr (Lh (λi=>Cv k (VV rows i)) rows (k+1))];obtain⟨f,hf⟩:=nmE (λi=>Cv k (VV rows i));rw[<-hf]at hds ⊢;have hfi:∀i,f i=Cv k (VV rows i):=λi=>by rw[hf]
  refine Sk func356 rfl ?_;refine Ff [.F,.z 3] rfl ?_;refine Fl (S:=Nat) 0 (λL1 i=>(14,.v (.oi i))::(3,.v (pr (Lh f rows i)))::L1) (λ_=>[]) (λi=>k+1-i) (λi=>i<=k+1) 0 (Qh _) rfl rfl λi hi=>?_
  obtain⟨d1,d2,d3⟩:=hds i hi;by_cases hlt:i<k+1
  ·obtain⟨p,r,hr,e,t,b,l⟩:=h.at hlt;have hx0:(VP (p::r))[0]? = some [pl p]:=rfl;have Ee:(p.map Sj).length=p.length:=by simp
   have cn:=Ml t (by omega) (Gd b (by omega));by_cases h0:p.length=0
   ·have es:Lh f rows (i+1)=Lh f rows i:=by simp only[Lh];rw[e,if_pos h0]
    refine go tt [.T,.x (Ia hr),.x hx0,.k cn,.T] rfl (by simp[Ge] <;> omega) ?_;exact rd (i+1) (by omega) hlt (by rw[es];rfl)
   ·obtain⟨k1,k2,k3⟩:=hok i hlt;have ci:=ih i hlt;have cp:=LQ (p:=p) (q:=f i) t (by rw[hfi];exact k1) (by omega) (by rw[hfi];omega) b (by rw[hfi];exact k2) (by omega);have hmb:Bd (s+(k*(s+10)+1)+5) (Gq p (f i)):=Si b (by rw[hfi];exact k2) (by omega);have hml:=Te p (f i);have hfl:(f i).length<=ds.sum+1:=by rw[hfi];exact k3
    rw[<-hfi]at ci;by_cases h2:i % 2=0
    ·have es:Lh f rows (i+1)=Mt (Lh f rows i) (Gq p (f i)):=by simp only[Lh];rw[e,if_neg h0,if_pos h2]
     refine go tt [.T,.x (Ia hr),.x hx0,.k cn,.F,.x hx0,.k (cm i),.k ci,.k cp,.r 34 (eI (b:=((i % 2:Nat):Int)) rfl),.T,.k (yL (p:=Lh f rows i) (q:=Gq p (f i)) (by omega) (by omega) (Gd d2 (by omega)) (Gd hmb (by omega)))] rfl (by simp[Ge] <;> omega) ?_;exact rd (i+1) (by omega) hlt (by rw[es];rfl)
    ·have es:Lh f rows (i+1)=Ma (Lh f rows i) (Gq p (f i)):=by simp only[Lh];rw[e,if_neg h0,if_neg h2]
     refine go tt [.T,.x (Ia hr),.x hx0,.k cn,.F,.x hx0,.k (cm i),.k ci,.k cp,.r 34 (eI (b:=((i % 2:Nat):Int)) rfl),.F,.k (SX (p:=Lh f rows i) (q:=Gq p (f i)) (by omega) (by omega) (Gd d2 (by omega)) (Gd hmb (by omega)))] rfl (by simp[Ge] <;> omega) ?_;exact rd (i+1) (by omega) hlt (by rw[es];rfl)
  ·obtain rfl:i=k+1:=by omega
   exact Fh [.F] rfl
theorem Qr6{s:Nat}(hs:s<=100000){k:Nat}{ds:Fv}{rows:List Fu}(hk:k<=4)(hl:ds.length=k)(hd:ds.sum<31)(h:Sq s ds k k rows):Fo 281 [.one (.row (On rows))] [pr (Cv k rows),.oi 0] :=
 Fi func281 rfl [.k (Qw7 h rfl hk),.f rfl,.k (Qsc hs k ds rows hk hl hd h)] rfl
theorem mC{a b c:Crv}(ha:Sc a)(hb:Sc b)(hc:Sc c):Sq 128 [2,2,0] 3 3 (Ol a b c):=by
 have key:∀k:Crv,Sc k->(∀p∈[k.x,k.y,[k.d]],Gh p/\Bd 128 p)/\∀(j:Nat) (p:Ft),[k.x,k.y,[k.d]][j]? = some p->p.length≤[2,2,0].getD j 0+1:=λk hk=>by
  have h0:k.d≠0:=by have:=hk.n.2.2.1;omega
  have td:Gh [k.d]:=by unfold Gh;simp[trim,h0]
  refine⟨λp hp=>?_,λj p hp=>?_⟩
  ·rcases Qj.1 hp with rfl|hp
   ·exact⟨hk.n.1,hk.c.x⟩
   rcases Qj.1 hp with rfl|hp
   ·exact⟨hk.n.2.1,hk.c.y⟩
   ·rw[Qo.1 hp];exact⟨td,λz hz=>by rw[Qo.1 hz];exact hk.c.d⟩
  ·match j,hp with
   | 0,hp=>injection hp with hp;subst hp;exact hk.c.lx
   | 1,hp=>injection hp with hp;subst hp;exact hk.c.ly
   | 2,hp=>injection hp with hp;subst hp;exact Qn _
   |j+3,hp=>simp at hp
 have hr:∀r∈Ol a b c,∃k:Crv,Sc k/\r=[k.x,k.y,[k.d]]:=λr hr=>by
  rcases Qj.1 hr with rfl|hr
  ·exact⟨a,ha,rfl⟩
  rcases Qj.1 hr with rfl|hr
  ·exact⟨b,hb,rfl⟩
  ·rw[Qo.1 hr];exact⟨c,hc,rfl⟩
 refine⟨rfl,λr h=>?_,λr h p hp=>?_,λr h p hp=>?_,λr h j p hp=>?_⟩
 all_goals obtain⟨k,hk,rfl⟩:=hr r h
 ·rfl
 ·exact((key k hk).1 p hp).1
 ·exact((key k hk).1 p hp).2
 ·exact(key k hk).2 j p hp
theorem SK{a b c:Crv}(ha:Sc a)(hb:Sc b)(hc:Sc c):Cp (G8 a b c):=by
 obtain⟨h1,h2,h3⟩:=CP 3 [2,2,0] (Ol a b c) (by decide) rfl (by decide) (mC ha hb hc);exact⟨h1,Qe h3 (by decide),Gd h2 (by decide)⟩
end Orr
namespace Orq
open Orr Go
theorem nQ{p q:Ft}(tp:Gh p)(tq:Gh q)(h:∀i,p.getD i 0=q.getD i 0):p=q:=by
 have hl:∀{p q:Ft},Gh p->(∀i,p.getD i 0=q.getD i 0)->p.length<=q.length:=λ{p q} tp h=>by
  refine Nat.not_lt.1 λhn=>?_
  have h1:=Rz tp (by omega);rw[h,Qc,Qt (by omega)]at h1;exact h1 rfl
 have e:=Vq (hl tp h) (hl tq λi=>(h i).symm);refine List.ext_getElem e λi h1 h2=>?_
 have:=h i;rw[Qc,Qc,Qg h1,Qg h2]at this;exact this
theorem tO{p:Ft}(h:p=[])(i:Nat):p.getD i 0=0:=by rw[h];simp
theorem Ax(p:Ft)(c:Int)(i:Nat):(Gs p c).getD i 0=p.getD i 0*c:=by
 unfold Gs;rw[S5]
 split
 ·rfl
 ·rename_i h;rw[Qc,Qt (by omega)];simp
theorem OZ(p q:Ft)(i:Nat):(Ma p q).getD i 0=p.getD i 0-q.getD i 0:=by
 unfold Ma;rw[S5]
 split
 ·rfl
 ·rename_i h;rw[Qc,Qc,Qt (by omega),Qt (by omega)];simp
theorem Qb1{x y:Crv}(hx:UF x)(hy:UF y)(h1:Hi x y=[])(h2:Hh x y=[]):x=y:=by
 have e1:∀i,y.x.getD i 0*x.d=x.x.getD i 0*y.d:=λi=>by
  have:=tO h1 i;unfold Hi at this;rw[OZ,Ax,Ax]at this;omega
 have e2:∀i,y.y.getD i 0*x.d=x.y.getD i 0*y.d:=λi=>by
  have:=tO h2 i;unfold Hh at this;rw[OZ,Ax,Ax]at this;omega
 have key:∀{x y:Crv},UF x->UF y->(∀i,y.x.getD i 0*x.d=x.x.getD i 0*y.d)->(∀i,y.y.getD i 0*x.d=x.y.getD i 0*y.d)->x.d∣y.d:=λ{x y} hx hy e1 e2=>by
  have hd:=tG (d:=x.d) (l:=(x.d::(x.x++x.y)).map (· * y.d)) λz hz=>by
   obtain⟨w,hw,rfl⟩:=Zd.1 hz;rcases Qj.1 hw with rfl|hw
   ·exact Vu _ _
   ·rcases Qr.1 hw with hw|hw
    ·obtain⟨i,hi,rfl⟩:=Vd.1 hw;have:=e1 i;rw[show x.x.getD i 0=x.x[i] from by rw[Qc,Qg hi];rfl]at this;rw[<-this];exact Vz _ _
    ·obtain⟨i,hi,rfl⟩:=Vd.1 hw;have:=e2 i;rw[show x.y.getD i 0=x.y[i] from by rw[Qc,Qg hi];rfl]at this;rw[<-this];exact Vz _ _
  rw[Qi4,hx.2.2.2,Uj]at hd;exact V6 hd (Int.natAbs_dvd.2 (W2 _))
 have hd:x.d=y.d:=Int.dvd_antisymm (W3 hx.2.2.1) (W3 hy.2.2.1) (key hx hy e1 e2) (key hy hx (λi=>(e1 i).symm) λi=>(e2 i).symm);have hd0:y.d≠0:=by have:=hy.2.2.1;omega
 rw[hd]at e1 e2;have ex:x.x=y.x:=nQ hx.1 hy.1 λi=>(Vr hd0 (e1 i)).symm
 have ey:x.y=y.y:=nQ hx.2.1 hy.2.1 λi=>(Vr hd0 (e2 i)).symm
 cases x;cases y;simp only at hd ex ey;rw[hd,ex,ey]
theorem Qrm(l:List Pt):(Gu l).Pairwise λx y=>x.c≠y.c:=by
 have key:∀(l out:List Pt),out.Pairwise (λx y=>x.c≠y.c)->(l.foldl Nb out).Pairwise λx y=>x.c≠y.c:=by
  intro l
  induction l with
  |nil=>intro out h;exact h
  |
   cons p l ih =>
   intro out h;refine ih _ ?_;unfold Nb
   split
   ·exact h
   ·rename_i hn;refine Zv.2 ⟨h,V5 _ _,λa ha b hb e=>hn ?_⟩;rw[Qo.1 hb]at e;rw[Ks];exact⟨a,ha,by rw[<-e];simp[Ak]⟩
 exact key l [] .nil
theorem B5(l:List Pt):(Gu l).Sublist l:=by
 have key:∀(l out o:List Pt),out.Sublist o->(l.foldl Nb out).Sublist (o++l):=by
  intro l
  induction l with
  |nil=>intro out o h;rw[Xg];exact h
  |
   cons p l ih =>
   intro out o h;have:(Nb out p).Sublist (o++[p]):=by
    unfold Nb
    split
    ·exact h.trans (List.sublist_append_left _ _)
    ·exact h.append (List.Sublist.refl _)
   have:=ih _ _ this;rwa[Zj]at this
 exact key l [] [] (List.Sublist.refl _)
theorem C9(f:Nat->Ft)(rows:List Fu)(q:Rat)(i:Nat):Gf (Lh f rows (i+1)) q=Gf (Lh f rows i) q+(if i % 2=0 then 1 else -1)*(Gf ((rows.getD i []).getD 0 []) q*Gf (f i) q):=by
 simp only[Lh]
 split
 ·rename_i h;have:Gf ((rows.getD i []).getD 0 []) q=0:=by rw[Qf h];rfl
  rw[this];grind
 ·split
  ·rw[M4,Gn];grind
  ·rw[Bq,Gn];grind
theorem IN(z:Int)(q:Rat):Gf [z] q=(z:Rat):=by simp[Gf,Rat.add_zero]
theorem pH(p:Ft)(q:Rat):Gf (Cv 1 [[p]]) q=Gf p q:=by
 show Gf (Lh (λi=>Cv 0 (VV [[p]] i)) [[p]] (0+1)) q=_;rw[C9];show(0:Rat)+1*(Gf p q*Gf [1] q)=_;rw[IN];have:((1:Int):Rat)=1:=rfl;grind
theorem IB(p r s t:Ft)(q:Rat):Gf (Cv 2 [[p,r],[s,t]]) q=Gf p q*Gf t q-Gf s q*Gf r q:=by
 show Gf (Lh (λi=>Cv 1 (VV [[p,r],[s,t]] i)) [[p,r],[s,t]] (0+1+1)) q=_;rw[C9,C9];show(0:Rat)+1*(Gf p q*Gf (Cv 1 [[t]]) q)+(-1)*(Gf s q*Gf (Cv 1 [[r]]) q)=_;rw[pH,pH];grind
theorem ZM(a1 a2 a3 b1 b2 b3 c1 c2 c3:Ft)(q:Rat):Gf (Cv 3 [[a1,a2,a3],[b1,b2,b3],[c1,c2,c3]]) q=Gf a1 q*(Gf b2 q*Gf c3 q-Gf c2 q*Gf b3 q)-Gf b1 q*(Gf a2 q*Gf c3 q-Gf c2 q*Gf a3 q)+Gf c1 q*(Gf a2 q*Gf b3 q-Gf b2 q*Gf a3 q):=by
 show Gf (Lh (λi=>Cv 2 (VV [[a1,a2,a3],[b1,b2,b3],[c1,c2,c3]] i)) [[a1,a2,a3],[b1,b2,b3],[c1,c2,c3]] (0+1+1+1)) q=_;rw[C9,C9,C9];show(0:Rat)+1*(Gf a1 q*Gf (Cv 2 [[b2,b3],[c2,c3]]) q)+(-1)*(Gf b1 q*Gf (Cv 2 [[a2,a3],[c2,c3]]) q)+1*(Gf c1 q*Gf (Cv 2 [[a2,a3],[b2,b3]]) q)=_;rw[IB,IB,IB];grind
theorem aJ{a b c:Pt}(ha:Sc a.c)(hb:Sc b.c)(hc:Sc c.c)(q:Rat):Gt (Gf (G8 a.c b.c c.c) q)=Gt (H4 (px · q) (py · q) a b c):=by
 have lD:∀{k:Crv},Sc k->(0:Rat)<(k.d:Rat):=λh=>by exact_mod_cast h.n.2.2.1
 have pa:=lD ha;have pb:=lD hb;have pc:=lD hc;have xx:∀{p:Pt},0<(p.c.d:Rat)->Gf p.c.x q=px p q*(p.c.d:Rat)/\Gf p.c.y q=py p q*(p.c.d:Rat):=λ{p} h=>by
  unfold px py;exact⟨(Zc (by grind)).symm,(Zc (by grind)).symm⟩
 obtain⟨xa,ya⟩:=xx pa;obtain⟨xb,yb⟩:=xx pb;obtain⟨xc,yc⟩:=xx pc;have e:Gf (G8 a.c b.c c.c) q=((a.c.d:Rat)*(b.c.d:Rat)*(c.c.d:Rat))*H4 (px · q) (py · q) a b c:=by
  unfold G8 Ol H4;rw[ZM,IN,IN,IN,xa,xb,xc,ya,yb,yc];grind
 rw[e,Eb (Xm (Xm pa pb) pc)]

theorem Qvr(q:Rat)(p:Ft):Hb (tq q) p=Hq p q:=by
 unfold Hb UK
 split
 ·rename_i h;rw[List.eq_nil_of_length_eq_zero h];rfl
 ·rw[if_pos (M5.2 (Ql (a:=q)))];rfl
theorem Qja(q:Rat)(p:Ft):Hk (Hb (tq q)) p=dH p q:=by
 have:Hb (tq q)=λp=>Hq p q:=funext (Qvr q)
 rw[this];rfl
theorem eD{b a r:Ft}{k:Nat}(h:RRun b k a r):r.length<b.length:=by
 induction h with
 |stop h=>exact h
 |step _ _ _ _ _ ih=>exact ih
theorem cG{k:Nat}{l f:Fu}{g:Ft}(h:CRun k l g f):(∀p∈l,Bd 9000000 p/\p.length≤64)->g.length≤64->∀p∈f,Bd 9000000 p/\p.length≤64:=by
 induction h with
 |stop _=>exact λh _=>h
 |
  step h1 h2 h3 h4 h5 h6 h7 h8 h9 _ ih =>
  intro hl hg;refine ih (λp hp=>?_) ?_
  ·rcases Qr.1 hp with hp|hp
   ·exact hl p hp
   ·rw[Qo.1 hp];exact⟨h3,hg⟩
  ·have:=eD h4;exact Qe (Lr _) (Qe (XO _) (by omega))
theorem MA{p:Ft}{C:Fu}(h:ChRun p p C)(hl:p.length≤60):∀x∈C,Bd 9000000 x/\x.length≤64:=by
 obtain⟨n,hn⟩:=h.chain;refine cG hn (λx hx=>?_) ?_
 ·rw[Qo.1 hx];exact⟨Gd h.bd (by decide),by omega⟩
 ·refine Qe (XO _) ?_;have:=Pw p;omega
def bq(n:Nat):Nat->Nat
 | 0=>100
 |i+1=>21431+n*bq n i
structure HI(a:Tm)(L:List (List Rat))(j:Nat)(lo hi:Rat):Prop where
 w:∃D M k0,LwS a L D M k0 273 j lo hi/\0<M/\Gy (D:Int)<=271/\Gy (M:Int)<=272/\k0<=17886
structure HX(a:Tm)(C:List (List Int))(q:Rat)(b j:Nat)(lo hi:Rat):Prop where
 ql:Qs b lo
 qh:Qs b hi
 c:lo=hi/\q<lo/\Hl a hi=0\/HI a (C.map cz) j lo hi
theorem HI.qs{a:Tm}{L:Fx}{j:Nat}{lo hi:Rat}(h:HI a L j lo hi){b:Nat}(hb:18429+j<=b):Qs b lo/\Qs b hi:=by
 obtain⟨D,M,k0,hw,hM,h1,h2,h3⟩:=h.w;exact⟨Oj hw.hv.l hM (by omega),Oj hw.hv.h hM (by omega)⟩
theorem HI.cq{a:Tm}{L:Fx}{j:Nat}{lo hi:Rat}(h:HI a L j lo hi)(q:Rat):Orq.cq (cz a.p) lo hi q=Hl a q:=by
 obtain⟨D,M,k0,hw,_⟩:=h.w;rw[<-Py (t:=⟨a.p,lo,hi⟩) hw.v.l q];exact hw.hv.c q
theorem HI.lt{a:Tm}{L:Fx}{j:Nat}{lo hi:Rat}(h:HI a L j lo hi):lo<hi:=by
 obtain⟨D,M,k0,hw,_⟩:=h.w;exact hw.v.l
theorem HI.few{a:Tm}{L:Fx}{j:Nat}{lo hi:Rat}(h:HI a L j lo hi){n b:Nat}(hn:a.p.length<=n+1)(h2:2<=a.p.length)(n8:n<=8)(hS:Bd 271 a.p){r:Rat}(hb:Qs b r)(hr:lo<r)(hc:Hl a r=1):j<=3001+n*b:=by
 obtain⟨D,M,k0,hw,hM,h1,hM2,h3⟩:=h.w;have h5:=hw.few (n:=a.p.length-1) (by omega) hS hM2 (b:=b) hb.2 hr hc;have h6:b*(a.p.length-1)<=n*b:=by rw[Zo];exact Qy _ (by omega)
 have h7:(272+1)*(a.p.length-1+1)<=(272+1)*9:=Zl _ (by omega);omega
structure HA(a:Tm)(n:Nat)(C:List (List Int)):Prop where
 va:Va a
 pt:a.point=false
 n:a.p.length<=n+1
 b:Bd 271 a.p
 ch:ChRun a.p a.p C
 pr:Tg a.p=a.p
 i:HI a (C.map cz) 0 a.lo a.hi
def xlo(a:Tm):Rat:=if Hq a.p a.hi=0 then a.hi else a.lo
theorem HA.start{a:Tm}{n:Nat}{C:Fu}(h:HA a n C){q:Rat}{b:Nat}(hq:Hl a q=1)(hb:18429<=b):HX a C q b 0 (xlo a) a.hi:=by
 obtain⟨q1,q2⟩:=h.i.qs (b:=b) (by omega);unfold xlo
 split
 ·rename_i h0;refine⟨q2,q2,.inl ⟨rfl,?_,?_⟩⟩
  ·refine J1.1 λhle=>?_
   have hc:=h.va.cut;have h1:Hl a a.hi=0:=?_
   ·rcases Yi.1 hle with h2|h2
    ·have:=hc.mono' h2 (by omega);omega
    ·rw[h2]at h1;omega
   rw[<-h.i.cq,Ds h.i.lt Ql,if_pos (by rw[Gg,<-Sf];exact h0)]
  ·rw[<-h.i.cq,Ds h.i.lt Ql,if_pos (by rw[Gg,<-Sf];exact h0)]
 ·exact⟨q1,q2,.inr h.i⟩
theorem HX.next{a:Tm}{n:Nat}{C:Fu}(ha:HA a n C)(n8:n<=8){q:Rat}{b0 j:Nat}{lo hi:Rat}(h:HX a C q (21431+n*b0) j lo hi)(hb:Qs b0 q)(hq:Hl a q=1)(hlo:lo<q) :
 lo<hi/\j<=3001+n*b0/\(crR C a.p lo hi (O7 lo hi)<=0->HX a C q (21431+n*b0) (j+1) lo (O7 lo hi))/\(¬crR C a.p lo hi (O7 lo hi)<=0->HX a C q (21431+n*b0) (j+1) (O7 lo hi) hi):=by
 rcases h.c with⟨_,h1,_⟩|h1
 ·grind
 ·have hj:=h1.few ha.n ha.va.n2 n8 ha.b hb hlo hq;obtain⟨D,M,k0,hw,g1,g2,g3,g4⟩:=h1.w;obtain⟨s1,s2⟩:=hw.next;refine⟨h1.lt,hj,λhc=>?_,λhc=>?_⟩
  ·rw[Qh5 hw.v]at hc;have hi':HI a (C.map cz) (j+1) lo (O7 lo hi):=⟨D,M,k0,s1 hc,g1,g2,g3,g4⟩;obtain⟨q1,q2⟩:=hi'.qs (b:=21431+n*b0) (by omega);exact⟨q1,q2,.inr hi'⟩
  ·rw[Qh5 hw.v]at hc;have hi':HI a (C.map cz) (j+1) (O7 lo hi) hi:=⟨D,M,k0,s2 hc,g1,g2,g3,g4⟩;obtain⟨q1,q2⟩:=hi'.qs (b:=21431+n*b0) (by omega);exact⟨q1,q2,.inr hi'⟩
theorem HX.fin{a:Tm}{C:Fu}{q:Rat}{b j:Nat}{lo hi:Rat}(ha:Va a)(h:HX a C q b j lo hi):(lo≠hi->Hl a lo=1)/\Hl a hi≠1/\lo<=hi:=by
 rcases h.c with⟨h1,h2,h3⟩|h1
 ·exact⟨λh=>absurd h1 h,by omega,by rw[h1];exact Ql⟩
 ·obtain⟨D,M,k0,hw,_⟩:=h1.w;refine⟨λ_=>by rw[<-h1.cq];exact Bl Ql,by rw[<-h1.cq];exact hw.v.hi1,Qm h1.lt⟩
end Orq
namespace Orr
open Go Go.Proofs Tryz Orq
set_option maxRecDepth 10000
theorem Qhf{p q:Ft}{c:Fu}{m:Nat}{f:Nat->Ft}{l:List Tm}(tp:Gh p)(bp:Bd 9000000 p)(lp_:p.length<=1000)(h2:2<=p.length)(hF:FRun p m f)(hP:Qnm m f)(eq_:q=Na f m)(hC:ChRun p q c)(tq:Gh q)(q2:2<=q.length)(ql:q.length<=64)(bq:Bd 1000000 q)(hc:Cok c)(hr:SRun q c (-Hw q) (Hw q) l)(hl:l.length<=1000000):Fo 57 [.one (rp (zp p))] [.one (.row (DG q c l))]:=by
 have c1:=qD tp bp lp_ h2 hF hP;rw[<-eq_]at c1;have c2:=GG tp bp lp_ h2 hC;have c3:=Qhd tq q2 (by omega) bq (by decide);have c4:=Qgn (a:=Hw q);have c5:=Qhl (Gd bq (by decide)) ql hc hr hl;refine Sk func57 rfl ?_;exact Fj [1] [] [.k c1,.k c2,.k c3,.k c4,.c [1] c5] rfl
theorem Qrb{P g q:Ft}(sq:Sqp P g q)(h:2<=P.length):2<=q.length:=by
 rcases Q8 q.length 2 with h2|h2
 ·exfalso;have e:=sq.pq.one h2;have hd:Lj (cz P) (cz (Hn P)):=by
   obtain⟨z,hz⟩:=sq.d;exact⟨z,λt=>by rw[Gg,Gg,Da,hz,sq.e,e,Ru];grind⟩
  obtain⟨u,tu,eu⟩:=MO sq.pp.m hd;have ld:=Pw P;have hne:(Hn P).length≠0:=λh=>by
   have h1:=M3 P (P.length-2);rw[Qf h,show P.length-2+1=P.length-1 by omega]at h1;have h2:P.getD (P.length-1) 0≠0:=Rz sq.pp.t (by omega);rcases Yj.1 (h1.symm.trans (by simp))with h3|h3
   ·exact h2 h3
   ·omega
  obtain⟨p1,p2⟩:=Rp (Gk _ _) hne eu;have:=S8 sq.pp.t tu (Gk _ _) eu p1 p2;have e2:(Hn P).length=P.length+u.length-1:=this;omega
 ·exact h2
theorem Qge{q:Ft}{s:Nat}(hld:Gp q≠0)(bq:Bd s q):∃D M,0<M/\Gr D M 0 (Hw q)/\Gy (D:Int)<=s/\Gy (M:Int)<=s+1:=by
 obtain⟨D,hD⟩:=nmE ((Gp q).natAbs);obtain⟨m,hm⟩:=nmE (most (q.take (q.length-1)));have hm2:m<2^s:=by rw[hm];exact iH λz hz=>bq z (Qq hz)
 have hD0:0<D:=by omega
 have hbe:=YK hld;rw[<-hD,<-hm]at hbe;have hb1:=QT hld;refine⟨D,m+1,Wm m,⟨⟨(D+m:Nat),?_⟩,?_,hD0⟩,?_,HU hm2⟩
 ·rw[Ve,Y0,hbe];rw[show((((D+m:Nat):Int)):Rat)=((D+m:Nat):Rat) from rfl];push_cast;rfl
 ·have:Gw (Hw q)=Hw q:=by unfold Gw;rw[if_neg (by grind)]
  rw[this];have hDq:=nat_pos hD0;have hD1:(1:Rat)<=(D:Rat):=by
   have:((1:Nat):Rat)<=(D:Rat):=Zg.2 hD0;exact this
  have hm0:(0:Rat)<=(m:Rat):=Xt;have h3:=Ni (a:=(m:Rat)) (c:=1) hm0 Ql (by decide) hD1;rcases Hr (Hw q) ((m+1:Nat):Rat)with h'|h'
  ·exact h'
  ·exfalso;have:=J8 h' hDq
   push_cast at this;grind
 ·have:=Nl bq;rw[Pn]at this ⊢;rw[Zw,hD];exact this
theorem Qvk{q:Ft}{L:Fx}{lo hi:Rat}{l:List Tm}(h:RI q L lo l hi){t:Tm}(ht:t∈l):Vt (cz q) L t.lo t.hi/\t.p=q:=by
 induction h with
 |nil=>cases ht
 |
  cons h hv ht' hp hl ih =>
  rcases Qj.1 ht with rfl|ht
  ·exact⟨ht',hp⟩
  ·exact ih ht
def Anc(p:Ft):Prop:=∃w y,Gh w/\w.length≠0/\w.length<=10/\Bd 1110 w/\Gh y/\∀x:Rat,Gf w x=Gf p x*Gf y x
theorem Anc.bd{p:Ft}(h:Anc p)(tp:Gh p):Bd 1179 p:=by
 obtain⟨w,y,h1,h2,h3,h4,h5,h6⟩:=h;exact Ad (s:=1110) h4 h3 h1 tp h5 h2 h6
theorem Anc.div{p g z:Ft}(h:Anc p)(e:∀x:Rat,Gf p x=Gf g x*Gf z x):Anc g:=by
 obtain⟨w,y,h1,h2,h3,h4,h5,h6⟩:=h;exact⟨w,Gq z y,h1,h2,h3,h4,Hp _ _,λx=>by rw[h6,e,Gn];grind⟩
structure TnOk(p:List Int)(q:List Int)(c:List (List Int))(l:List Tm):Prop where
 t:OL p=some l
 n:l.length<=67
 ck:Cok c
 va:∀t∈l,Va t
 vt:∀t∈l,t.p=q/\t.lo<t.hi/\Vt (cz q) (c.map cz) t.lo t.hi
 ch:l≠[]->ChRun q q c/\∃P g,Sqp P g q
 sz:Anc q/\q.length<=9
 gr:∀t∈l,∃D M k,Gr D M k t.lo/\Gr D M k t.hi/\0<M/\Gy (D:Int)+Gy (M:Int)+k≤82000
end Orr
namespace Orq
open Orr Go
structure AT(t:Tm)(C:List (List Int))(N:Nat)(lo hi:Rat):Prop where
 va:Va t
 ck:Cok C
 st:lo=hi/\Hl t lo=0\/t.point=false/\Vt (cz t.p) (C.map cz) lo hi/\(∀q,cq (cz t.p) lo hi q=Hl t q)/\Hq t.p hi≠0
 bd:t.point=false->Anc t.p
 g:∃D M k,Gr D M k lo/\Gr D M k hi/\0<M/\Gy (D:Int)+Gy (M:Int)+k<=N
section
variable{t:Tm}{C:Fu}{N:Nat}{lo hi:Rat}
theorem AT.le(h:AT t C N lo hi):lo<=hi:=by
 rcases h.st with⟨e,_⟩|⟨_,V,_⟩
 ·rw[e];exact Ql
 ·exact Qm V.l
theorem AT.qs(h:AT t C N lo hi)(hN:N<=2000000):Qs 2000000 lo/\Qs 2000000 hi:=by
 obtain⟨D,M,k,g1,g2,hM,hs⟩:=h.g;exact⟨Oj g1 hM (by omega),Oj g2 hM (by omega)⟩
theorem AT.mono(h:AT t C N lo hi){N':Nat}(hN:N<=N'):AT t C N' lo hi:=by
 obtain⟨D,M,k,g1,g2,hM,hs⟩:=h.g;exact⟨h.va,h.ck,h.st,h.bd,D,M,k,g1,g2,hM,by omega⟩
theorem AT.hv(h:AT t C N lo hi):∃D M k,Hv t D M k ⟨t.p,lo,hi⟩:=by
 obtain⟨D,M,k,g1,g2,hM,hs⟩:=h.g;refine⟨D,M,k,rfl,?_,λq=>?_,g1,g2⟩
 ·rcases h.st with⟨rfl,e⟩|⟨_,V,_⟩
  ·refine .inl ⟨rfl,?_⟩;have:=FM h.va.cut e h.va.van;rwa[Gg]at this
  ·exact .inr ⟨_,V⟩
 ·rcases h.st with⟨rfl,e⟩|⟨_,V,e,_⟩
  ·rw[Aq rfl];exact(EJ h.va.cut e q).symm
  ·rw[Py V.l];exact e q
theorem AT.half(h:AT t C N lo hi)(hne:lo≠hi):∃lo' hi',AT t C (N+1) lo' hi'/\hi'-lo'<=(hi-lo) / 2/\lo<=lo'/\hi'<=hi/\((0<Rf C lo (O7 lo hi)/\lo'=O1 t.p lo (O7 lo hi)/\hi'=O7 lo hi)\/(¬0<Rf C lo (O7 lo hi)/\lo'=O1 t.p (O7 lo hi) hi/\hi'=hi)):=by
 obtain⟨D,M,k,g1,g2,hM,hs⟩:=h.g;rcases h.st with⟨e,_⟩|⟨pt,V,e,hn⟩
 ·exact absurd e hne
 have h2:∀x:Rat,x / 2*2=x:=λx=>Hu (by decide)
 obtain⟨m,hm⟩:=nmE (O7 lo hi);rw[<-hm];have hmm:=h2 (lo+hi);have hw:=h2 (hi-lo);rw[Ae]at hm;rw[<-hm]at hmm;have hl:=V.l;have l1:lo<m:=by grind
 have l2:m<hi:=by grind
 have gm:Gr D M (k+1) m:=by rw[hm];exact PU g1 g2
 have hbt:Rf C lo m=(vv (C.map cz) lo:Int)-(vv (C.map cz) m:Int):=Mq (Qm l1);have c1:Tn lo m≠0:=λh=>by have:=Pf.1 h;grind
 have c2:Tn m hi≠0:=λh=>by have:=Pf.1 h;grind
 have hv:=V.v;rcases V.two l1 (Qm l2)with⟨a1,a2,_⟩|⟨a1,a2,_⟩
 ·have V':Vt (cz t.p) (C.map cz) m hi:=⟨V.s,l2,by omega⟩;refine⟨m,hi,⟨h.va,h.ck,.inr ⟨pt,V',λq=>?_,hn⟩,h.bd,D,M,k+1,gm,JD g2,hM,by omega⟩,by grind,Qm l1,Ql,.inr ⟨by omega,?_,rfl⟩⟩
  ·rw[<-e];exact V.uniq V'.cut (Bl (Qm l1)) V'.hi1 V'.van q
  ·unfold O1;rw[if_neg (λh=>hn h.2)]
 ·by_cases h0:Hq t.p m=0
  ·have hz:Hl t m=0:=by
    rw[<-e,Ds l1 (Qm l2),if_pos (by rw[Gg,<-Sf];exact h0)]
   refine⟨m,m,⟨h.va,h.ck,.inl ⟨rfl,hz⟩,h.bd,D,M,k+1,gm,gm,hM,by omega⟩,by grind,Qm l1,Qm l2,.inl ⟨by omega,?_,rfl⟩⟩;unfold O1;rw[if_pos ⟨c1,h0⟩]
  ·have V':Vt (cz t.p) (C.map cz) lo m:=⟨V.s,l1,by omega⟩;refine⟨lo,m,⟨h.va,h.ck,.inr ⟨pt,V',λq=>?_,h0⟩,h.bd,D,M,k+1,JD g1,gm,hM,by omega⟩,by grind,Ql,Qm l2,.inl ⟨by omega,?_,rfl⟩⟩
   ·rw[<-e];exact V.uniq V'.cut (Bl Ql) (by rw[QL l1 l2];decide) V'.van q
   ·unfold O1;rw[if_neg (λh=>h0 h.2)]
end
theorem Qvc:∀m,1<=m->12*12^m<=5*29^m
 | 0,h=>by omega
 | 1,_=>by decide
 |
  m+2,_=>by
  have:=Qvc (m+1) (by omega);rw[Zq 12,Zq 29];omega
theorem Qx4:∀m,1<=m->(12*m+17)*12^m<=12*29^m
 | 0,h=>by omega
 | 1,_=>by decide
 |
  m+2,_=>by
  have h1:=Qx4 (m+1) (by omega);have h2:=Qvc (m+1) (by omega);rw[Zq 12 (m+1),Zq 29 (m+1)];generalize 12^(m+1)=u at *;generalize 29^(m+1)=v at *;have e1:(12*(m+1)+17)*u=12*(m*u)+29*u:=by grind
  have e2:(12*(m+2)+17)*(u*12)=144*(m*u)+492*u:=by grind
  rw[e1]at h1;rw[e2];omega
theorem aV{s t m lb la:Nat}(e:la-1=m+(lb-1))(hm:1<=m)(hs:(5*(s+1)+12*(t+1))*29^(la-1)<=12^(la-1)*100000000):(5*(t+1)+12*(s+(m+1)*(t+1)+1))*29^(lb-1)<=12^(lb-1)*100000000/\s+(m+1)*(t+1)<=9000000:=by
 have a1:=Qvc m hm;have a2:=Qx4 m hm;rw[e,Xs,Xs]at hs;have hu:0<12^m:=Zy (by decide);have hxy:12^(lb-1)<=29^(lb-1):=Uf (by decide) _;have hy:0<12^(lb-1):=Zy (by decide);generalize 12^m=u at *;generalize 29^m=v at *;generalize 29^(lb-1)=x at *;generalize 12^(lb-1)=y at *;have e1:(5*(t+1)+12*(s+(m+1)*(t+1)+1))*u=(s+1)*(12*u)+(t+1)*((12*m+17)*u):=by grind
 have e2:(5*(s+1)+12*(t+1))*v=(s+1)*(5*v)+(t+1)*(12*v):=by grind
 have h3:(5*(t+1)+12*(s+(m+1)*(t+1)+1))*u<=(5*(s+1)+12*(t+1))*v:=by
  rw[e1,e2];exact Nat.add_le_add (Zl _ a1) (Zl _ a2)
 have h4:(5*(t+1)+12*(s+(m+1)*(t+1)+1))*x*u<=y*100000000*u:=by
  rw[Nat.mul_right_comm];refine Qe (Qy x h3) ?_;rw[Xy];refine Qe hs (Nat.le_of_eq ?_);grind
 have h5:=Nat.le_of_mul_le_mul_right h4 hu;refine⟨h5,?_⟩;have h6:(5*(t+1)+12*(s+(m+1)*(t+1)+1))*y<=100000000*y:=by
  rw[Zo 100000000];exact Qe (Zl _ hxy) h5
 have h7:=Nat.le_of_mul_le_mul_right h6 hy;generalize (m+1)*(t+1)=z at *;omega
theorem AH:∀(k:Nat) (a b:Ft) (s t:Nat),b.length<k->Pr1 a->(b.length=0\/Pr1 b)->Gh b->b.length<a.length->a.length<=60->Bd s a->Bd t b->(5*(s+1)+12*(t+1))*29^(a.length-1)<=12^(a.length-1)*100000000 ->
 ∃n g,GRun n a b g/\Pr1 g/\Lj (cz g) (cz a)/\Lj (cz g) (cz b)/\∀d,Lj d (cz a)->Lj d (cz b)->Lj d (cz g)
 | 0,_,_,_,_,h,_,_,_,_,_,_,_,_=>by omega
 |
  k+1,a,b,s,t,hk,pa,pb,tb,hab,hl,ba,bb,hs=>by
  rcases pb with h0|pb
  ·rw[Qf h0];exact⟨0,a,.stop a,pa,dvd_refl _,⟨[],λt=>by simp only[cz,Jo,ev];grind⟩,λ_ h _=>h⟩
  ·have hb:=pb.n;obtain⟨k1,k2⟩:=aV (s:=s) (t:=t) (m:=a.length-b.length) (lb:=b.length) (la:=a.length) (by omega) (by omega) hs;have ht:t+1<=(a.length-b.length+1)*(t+1):=Ws _ (by omega);obtain⟨n,r,r1,r2,r3,r4,u,X,hu,hX⟩:=CE tb hb bb (a.length-b.length+1) a s (by omega) pa.t hl ba k2 (by omega);obtain⟨p1,p2⟩:=VT r2;obtain⟨_,p3,p4,c,c1,c2⟩:=Bt r2;have tp:Gh (Gm r):=by
    rcases p2 with h|h
    ·rw[Qf h];rfl
    ·exact h.t
   obtain⟨j,g,g1,g2,g3,g4,g5⟩:=AH k b (Gm r) t (s+(a.length-b.length+1)*(t+1)) (by omega) pb p2 tp (by omega) (by omega) bb (p4 _ r4) k1;refine⟨j+1,g,.step (by omega) (by omega) (Gd bb (by omega)) r1 (by omega) (Gd r4 k2) r2 (by rw[H9];exact g1),g2,?_,g3,λd ⟨y,hy⟩ ⟨z,hz⟩=>g5 d ⟨z,hz⟩ ((A4 c1 c2).1 ⟨So (Nk u y) (Nk (-1) (H7 X z)),λt=>by
    have a1:=hX t;have a2:=hy t;have a3:=hz t;rw[Gg]at a2 a3 ⊢;rw[Hm,Hd,Hd,Gj];have:Gf r t=u*Gf a t-ev X t*Gf b t:=by grind
    rw[this,a2,a3];grind⟩)⟩
   obtain⟨y,hy⟩:=g3;obtain⟨z,hz⟩:=g4;have hu1:1 / u*u=1:=Hu hu;refine⟨Nk (1 / u) (So (H7 X y) (Nk c z)),λt=>?_⟩;have a1:=hX t;have a2:=hy t;have a3:=hz t;have a4:=c2 t;rw[Gg]at a2 a3 ⊢;rw[Hd,Hm,Gj,Hd];have:Gf a t=1 / u*(u*Gf a t):=by grind
   rw[this,a1,a2,a4,a3];grind
theorem Qje{a b:Ft}(pa:Pr1 a)(pb:Pr1 b)(la:a.length<=9)(lb:b.length<=9){s:Nat}(ba:Bd s a)(bb:Bd s b)(hs:s<=1260):∃n g,GRun n a b g/\Pr1 g/\Lj (cz g) (cz a)/\Lj (cz g) (cz b)/\∀d,Lj d (cz a)->Lj d (cz b)->Lj d (cz g):=by
 have hp:∀l,l<=9->∀s t,s<=1260->t<=2521->(5*(s+1)+12*(t+1))*29^(l-1)<=12^(l-1)*100000000:=λl hl s t h1 h2=>by
  refine Qe (Qy _ (show 5*(s+1)+12*(t+1)<=36569 by omega)) ?_;have:∀n,n<=8->36569*29^n<=12^n*100000000:=by decide
  exact this _ (by omega)
 rcases Q8 b.length a.length with h|h
 ·obtain⟨n,g,g1,g2,g3,g4,g5⟩:=AH 66 a b s s (by omega) pa (.inr pb) pb.t h (by omega) ba bb (hp _ la _ _ hs (by omega));exact⟨n,g,g1,g2,g3,g4,g5⟩
 ·obtain⟨n,r,r1,r2,r3,r4,u,X,hu,hX⟩:=CE pb.t pb.n bb 1 a s (by omega) pa.t (by omega) ba (by omega) (by omega);obtain⟨p1,p2⟩:=VT r2;obtain⟨_,p3,p4,c,c1,c2⟩:=Bt r2;have tp:Gh (Gm r):=by
   rcases p2 with h|h
   ·rw[Qf h];rfl
   ·exact h.t
  obtain⟨j,g,g1,g2,g3,g4,g5⟩:=AH 66 b (Gm r) s (2*s+1) (by omega) pb p2 tp (by omega) (by omega) bb (p4 _ (Gd r4 (by omega))) (hp _ lb _ _ hs (by omega));have hu1:1 / u*u=1:=Hu hu;have hb:=pb.n;refine⟨j+1,g,.step (by omega) (by omega) (Gd bb (by omega)) r1 (by omega) (Gd r4 (by omega)) r2 (by rw[H9];exact g1),g2,?_,g3,λd ⟨y,hy⟩ ⟨z,hz⟩=>g5 d ⟨z,hz⟩ ((A4 c1 c2).1 ⟨So (Nk u y) (Nk (-1) (H7 X z)),λt=>?_⟩)⟩
  ·obtain⟨y,hy⟩:=g3;obtain⟨z,hz⟩:=g4;refine⟨Nk (1 / u) (So (H7 X y) (Nk c z)),λt=>?_⟩;have a1:=hX t;have a2:=hy t;have a3:=hz t;have a4:=c2 t;rw[Gg]at a2 a3 ⊢;rw[Hd,Hm,Gj,Hd];have:Gf a t=1 / u*(u*Gf a t):=by grind
   rw[this,a1,a2,a4,a3];grind
  ·have a1:=hX t;have a2:=hy t;have a3:=hz t;rw[Gg]at a2 a3 ⊢;rw[Hm,Hd,Hd,Gj];have:Gf r t=u*Gf a t-ev X t*Gf b t:=by grind
   rw[this,a2,a3];grind
theorem Qt6{p P:Ft}(hp:Pr1 p)(hP:Pr1 P)(lp:p.length<=9)(lP:P.length<=9)(bp:Bd 1179 p)(bP:Bd 1179 P):∃n g,GRun n (Tg p) (Tg P) g/\Pr1 g/\Lj (cz g) (cz p)/\Lj (cz g) (cz P)/\∀c,Cut c->(Ab (cz g) c↔Ab (cz p) c/\Ab (cz P) c):=by
 obtain⟨n,g,g1,g2,g3,g4,g5⟩:=Qje hp hP lp lP bp bP (by decide);obtain⟨g',_,G,m',l'⟩:=dG Qv3 hp.t hP.t lp lP (Gd bp (by decide)) (Gd bP (by decide)) hp.n;have e:g=g':=by
  refine dX g2 ⟨G.t,m',l'⟩ ?_ (g5 _ G.da G.db);obtain⟨U,V,hc⟩:=G.c;obtain⟨y,hy⟩:=g3;obtain⟨z,hz⟩:=g4;refine⟨So (H7 U y) (H7 V z),λt=>?_⟩;have a1:=hc t;have a2:=hy t;have a3:=hz t;rw[Gg]at a2 a3 ⊢;rw[Hm,Gj,Gj,a1,a2,a3];grind
 rw[H9,H9,Lz hp,Lz hP];exact⟨n,g,g1,g2,g3,g4,λc hc=>by rw[e];exact Qi3 hc G⟩
theorem Qd2{P gg q g:Ft}{s:Nat}(sq:Sqp P gg q)(pg:Pr1 g)(d:Lj (cz g) (cz q))(l2:2<=g.length)(l9:g.length<=9)(bg:Bd s g)(hs:(s+4+8)*3^8<=9000000)(hs2:s<=1180):∃L,ChRun g g (g::L)/\WB (cz g) ((g::L).map cz):=by
 have h81:(s+4+8)*3^8=(s+4+8)*6561:=rfl;have VG:Pr1 [1]:=one_sqp.pp;have s1:Sqp g [1] g:=by
  obtain⟨X,Y,hb⟩:=sq.bez;obtain⟨h,th,eh⟩:=MO pg.m d;refine⟨pg,VG,pg,λt=>by rw[Ru];grind,⟨So (H7 X (cz h)) (H7 Y (Cx (cz h))),H7 Y (cz h),λt=>?_⟩,⟨Cx (cz g),λt=>by rw[Ru,Sw];grind⟩⟩;have b:=hb t;have e1:dv (cz q) t=Gf g t*dv (cz h) t+dv (cz g) t*Gf h t:=by
   have:=Oz (f:=cz q) (w:=cz g) (u:=cz h) (λt=>by rw[Gg,Gg,Gg,eh]) t;rw[this,Gg,Gg];grind
  rw[e1,Gg,eh]at b;rw[Ru,Hm,Gj,Gj,Gj,Sw,Gg];grind
 have ok:Okp 9 s g:=⟨Qv4 CH (by omega),pg.t,pg.n,l9,bg⟩;obtain⟨q',l,q1,q2,hS,_⟩:=chain_ok ok;obtain⟨g2,q2',e2,sq2⟩:=Ic ok;have:q2'=q':=Option.some.inj (e2.symm.trans q1);subst this;rw[Lz pg]at sq2;have eg:g2=[1]:=by
  refine dX sq2.pg VG ?_ ⟨cz g2,λt=>by rw[Gg _ [1],Ru];grind⟩;obtain⟨U,V,hc⟩:=s1.c;obtain⟨z,hz⟩:=sq2.d;refine⟨So (H7 U (cz q2')) (H7 V z),λt=>?_⟩;rw[Gg,hc,Hm,Gj,Gj,hz,sq2.e,Gg,Gg];grind
 have eq2:q2'=g:=Om sq2.pq.t pg.t λt=>by rw[sq2.e,eg,Ru];grind
 subst eq2;obtain⟨L,hL,hch⟩:∃L,l=L/\OO 66 q2' (Gm (Hn q2'))=some L:=by
  have h2:=q2;unfold chain at h2;rw[q1]at h2;simp only[Y6]at h2;rw[if_neg pg.n]at h2;obtain⟨d,hd,h2⟩:=Qk.1 h2;obtain⟨l',hl',h2⟩:=Qk.1 h2;injection h2 with h2;injection h2 with _ h2;rw[vK hd]at hl';exact⟨l',h2.symm,hl'⟩
 subst hL;exact⟨l,rT s1 l2 l9 bg hs hch,hS⟩
theorem zH{g:Ft}{L:Fx}(hS:WB (cz g) L):∀(n:Nat) (lo hi:Rat),lo<hi->vv L lo<=vv L hi+n->vv L hi<vv L lo->∃c,Cut c/\c lo=1/\c hi≠1/\Ab (cz g) c
 | 0,lo,hi,_,h,h'=>by omega
 |
  n+1,lo,hi,hl,h,h'=>by
  by_cases h1:vv L lo=vv L hi+1
  ·have V:Vt (cz g) L lo hi:=⟨hS,hl,h1⟩;exact⟨_,V.cut,Bl Ql,V.hi1,V.van⟩
  ·obtain⟨m,m1,m2,m3,m4,_⟩:=Qj7 hS hl (by omega);obtain⟨c,c1,c2,c3,c4⟩:=zH hS n lo m m1 (by omega) m3;refine⟨c,c1,c2,λh=>?_,c4⟩;exact c3 (c1.mono' m2 (by omega))
theorem AT.zero{t:Tm}{C Cg:Fu}{N:Nat}{lo hi:Rat}(h:AT t C N lo hi)(hne:lo≠hi){g:Ft}(d:Lj (cz g) (cz t.p))(hS:WB (cz g) (Cg.map cz)):0<Rf Cg lo hi↔Ab (cz g) (Hl t):=by
 rcases h.st with⟨e,_⟩|⟨pt,V,e,hn⟩
 ·exact absurd e hne
 have hl:=V.l;have hle:=Aa hS hl;have hc:=h.va.cut;have clo:Hl t lo=1:=by rw[<-e];exact Bl Ql
 have chi:Hl t hi≠1:=by rw[<-e];exact V.hi1
 rw[Mq (Qm hl)];constructor
 ·intro hb;obtain⟨c,c1,c2,c3,c4⟩:=zH hS (vv (Cg.map cz) lo) lo hi hl (by omega) (by omega);obtain⟨u,hu⟩:=d;have hv:Ab (cz t.p) c:=Nj c1 hu c4;have:∀q,c q=Hl t q:=λq=>by rw[V.uniq c1 c2 c3 hv q,e]
  have e2:c=Hl t:=funext this;rw[<-e2];exact c4
 ·intro hv;have:=lX hS (w:=cz g) (u:=[1]) (λt=>by rw[S9];grind) (x:=lo) (y:=hi) (c:=Hl t);rcases Q8 (vv (Cg.map cz) hi) (vv (Cg.map cz) lo)with h1|h1
  ·omega
  ·exact absurd hv (this (by omega) hc clo chi)
end Orq
namespace Orq
open Go Go.Proofs Tryz Orr
set_option maxRecDepth 10000
theorem Qrl{c:Rat->Int}(hc:Cut c)(h:Ab (cz [1]) c):False:=by
 obtain⟨q,hq,_⟩:=IF hc (h 1 (by decide));rw[Gg,Ru]at hq;exact absurd hq (by decide)
section
variable{t:Tm}{C:Fu}{N:Nat}{lo hi:Rat}
theorem AT.b30(h:AT t C N lo hi):Bd 30000000 t.p/\t.p.length<=64:=⟨Gd h.va.b (by decide),by have:=h.va.n;omega⟩
theorem AT.cPt(h:AT t C N lo hi)(hN:N<=2000000):Fo 167 [.agg (ax t.p C lo hi)] [.one (.bool (decide (Tn lo hi=0)))]:=Qg4 (h.qs hN).1 (h.qs hN).2
theorem Qhk(h:AT t C N lo hi)(hN:N+1<=2000000):∃lo' hi',AT t C (N+1) lo' hi'/\hi'-lo'<=(hi-lo) / 2/\lo<=lo'/\hi'<=hi/\Fo 170 [.agg (ax t.p C lo hi)] [.agg (ax t.p C lo' hi')]:=by
 have cp:=h.cPt (by omega);by_cases he:lo=hi
 ·have h2:(hi-lo) / 2*2=hi-lo:=Hu (by decide);refine⟨lo,hi,h.mono (by omega),by grind,Ql,Ql,?_⟩;exact Fi func170 rfl [.k cp,.t (decide_eq_true (Pf.2 he))] rfl
 ·obtain⟨lo',hi',a1,a2,a3,a4,a5⟩:=h.half he;obtain⟨ql,qh⟩:=h.qs (by omega);have ch:=iL ql qh;have qm:Qs 2000000 (O7 lo hi):=by
   obtain⟨D,M,k,g1,g2,hM,hs⟩:=h.g;have gm:Gr D M (k+1) (O7 lo hi):=by rw[Ae];exact PU g1 g2
   exact Oj gm hM (by omega)
  have cb:=El h.ck ql qm;refine⟨lo',hi',a1,a2,a3,a4,?_⟩;rcases a5 with⟨b1,rfl,rfl⟩|⟨b1,rfl,rfl⟩
  ·have ce:=vQ (p:=t.p) (C:=C) h.b30.1 h.b30.2 ql qm;exact Fi func170 rfl [.k cp,.f (decide_eq_false λe=>he (Pf.1 e)),.k ch,.k cb,.t (decide_eq_true b1),.k ce] rfl
  ·have ce:=vQ (p:=t.p) (C:=C) h.b30.1 h.b30.2 qm qh;exact Fi func170 rfl [.k cp,.f (decide_eq_false λe=>he (Pf.1 e)),.k ch,.k cb,.f (decide_eq_false b1),.k ce] rfl
theorem AT.pr(h:AT t C N lo hi)(hne:lo≠hi):Pr1 t.p/\t.point=false/\Bd 1179 t.p/\∃P g,Sqp P g t.p:=by
 rcases h.st with⟨e,_⟩|⟨pt,_⟩
 ·exact absurd e hne
 obtain⟨_,P,g,_,sq,_⟩:=h.va.sc pt;exact⟨sq.pq,pt,(h.bd pt).bd sq.pq.t,P,g,sq⟩
end
section
variable{a b:Tm}{C C':Fu}{N:Nat}{c:Int}
theorem AT.wide{la ha:Rat}(h:AT a C N la ha):ha-la<=p2 (N+1):=by
 obtain⟨D,M,k,g1,g2,hM,hs⟩:=h.g;have q1:=Mh.1 (vO g1 (s:=N) (by omega));have q2:=Mh.1 (vO g2 (s:=N) (by omega));have:=KE N;grind
theorem Qpa{p q:Ft}(bp:Bd 1179 p)(bq:Bd 1179 q)(lp:p.length<=9)(lq:q.length<=9):Pa p q<=73904:=by
 have h1:=Ep bp;have h2:=Ep bq;unfold Pa;exact Xl (n₁:=Tw p+Tw q+(p.length+q.length)+8) (n₂:=2384) (m₁:=2*(p.length+q.length-2)-1) (m₂:=31) (by omega) (by omega)
end
end Orq
namespace Orq
open Go Go.Proofs Tryz Orr
set_option maxRecDepth 10000
theorem Qlx{p:Ft}{a:Tm}(hp:Dp p)(ha:Va a){s:Int}(h:SgT p a s):Hb a p=s:=by
 obtain⟨_,h'⟩:=aX hp ha;rcases h with⟨e,h⟩|⟨e,h⟩ <;> rcases h' with⟨e',h'⟩|⟨e',h'⟩
 ·omega
 ·exact(fJ ha.cut h h').elim
 ·exact(fJ ha.cut h' h).elim
 ·exact Qxw ha.cut h' h
theorem vT{p:Ft}(h:Dp p):Bd 1166 p:=Gd h.b (by omega)
section
variable{t:Tm}{C:Fu}{N:Nat}{lo hi:Rat}
theorem Qhj(h:AT t C N lo hi)(hN:N<=2000000){p:Ft}(hp:Dp p)(h0:p.length≠0):∃b:Bool,(b=true↔Ab (cz p) (Hl t))/\Fo 166 [.one (rp (zp p)),.agg (ax t.p C lo hi)] [.one (.bool b)]:=by
 have cp:=h.cPt hN;have Ee:=GI p;have hc:=h.va.cut;by_cases hne:lo=hi
 ·have hz:Hl t lo=0:=by
   rcases h.st with⟨_,e⟩|⟨_,V,_⟩
   ·exact e
   ·have:=V.l;rw[hne]at this;exact absurd this Uq
  have cs:=XN (p:=p) (q:=lo) (Gd (vT hp) (by decide)) (by have:=hp.l;omega) (h.qs hN).1;refine⟨decide (Hq p lo=0),?_,Fi func166 rfl [.F,.k cp,.t (decide_eq_true (Pf.2 hne)),.k cs] rfl⟩;rw[decide_eq_true_eq];rcases Ql0 (p:=p) hc hz with⟨e,hv⟩|⟨e,hv⟩
  ·exact⟨λ_=>hv,λ_=>e⟩
  ·exact⟨λh=>absurd h e,λh=>(fJ hc h hv).elim⟩
 obtain⟨pt,ptp,bt,P,gg,sq⟩:=h.pr hne;obtain⟨ql,qh⟩:=h.qs hN;have ok:=hp.ok h0;obtain⟨pp,ppl,ppb⟩:=ok.pr;have bp:Bd 1179 (Gm p):=Gd ((Bt hp.t).2.2.1 _ (vT hp)) (by decide);obtain⟨_,_,_,k,k0,ke⟩:=Bt hp.t;have hvp:Ab (cz p) (Hl t)↔Ab (cz (Gm p)) (Hl t):=by
  constructor
  ·intro hv;refine WH hc (f:=cz p) (g:=cz (Gm p)) (k:=1 / k) (λx=>?_) hv;rw[Gg,Gg,ke];have:1 / k*k=1:=Zc (a:=1) (b:=k) k0;grind
  ·intro hv;exact WH hc (f:=cz (Gm p)) (g:=cz p) (k:=k) (λx=>by rw[Gg,Gg,ke]) hv
 have lt9:=h.va.n;have lp9:=hp.l;obtain⟨n,g,g1,g2,g3,g4,g5⟩:=Qt6 pp pt (by omega) lt9 bp bt;rw[H9,Lz pp,<-H9 p]at g1;have cg:=Qhe hp.t pt.t (Gd (vT hp) (by decide)) (Gd bt (by decide)) (by omega) (by omega) g1;have hgl:=GI g;have hv:=h.va.van;by_cases hl:g.length<2
 ·refine⟨false,⟨(λh=>by cases h),λh'=>?_⟩,?_⟩
  ·exfalso;have:=(g5 _ hc).2 ⟨hvp.1 h',hv⟩;rw[g2.one hl]at this;exact Qrl hc this
  ·exact Fi func166 rfl [.F,.k cp,.f (decide_eq_false λe=>hne (Pf.1 e)),.k cg,.T] rfl
 ·obtain⟨y,ty,ey⟩:=MO g2.m g4;obtain⟨p1,p2⟩:=Rp pt.t pt.n ey;have hln:=S8 g2.t ty pt.t ey p1 p2;have bg:Bd 1179 g:=((h.bd ptp).div ey).bd g2.t;obtain⟨L,c1,c2⟩:=Qd2 sq g2 g4 (by omega) (by omega) bg (by decide) (by decide);have cc:=GG g2.t (Gd bg (by decide)) (by omega) (by omega) c1;have ck:Cok (g::L):=⟨c1.small,MA c1 (by omega)⟩;have cb:=El ck ql qh;refine⟨decide (0<Rf (g::L) lo hi),?_,?_⟩
  ·rw[decide_eq_true_eq,h.zero hne g4 c2,g5 _ hc,hvp];exact⟨λh=>h.1,λh=>⟨h,hv⟩⟩
  ·exact Fi func166 rfl [.F,.k cp,.f (decide_eq_false λe=>hne (Pf.1 e)),.k cg,.F,.k cc,.k cb] rfl
theorem zX{p:Ft}(ok:Okp 9 1180 p)(l2:2<=p.length):∃q L o,Parts p q o/\WB (cz q) ((q::L).map cz)/\Cok (q::L)/\ChRun p q (q::L)/\Me p=some q/\chain p=some (q::L)/\(∃g,Sqp (Gm p) g q)/\2<=q.length/\q.length<=p.length/\Bd 1249 q:=by
 have Ee:=ok.l;obtain⟨m,f,m1,m9,hF,hP,hsq,_,_,_⟩:=Qo9 ok l2 (by decide);obtain⟨q,o,q1,o1,hpt⟩:=wJ ok;obtain⟨q',l,r1,r2,hS,_⟩:=chain_ok ok;have e':q'=q:=Option.some.inj (r1.symm.trans q1);subst e';have eq_:q'=Na f m:=Option.some.inj (r1.symm.trans hsq);obtain⟨g,q0,e0,sq⟩:=Ic ok;have:q0=q':=Option.some.inj (e0.symm.trans r1);subst this;obtain⟨pp,hl,hb⟩:=ok.pr;have q2:=Qrb sq (by omega);have e1:∀t,Gf (Gm p) t=Gf q0 t*Gf g t:=λt=>by rw[sq.e];grind
 have bq:Bd 1249 q0:=Ad (s:=1180) hb (by omega) pp.t sq.pq.t sq.pg.t pp.n e1;obtain⟨p1,p2⟩:=Rp pp.t pp.n e1;have hlen:=S8 sq.pq.t sq.pg.t pp.t e1 p1 p2;have hch:OO 66 q0 (Gm (Hn q0))=some l:=by
  have h2:=r2;unfold chain at h2;rw[r1]at h2;simp only[Y6]at h2;rw[if_neg (by omega)]at h2;obtain⟨d,hd,h2⟩:=Qk.1 h2;obtain⟨l',hl',h2⟩:=Qk.1 h2;injection h2 with h2;injection h2 with _ h2;rw[vK hd]at hl';rw[<-h2];exact hl'
 have hCh:=rT sq q2 (by omega) bq (by decide) hch;exact⟨q0,l,o,hpt,hS,⟨hCh.small,MA hCh (by omega)⟩,⟨⟨m,f,hF,hP,eq_⟩,hCh.chain,hCh.bd,hCh.len,hCh.small⟩,r1,r2,⟨g,sq⟩,q2,by omega,bq⟩
theorem AT.sgn(h:AT t C N lo hi){p q o:Ft}{L:Fx}(tp:Gh p)(np:p.length≠0)(hpt:Parts p q o)(hS:WB (cz q) L){s:Int}(hnz:NZ (cz p) (Hl t) s)(he:lo=hi\/vv L lo=vv L hi):Hq p hi=s:=by
 have ca:=h.va.cut;have pt:Hl t hi=0->Hq p hi=s:=λhz=>by
  have:=IH ca hz hnz;rw[Sf,<-Gg];exact this
 rcases h.st with⟨e,hz⟩|⟨_,V,eq_,_⟩
 ·exact pt (by rw[<-e];exact hz)
 ·have hv:vv L lo=vv L hi:=by
   rcases he with e|e
   ·have:=V.l;rw[e]at this;exact absurd this Uq
   ·exact e
  have hlo1:Hl t lo=1:=by rw[<-eq_];exact Bl Ql
  have hhi:Hl t hi≠1:=by rw[<-eq_];exact V.hi1
  have hv3:=ca.val hi;by_cases hz:Hl t hi=0
  ·exact pt hz
  ·have hz:Hl t hi=-1:=by omega
   obtain⟨s',hs',hps⟩:=xA hpt tp np hS V.l hv;obtain⟨d,dp,x,y,hx,hy,hq⟩:=hnz;obtain⟨m,m1,m2,m3⟩:=SU ca hlo1 hx;have e1:=(hq m (Qm m3) (Qm (ca.lt m1 hy))).1;have e2:=hps m m2 (Qm (ca.lt m1 hz));have e3:=hps hi V.l Ql;rw[Sf,e3,<-e2,<-Gg,e1]
set_option maxHeartbeats 1000000 in
theorem Qhg(h:AT t C N lo hi)(hN:N<=900000){p:Ft}(hp:Dp p)(h0:p.length≠0):Fo 59 [.one (rp (zp p)),.agg (ax t.p C lo hi)] [.oi (Hb t p)]:=by
 obtain⟨b,hb,cz_⟩:=Qhj h (by omega) hp h0;have Ee:=GI p;have lp9:=hp.l;have hc:=h.va.cut;have ok:=hp.ok h0;have cp:=h.cPt (by omega);cases b with
 |
  true =>
  rw[Qlx hp h.va (.inl ⟨rfl,hb.1 rfl⟩)];exact Fi func59 rfl [.k cz_,.t rfl] rfl
 |
  false =>
  have hnv:¬Ab (cz p) (Hl t):=λhv=>by have:=hb.2 hv;cases this
  obtain⟨s,CY,hnz⟩:∃s,s≠0/\NZ (cz p) (Hl t) s:=(JR hc (cz p)).resolve_left hnv;rw[Qlx hp h.va (.inr ⟨CY,hnz⟩)];have csl:=XN (p:=p) (q:=lo) (Gd (vT hp) (by decide)) (by omega) (h.qs (by omega)).1;by_cases hne:lo=hi
  ·have hz:Hl t lo=0:=by
    rcases h.st with⟨_,e⟩|⟨_,V,_⟩
    ·exact e
    ·have:=V.l;rw[hne]at this;exact absurd this Uq
   have e:Hq p lo=s:=by rw[Sf,<-Gg];exact IH hc hz hnz
   rw[e]at csl;exact Fi func59 rfl [.k cz_,.f rfl,.k cp,.g 11 true (decide_eq_true (Pf.2 hne)),.t rfl,.k csl] rfl
  by_cases h1:p.length=1
  ·have e:Hq p lo=s:=by
    obtain⟨c,rfl⟩:=Jx.1 h1;obtain⟨d,dp,x,y,hx,hy,hq⟩:=hnz;have e1:=(hq x Ql (Qm (hc.lt hx hy))).1;rw[Gg]at e1;have:∀r,Gf [c] r=(c:Rat):=λr=>by simp only[Gf];grind
    rw[Sf,this];rw[this]at e1;exact e1
   rw[e]at csl;exact Fi func59 rfl [.k cz_,.f rfl,.k cp,.g 11 false (decide_eq_false λe=>hne (Pf.1 e)),.T,.k csl] rfl
  obtain⟨q,L,o,hpt,hS,ck,hCh,_⟩:=zX ok (by omega);have cc:=GG hp.t (Gd (vT hp) (by decide)) (by omega) (by omega) hCh;obtain⟨gg,sq⟩:=hpt.sq;obtain⟨_,_,_,_,_,pf0,pfe⟩:=M6 hp.t h0;have hpq:Lj (cz q) (cz p):=⟨Nk (Rl p) (cz gg),λt=>by rw[Gg,Gg,Hd,Gg,pfe,sq.e];grind⟩;obtain⟨_,ptp,bt,_⟩:=h.pr hne;have hK:=Qpa bt (Gd (vT hp) (by decide)) h.va.n lp9;obtain⟨J,hJ⟩:=nmE (N+73910);have wd:(hi-lo)*Orq.p2 0<=Orq.p2 (N+1):=by
   have w4:Orq.p2 0=1:=rfl;rw[w4];have:=h.wide;grind
  refine Sk func59 rfl ?_;refine Ff [.k cz_,.f rfl,.k cp,.g 11 false (decide_eq_false λe=>hne (Pf.1 e)),.F,.k cc] rfl ?_;refine Fl (S:=Nat×Rat×Rat) 1 (λL1 _=>L1) (λs=>[.blk 36 (ax t.p C s.2.1 s.2.2)]) (λs=>J-s.1) (λs=>AT t C (N+s.1) s.2.1 s.2.2/\s.1<=J/\(s.2.2-s.2.1)*Orq.p2 s.1<=Orq.p2 (N+1)) (0,lo,hi) ⟨h,Qh _,wd⟩ rfl rfl λ⟨j,x,y⟩ ⟨i1,i2,i3⟩=>?_
  dsimp only at i1 i2 i3 ⊢;have cp:=i1.cPt (by omega);obtain⟨qx,qy⟩:=i1.qs (by omega);have cs:=XN (p:=p) (q:=y) (Gd (vT hp) (by decide)) (by omega) qy;by_cases he:x=y
  ·rw[i1.sgn hp.t h0 hpt hS hnz (.inl he)]at cs;exact Fh [.k cp,.g 25 false (by rw[decide_eq_true (Pf.2 he)];rfl),.f rfl,.k cs] rfl
  have cb:=El ck qx qy;have hle:=i1.le;have hlt:x<y:=by rcases Yi.1 hle with h|h;exact h;exact absurd h he
  by_cases hb0:0<Rf (q::L) x y
  ·have hvv:vv ((q::L).map cz) x≠vv ((q::L).map cz) y:=λh'=>by rw[Mq hle]at hb0;omega
   obtain⟨D,M,k,hv⟩:=i1.hv;have hg:=Ql1 hp.t lp9 (by omega) hS hpq i1.va hnz hv hlt hvv;have hjJ:j<J:=by
    refine Uy λhge=>?_
    have e1:Orq.p2 j=Orq.p2 (Pa t.p p+1)*Orq.p2 (j-(Pa t.p p+1)):=by rw[<-PL];congr 1;omega
    have e2:Orq.p2 (N+1)<=Orq.p2 (j-(Pa t.p p+1)):=KL (by omega);have e3:0<Orq.p2 (j-(Pa t.p p+1)):=Std.lt_of_lt_of_le (show(0:Rat)<1 by decide) (lV _);have:=J8 hg e3;have e4:((2^(Pa t.p p+1):Nat):Rat)=Orq.p2 (Pa t.p p+1):=rfl;rw[e4]at this;rw[e1]at i3;dsimp only at this;grind
   obtain⟨x',y',n1,n2,_,_,n3⟩:=Qhk i1 (by omega);refine Ff [.k cp,.g 25 true (by rw[decide_eq_false λe=>he (Pf.1 e)];rfl),.k cb,.t (decide_eq_true hb0),.k n3] rfl ?_;refine rd (j+1,x',y') (by dsimp only;omega) ⟨n1,hjJ,?_⟩ rfl;dsimp only;have e1:=KE j;have z1:(y-x) / 2*2=y-x:=Hu (by decide);have z3:(y'-x')*2<=y-x:=by grind
   have z4:=Q7 z3 (IT j);have z5:∀u v:Rat,u*(v+v)=u*2*v:=λu v=>by grind
   rw[e1,z5];exact Zi z4 i3
  ·have hvv:vv ((q::L).map cz) x=vv ((q::L).map cz) y:=by
    have:=Aa hS hlt;rw[Mq hle]at hb0;omega
   rw[i1.sgn hp.t h0 hpt hS hnz (.inr hvv)]at cs;exact Fh [.k cp,.g 25 true (by rw[decide_eq_false λe=>he (Pf.1 e)];rfl),.k cb,.f (decide_eq_false hb0),.k cs] rfl
theorem Qdj(h:AT t C N lo hi)(hN:N<=900000){p:Ft}(hp:Dp p):Fo 16 [.one (rp (zp p)),.agg (ax t.p C lo hi)] [.oi (Hk (Hb t) p)]:=by
 refine Sk func16 rfl ?_;refine Ff [] rfl ?_;refine Fl (S:=Ft) 1 (λL1 r=>(0,.v (.one (rp (zp r))))::L1) (λ_=>[.blk 36 (ax t.p C lo hi)]) (λr=>r.length) (λr=>Dp r/\Pm (Hb t) r.length r=Hk (Hb t) p) p ⟨hp,rfl⟩ rfl rfl λr ⟨hr,hr2⟩=>?_
 have hrl:=GI r;have hl:=hr.l;rcases Qx r.length with h0|h0
 ·rw[YA _ h0]at hr2;exact Fh [.F] rfl (by rw[<-hr2]) trivial
 have cs:=Qhg h hN hr (by omega);by_cases hs:Hb t r=0
 ·have hd:=Pw r;refine Ff [.T,.k cs,.f (decide_eq_false (λh=>h hs)),.k (vJ (p:=r) (Gd (vT hr) (by decide)) (by omega))] rfl ?_;exact rd (Hn r) (by omega) ⟨hr.der,by rw[<-hr2,YE _ h0 hs]⟩ rfl
 ·exact Fh [.T,.k cs,.t (decide_eq_true hs)] rfl (by rw[<-hr2,YL _ h0 hs]) trivial
end
end Orq
namespace Orr
def QK(p:Ft)(d:Int):Fw:=p.map λ(z:Int)=>(z:Rat) / (d:Rat)
theorem Dm(p:Ft)(d:Int):(QK p d).length=p.length:=Q4 _
theorem Qqz{p:Ft}{i:Nat}{z:Int}{d:Int}(h:p[i]? = some z):(QK p d)[i]? = some ((z:Rat) / (d:Rat)):=by simp[QK,h]
theorem OF(p:Ft)(d:Int)(i:Nat):(QK p d).getD i 0=((p.getD i 0:Int):Rat) / (d:Rat):=by
 simp only[Qc,QK,Zb];cases p[i]? with
 |none=>simp;grind
 |some z=>rfl
theorem XD(z d:Int):(z:Rat) / (d:Rat)=Rat.divInt z d:=by
 by_cases h:d=0
 ·subst h;simp;grind
 ·rw[Yp];have e1:(z:Rat)=Rat.divInt z 1:=by have:=Z9 (z:Rat);simpa using this.symm
  have e2:(d:Rat)⁻¹=Rat.divInt 1 d:=by
   have:(d:Rat)=Rat.divInt d 1:=by have:=Z9 (d:Rat);simpa using this.symm
   rw[this,Rat.inv_divInt]
  rw[e1,e2,Wz];simp
theorem Qou{z d:Int}(hd:0<d):(((z:Rat) / (d:Rat)).den:Int)*(Int.gcd z d:Nat)=d:=by
 rw[XD];have h:=(kS (n:=z) hd).2;rw[<-h,Lo,Int.gcd_comm];exact Uc (Kh ..)
theorem Qjv{d a b L:Nat}(hd:0<d)(ha:L*a=d){D:Nat}(hb:D*b=d):L*D / Nat.gcd L D*Nat.gcd a b=d:=by
 have hL:0<L:=Un λe=>by rw[e]at ha;omega
 have hD:0<D:=Un λe=>by rw[e]at hb;omega
 have hg:0<Nat.gcd L D:=Nat.gcd_pos_of_pos_left _ hL;show Nat.lcm L D*Nat.gcd a b=d;rw[<-Nat.gcd_mul_left];refine Nat.dvd_antisymm ?_ ?_
 ·-- gcd (M a) (M b)|d
  obtain⟨u,hu⟩:=Wv L D;obtain⟨v,hv⟩:=Ut L D;have hM:Nat.lcm L D=Nat.gcd L D*(u*v):=by
   unfold Nat.lcm
   conv=>lhs;rw[show L*D=Nat.gcd L D*u*(Nat.gcd L D*v) by rw[<-hu,<-hv]]
   rw[show Nat.gcd L D*u*(Nat.gcd L D*v)=Nat.gcd L D*(Nat.gcd L D*(u*v)) by rw[Xy,Wp u,]];exact Nat.mul_div_cancel_left _ hg
  have h1:Nat.lcm L D*a=v*d:=by
   rw[hM,<-ha]
   conv=>rhs;rw[hu]
   simp[Zo,Wp,Xy]
  have h2:Nat.lcm L D*b=u*d:=by
   rw[hM,<-hb]
   conv=>rhs;rw[hv]
   simp[Zo,Wp,Xy]
  have huv:Nat.gcd u v=1:=by
   have:=Nat.gcd_mul_left (Nat.gcd L D) u v;rw[<-hu,<-hv]at this;exact Nat.eq_of_mul_eq_mul_left hg (by omega)
  rw[h1,h2,Uu,W8,huv,Uj];exact Nat.dvd_refl d
 ·refine Nat.dvd_gcd ?_ ?_
  ·rw[<-ha];exact Nat.mul_dvd_mul_right (Nat.dvd_lcm_left L D) a
  ·rw[<-hb];exact Nat.mul_dvd_mul_right (Nat.dvd_lcm_right L D) b
def fP(z:Ft)(d:Int):Nat->Int
 | 0=>1
 |i+1=>fP z d i*((((z.getD i 0:Int):Rat) / (d:Rat)).den:Int) / (Int.gcd (fP z d i) ((((z.getD i 0:Int):Rat) / (d:Rat)).den:Int):Nat)
theorem dB{z:Ft}{d:Int}(hd:0<d):∀i,i<=z.length->fP z d i*((Tx (d::z.take i):Nat):Int)=d
 |
  0,_=>by
  show 1*_=d;have:((Tx [d]:Nat):Int)=d:=by unfold Tx;simp;omega
  rw[Vy,this,Vm]
 |
  i+1,hi=>by
  have ih:=dB (z:=z) hd i (by omega);have hz:z[i]? = some (z.getD i 0):=PK (l:=z) (by omega);have hstep:Tx (d::z.take (i+1))=Nat.gcd (Tx (d::z.take i)) (z.getD i 0).natAbs:=by
   have:=PY (l:=d::z) (i:=i+1) (z:=z.getD i 0) (by simpa using hz);simpa using this
  have hdn:=Qou (z:=z.getD i 0) hd;simp only[fP];generalize hL:fP z d i=L at *;generalize hD:(((z.getD i 0:Int):Rat) / (d:Rat)).den=D at *;have hLp:0<L:=by
   rcases Yg L 0 with h|h|h
   ·have:=Int.mul_nonneg (Int.neg_nonneg_of_nonpos (W3 h)) (Int.natCast_nonneg (Tx (d::z.take i)));rw[Kb]at this;omega
   ·rw[h,Yy]at ih;omega
   ·exact h
  obtain⟨l,rfl⟩:=Vi (W3 hLp);obtain⟨e,rfl⟩:=Vi (W3 hd);have h1:l*Tx (((e:Nat):Int)::z.take i)=e:=by exact_mod_cast ih
  have h2:D*Int.gcd (z.getD i 0) ((e:Nat):Int)=e:=by exact_mod_cast hdn
  have h3:=Qjv (d:=e) (by omega) h1 h2;have h4:Nat.gcd (Tx (((e:Nat):Int)::z.take i)) (Int.gcd (z.getD i 0) ((e:Nat):Int))=Nat.gcd (Tx (((e:Nat):Int)::z.take i)) (z.getD i 0).natAbs:=by
   have hge:Tx (((e:Nat):Int)::z.take i)∣e:=⟨l,by rw[Zo];exact h1.symm⟩;show Nat.gcd _ (Nat.gcd (z.getD i 0).natAbs e)=_;rw[W8 (z.getD i 0).natAbs e,<-Nat.gcd_assoc,Nat.gcd_eq_left hge]
  rw[hstep,<-h4];rw[show Int.gcd ((l:Nat):Int) ((D:Nat):Int)=Nat.gcd l D by simp[Int.gcd]]
  exact_mod_cast h3
theorem Qpk{x y:Ft}{d:Int}(hd:0<d)(hg:Tx (d::(x++y))=1):fP (x++y) d (x++y).length=d:=by
 have:=dB (z:=x++y) hd (x++y).length (Qn _);rw[Za,hg]at this;simpa using this
theorem Qpm{z:Ft}{d:Int}(hd:0<d){i:Nat}(hi:i<=z.length):Gy (fP z d i)<=Gy d:=by
 have h:=dB (z:=z) hd i hi;refine Pi ?_;have h0:Tx (d::z.take i)≠0:=λe=>by rw[e]at h;simp at h;omega
 have:d.natAbs=(fP z d i).natAbs*Tx (d::z.take i):=by
  conv=>lhs;rw[<-h]
  rw[Yd];simp
 rw[this];exact Ya _ (Un h0)
end Orr
