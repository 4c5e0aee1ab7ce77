/- R6 R7 R8 R9 Z3 R27 R28 ZC Z4 KGoL SplitL Z5 SortQ HullG RawL NewsL BegL TurnL PairN DetL H1 EZ Z6 Z7 ZD ZE ZF ZI RefCL R10 R11 R12 R13 -/
import Derived.Test.YtdcbpgmmopdelaaGreatPart07
import Derived.Test.YtdcbpgmmopdelaaGreatPart05
import Derived.Test.YtdcbpgmmopdelaaGreatPart00
import Derived.Test.YtdcbpgmmopdelaaGreatPart04
import Derived.Test.YtdcbpgmmopdelaaGreatPart06
set_option linter.all false
namespace Orr
open Go Go.Proofs Tryz
set_option maxRecDepth 10000
theorem Qbp{a b:Int}(ha:Ff a<=40000000)(hb:Ff b<=40000000):Uj 171 [.agg (fr (a:Rat)),.agg (fr (b:Rat))] [.agg (fr ((a*b:Int):Rat))]:=by
 have h:=rY (D6 ha (by decide)) (D6 hb (by decide));rw[<-X3]at h;exact h
theorem Qoe{a b:Int}(ha:Ff a<=20000000)(hb:Ff b<=20000000):Uj 100 [.agg (fr (a:Rat)),.agg (fr (b:Rat))] [.agg (fr ((a+b:Int):Rat))]:=by
 have h:=qX (D6 ha (by decide)) (D6 hb (by decide));rw[<-Kg]at h;exact h
theorem kC(l:Um)(i:Nat)(z:Int):(frow (zp l)).set i (fr (z:Rat))=frow (zp (l.set i z)):=by simp[frow,zp,V0]
theorem Qh6{p:Um}{i:Nat}(h:i<p.length):(zp p)[i]? = some ((p.getD i 0:Int):Rat):=Qh5 (Rz h)
theorem Tu{p:Um}{i:Nat}(h:i<p.length):(frow (zp p))[i]? = some (fr ((p.getD i 0:Int):Rat)):=Ei (Qh6 h)
theorem VF(p:Um):(frow (zp p)).length=p.length:=by rw[To,Sf]
abbrev zR:Ur:=[.nils,.bool false,.nils,.bool false]
theorem zJ{n i:Nat}(h:i<n):(List.replicate i (fr 0)++List.replicate (n-i) zR).set i (fr 0)=List.replicate (i+1) (fr 0)++List.replicate (n-(i+1)) zR:=by
 rw[List.set_append_right _ _ (by simp),X1,J4,show n-i=n-(i+1)+1 by omega,Jx (n:=n-(i+1)),List.set_cons_zero,List.replicate_succ' (n:=i),Zk];rfl
theorem DO(n:Nat):List.replicate n (fr 0)++List.replicate (n-n) zR=frow (zp (List.replicate n 0)):=by simp[zp,frow]
theorem Au{p q:Um}{s t:Nat}(hlp:p.length<=1000000)(hlq:q.length<=1000000)(hp:Bd s p)(hq:Bd t q)(hst:s+t<=19000000):Uj 259 [.one (rp (zp p)),.one (rp (zp q))] [.one (rp (zp (U9 p q)))]:=by
 have De:=VF p;have hql:=VF q;rcases Qy p.length with h0|h0
 ·have e:U9 p q=[]:=by unfold U9;rw[if_pos (.inl h0)]
  rw[e];exact Ug func259 rfl [.g 12 true Ul,.t rfl] rfl
 rcases Qy q.length with h1|h1
 ·have e:U9 p q=[]:=by unfold U9;rw[if_pos (.inr h1)]
  rw[e];exact Ug func259 rfl [.g 12 false Uk,.T] rfl
 have e:U9 p q=trim (Cc p q (List.replicate (p.length+q.length-1) 0) p.length):=by unfold U9;rw[if_neg (by omega)]
 rw[e];obtain⟨N,hN⟩:=nmE (p.length+q.length-1);rw[<-hN];obtain⟨o,ho⟩:=nmE (List.replicate N (0:Int));rw[<-ho];have hol:o.length=N:=by rw[ho];simp
 have ho0:∀m,o.getD m 0=0:=λm=>by rw[ho];exact Hu N m
 have cc:=On (p:=zp (Cc p q o p.length));rw[Ns]at cc;refine Hz func259 rfl ?_;refine Ue [.g 12 false Uk,.F,.r 22 (eI (b:=(N:Int)) (by omega)),.i N,.i N,.r 25 (eI (b:=(N:Int)) (by simp))] rfl ?_;refine Ui (S:=Nat) 1 (λL1 i=>(26,.v (.oi i))::L1) (λi=>[.row false 34 4 (List.replicate i (fr 0)++List.replicate (N-i) zR)]) (λi=>N-i) (λi=>i<=N) 0 (Qg _) rfl rfl λi hi=>?_
 by_cases hlt:i<N
 ·refine Ue [.T,.k aS,.i i] rfl ?_;rw[zJ hlt];exact rd (i+1) (by omega) hlt rfl
 have hiN:i=N:=by omega
 rw[hiN,DO,<-ho];clear hiN hlt hi;refine Ud [.F] rfl ?_;refine Ui (S:=Nat) 1 (λL1 i=>(36,.v (.oi i))::L1) (λi=>[.row false 34 4 (frow (zp (Cc p q o i)))]) (λi=>p.length-i) (λi=>i<=p.length) 0 (Qg _) rfl rfl λi hi=>?_
 by_cases hlt:i<p.length
 ·refine Ud [.T] rfl ?_;refine Ui (S:=Nat) 1 (λL1 k=>(41,.v (.oi k))::L1) (λk=>[.row false 34 4 (frow (zp (Iu (p.getD i 0) q i (Cc p q o i) k)))]) (λk=>q.length-k) (λk=>k<=q.length) 0 (Qg _) rfl rfl λk hk=>?_
  by_cases hk2:k<q.length
  ·have hm1:Ff ((Iu (p.getD i 0) q i (Cc p q o i) k).getD (i+k) 0)<=20000000:=Qc (A1 (t:=39) (xX (by rw[Cd];omega) (xZ (λj hj=>by omega) ho0 (λi j=>Ng (Fh hp i) (Fh hq j))) (λj=>Ng (Fh hp i) (Fh hq j)) (i+k)) (Kj (show i+1<549755813888 by omega) (by decide))) (by omega);have hm2:Ff (p.getD i 0*q.getD k 0)<=20000000:=Qc (Ga _ _) (by have:=Fh hp i;have:=Fh hq k;omega);have hml:(Iu (p.getD i 0) q i (Cc p q o i) k).length=N:=by rw[Iv,Cd,hol]
   have cm:=Qbp (a:=p.getD i 0) (b:=q.getD k 0) (Qc (Fh hp i) (by omega)) (Qc (Fh hq k) (by omega));have hfl:=VF (Iu (p.getD i 0) q i (Cc p q o i) k);refine go tt [.T,.i (i+k),.x (Tu (p:=Iu (p.getD i 0) q i (Cc p q o i) k) (i:=i+k) (by omega)),.x (Tu hlt),.x (Tu hk2),.k cm,.k (Qoe hm1 hm2),.i (i+k)] rfl (by simp[Uw,hfl,-List.getD_eq_getElem?_getD] <;> omega) ?_;rw[kC];exact rd (k+1) (by omega) hk2 rfl
  ·obtain rfl:k=q.length:=by omega
   exact go tt [.F] rfl (by simp[Uw];omega) (rd (i+1) (by omega) hlt rfl)
 ·obtain rfl:i=p.length:=by omega
  exact Uf [.F,.k cc] rfl
def kR(p:Um)(n:Nat):Um:=(List.range n).map λk=>p.getD (k+1) 0*((k+1:Nat):Int)
theorem Qdp(p:Um)(n:Nat):(kR p n).length=n:=by simp[kR]
theorem iN(p:Um)(n:Nat):kR p (n+1)=kR p n++[p.getD (n+1) 0*((n+1:Nat):Int)]:=by simp[kR,K9]
theorem yR(p:Um)(z:Int):frow (zp (p++[z]))=frow (zp p)++[fr (z:Rat)]:=by simp[frow,zp]
theorem qR{p:Um}(hp:Bd 40000000 p)(hl:p.length<=1000000):Uj 60 [.one (rp (zp p))] [.one (rp (zp (Fv p)))]:=by
 have De:=VF p;have cc:=On (p:=zp (kR p (p.length-1)));rw[Ns]at cc;refine Hz func60 rfl ?_;refine Ud [.o 3 34 4] rfl ?_;refine Ui (S:=Nat) 1 (λL1 j=>(4,.v (.oi ((j+1:Nat):Int)))::(3,.v (.one (.orow 0 4 none)))::L1) (λj=>[.row false 34 4 (frow (zp (kR p j)))]) (λj=>p.length-j) (λj=>j<=p.length-1) 0 (Qg _) rfl rfl λj hj=>?_
 have hfl:=VF (kR p j);rw[Qdp]at hfl;by_cases h:j+1<p.length
 ·have hk:Ff ((j+1:Nat):Int)<=40000000:=Qc (zP (t:=38) (k:=j+1) (Kj (show j+1<274877906944 by omega) (by decide))) (by decide);refine go tt [.T,.x (Tu h),.k (VJ (n:=((j+1:Nat):Int)) (by omega)),.k (Qbp (Fh hp (j+1)) hk),.s (sz:=4) (wM _)] rfl (by simp[Uw,hfl,-List.getD_eq_getElem?_getD] <;> omega) ?_;exact rd (j+1) (by omega) (by omega) (by rw[iN,yR];rfl)
 ·have e:j=p.length-1:=by omega
  rw[e];exact Uf [.F,.k cc] rfl
theorem Qpa(z:Int):fr (z:Rat)=[nd z.natAbs,sg z,.row [[.int .i64 1]],.bool false]:=by
 have e:Gg 1=[1]:=by rw[Oq (by decide),show 1 / 10000=0 from rfl,Hm]
 show [nd z.natAbs,sg z,nd 1,sg 1]=_;unfold nd dl;rw[e];rfl
theorem Qck{p:Um}(hl:p.length<=1000000):Uj 265 [.one (rp (zp p))] [.one (.bool true)]:=by
 have De:=VF p;refine Hz func265 rfl ?_;refine Ud [] rfl ?_;refine Ui (S:=Nat) 0 (λL1 i=>(6,.v (.oi i))::L1) (λ_=>[]) (λi=>p.length-i) (λi=>i<=p.length) 0 (Qg _) rfl rfl λi hi=>?_
 by_cases h:i<p.length
 ·have hg:=Tu h;rw[Qpa]at hg;refine Ue [.T,.x hg,.g 17 false rfl,.x hg,.x (l:=[[.int .i64 1]]) (i:=0) (xs:=[.int .i64 1]) rfl,.f rfl] rfl ?_;exact rd (i+1) (by omega) h rfl
 ·exact Uf [.F] rfl
theorem eV:[LV.nils,LV.bool false].map SY=ri 0:=by
 show _=[nd 0,sg 0];unfold nd dl;rw[Hm];rfl
theorem pF(p:Um)(q:Rat):Int.sign (Mq p q.num q.den p.length).1=Fy p q:=by
 unfold Fy Qlb Dz;generalize (Mq p q.num q.den p.length).1=z;rcases Jw z 0 with h|h|h
 ·rw[if_pos h,Jd h]
 ·subst h;rfl
 ·rw[if_neg (by omega),if_pos h,Ju h]
theorem Om{p:Um}{q:Rat}(hp:Bd 30000000 p)(hl:p.length<=64)(hq:Qs 2000000 q):Uj 168 [.one (rp (zp p)),.agg (fr q)] [.oi (Fy p q)]:=by
 have De:=VF p;refine Hz func168 rfl ?_;refine Ue [.k (Qck (p:=p) (by omega)),.f rfl,.k (D9 (n:=1) (by decide)),.r 19 (eI (b:=(p.length:Int)-1-((0:Nat):Int)) (by simp;omega))] rfl ?_;refine nlb 1 rfl rfl rfl ?_;rw[eV];refine Ui (S:=Nat) 3 (λL1 j=>(7,.v (.oi ((p.length:Int)-1-(j:Int))))::L1) (λj=>[.blk 34 (fr q),.blk 32 (ri (Mq p q.num q.den j).1),.blk 32 (ri (Mq p q.num q.den j).2)]) (λj=>p.length-j) (λj=>j<=p.length) 0 (Qg _) rfl rfl λj hj=>?_
 have hv:=yX (k:=j) hp hq.1 hq.2;have hjl:j*(2000000+1)<=p.length*(2000000+1):=Qw _ (by omega);by_cases h:j<p.length
 ·have hc:=Fh hp (p.length-1-j);have hq1:=hq.1;have hq2:=hq.2;have hm1:Ff ((Mq p q.num q.den j).1*q.num)<=200000000:=Qc (Ga _ _) (by omega);have hm2:Ff (p.getD (p.length-1-j) 0*(Mq p q.num q.den j).2)<=200000000:=Qc (Ga _ _) (by omega);refine go tt [.T,.k (Mh (a:=(Mq p q.num q.den j).1) (b:=q.num) (by omega) (by omega)),.r 29 (eI (b:=((p.length-1-j:Nat):Int)) (by omega)),.x (Tu (p:=p) (i:=p.length-1-j) (by omega)),.k (Mh (a:=p.getD (p.length-1-j) 0) (b:=(Mq p q.num q.den j).2) (by omega) (by omega)),.k (rT hm1 hm2),.k (Mh (a:=(Mq p q.num q.den j).2) (b:=(q.den:Int)) (by omega) (by omega)),.r 23 (eI (b:=(p.length:Int)-1-((j+1:Nat):Int)) (by omega))] rfl (by simp[Uw] <;> omega) ?_;exact rd (j+1) (by omega) h rfl
 ·obtain rfl:j=p.length:=by omega
  exact Uf [.F,.k nI] rfl (by rw[pF]) trivial
theorem RRun.inv{b a r:Um}{k:Nat}(h:RRun b k a r):(k=0/\a=r/\a.length<b.length)\/(∃j,k=j+1/\b.length<=a.length/\a.length<=1000/\Bd 9000000 a/\Bd 9000000 b/\RRun b j (Aq a b) r):=by
 cases h with
 |stop h=>exact .inl ⟨rfl,rfl,h⟩
 |step h1 h2 h3 h4 h5=>exact .inr ⟨_,rfl,h1,h2,h3,h4,h5⟩
theorem Qlq{a b:Um}(ha:Bd 9000000 a):Ff (Du a b)<=9000000:=by
 unfold Du;split
 ·rw[Hy];exact Fh ha _
 ·exact Fh ha _
theorem Qlk(n:Nat):ri (n:Int)=[nd n,.bool false]:=by
 show [nd n,sg (n:Int)]=_;unfold sg;rw[decide_eq_false (by omega)]
def jG(a b:Um)(n:Nat):Um:=(List.range n).map (D7 a b)
theorem Qgo(a b:Um)(n:Nat):(jG a b n).length=n:=by simp[jG]
theorem OK(a b:Um)(n:Nat):jG a b (n+1)=jG a b n++[D7 a b n]:=by simp[jG,K9]
theorem bY{a0 b res:Um}{n:Nat}(hb0:0<b.length)(hb1:b.length<=1000)(hbb0:Bd 9000000 b)(hrun:RRun b n a0 res):Uj 257 [.one (rp (zp a0)),.one (rp (zp b))] [.one (rp (zp res))]:=by
 have hbl:=VF b;have hle:Ff (((Fi b).natAbs:Nat):Int)<=9000000:=Fh hbb0 _;refine Hz func257 rfl ?_;refine Ue [.r 15 (eI (b:=((b.length-1:Nat):Int)) (by omega)),.x (Tu (p:=b) (i:=b.length-1) (by omega))] rfl ?_;refine sb [(0,.v (.one (rp (zp a0)))),(1,.v (.one (rp (zp b)))),(5,.v (.one (.ow 0 0))),(6,.v (.one (.ow 1 0)))] [.blk 32 (ri (Fi b)),.blk 32 [nd (Fi b).natAbs,.bool false]] rfl rfl ?_;refine Ui (S:=Nat×Um) 2 (λL1 s=>(0,.v (.one (rp (zp s.2))))::L1) (λ_=>[.blk 32 (ri (Fi b)),.blk 32 [nd (Fi b).natAbs,.bool false]]) (λs=>s.1) (λs=>RRun b s.1 s.2 res) (n,a0) hrun rfl rfl λ⟨k,a⟩ hs=>?_
 have hal:=VF a;have hs:RRun b k a res:=hs;rcases RRun.inv hs with⟨rfl,rfl,h1⟩|⟨j,rfl,h1,h2,ha,hb,hr⟩
 ·exact Uf [.f (decide_eq_false (by dsimp only;omega))] rfl
 obtain⟨K,hK⟩:=nmE (a.length-b.length);have htb:=Qlq (b:=b) ha;have cc:=On (p:=zp (jG a b a.length));rw[Ns,show trim (jG a b a.length)=Aq a b from rfl]at cc;refine Ue [.t (decide_eq_true (by dsimp only;omega)),.r 30 (eI (b:=(K:Int)) (by dsimp only;omega)),.r 34 (eI (b:=((a.length-1:Nat):Int)) (by dsimp only;omega)),.x (Tu (p:=a) (i:=a.length-1) (by omega))] rfl ?_;refine ct 1 (S:=Unit) (λ_=>[(0,.v (.one (rp (zp a)))),(1,.v (.one (rp (zp b)))),(5,.v (.one (.ow 0 0))),(6,.v (.one (.ow 1 0))),(7,.v (.oi K)),(8,.v (.one (.ow 2 0)))]) (λ_=>[.blk 32 (ri (Fi b)),.blk 32 [nd (Fi b).natAbs,.bool false],.blk 32 (ri (Du a b))]) (λ_=>True) rfl ?_ (λ_ _=>?_)
 ·by_cases hn:Fi b<0
  ·have e:Du a b=-(Fi a):=if_pos hn;rw[e];exact go tt [.t (decide_eq_true hn),.k (Oi (z:=Fi a))] rfl trivial (rc () trivial rfl)
  ·have e:Du a b=Fi a:=if_neg hn;rw[e];exact go tt [.f (decide_eq_false hn)] rfl trivial (rc () trivial rfl)
 refine Ud [.o 9 34 4] rfl ?_;refine Ui (S:=Nat) 4 (λL1 i=>(44,.v (.oi i))::(9,.v (.one (.orow 3 4 none)))::L1) (λi=>[.blk 32 (ri (Fi b)),.blk 32 [nd (Fi b).natAbs,.bool false],.blk 32 (ri (Du a b)),.row false 34 4 (frow (zp (jG a b i)))]) (λi=>a.length-i) (λi=>i<=a.length) 0 (Qg _) rfl rfl λi hi=>?_
 have hfl:=VF (jG a b i);rw[Qgo]at hfl;by_cases h:i<a.length
 ·have cm:=Mh (a:=a.getD i 0) (b:=(((Fi b).natAbs:Nat):Int)) (Qc (Fh ha i) (by decide)) (by omega);have hm:=Ga (a.getD i 0) (((Fi b).natAbs:Nat):Int);have hai:=Fh ha i;rw[Qlk (Fi b).natAbs]at cm;by_cases hk:K<=i
  ·have hbi:=Fh hb (i-K);have hm2:=Ga (Du a b) (b.getD (i-K) 0);have e:D7 a b i=a.getD i 0*(((Fi b).natAbs:Nat):Int)-Du a b*b.getD (i-K) 0:=by unfold D7;rw[if_pos (by omega),hK]
   refine go tt [.T,.x (Tu h),.k cm,.T,.r 62 (eI (b:=((i-K:Nat):Int)) (by omega)),.x (Tu (p:=b) (i:=i-K) (by omega)),.k (Mh (a:=Du a b) (b:=b.getD (i-K) 0) (by omega) (by omega)),.k (Qca (by omega) (by omega)),.k (D9 (n:=1) (by decide)),.k (Nc (n:=a.getD i 0*(((Fi b).natAbs:Nat):Int)-Du a b*b.getD (i-K) 0)),.s (sz:=4) (wM _)] rfl (by simp[Uw,hfl,-List.getD_eq_getElem?_getD] <;> omega) ?_;exact rd (i+1) (by omega) h (by rw[OK,yR,e];rfl)
  ·have e:D7 a b i=a.getD i 0*(((Fi b).natAbs:Nat):Int):=by unfold D7;rw[if_neg (by omega),Int.sub_zero]
   refine go tt [.T,.x (Tu h),.k cm,.F,.k (D9 (n:=1) (by decide)),.k (Nc (n:=a.getD i 0*(((Fi b).natAbs:Nat):Int))),.s (sz:=4) (wM _)] rfl (by simp[Uw,hfl,-List.getD_eq_getElem?_getD] <;> omega) ?_;exact rd (i+1) (by omega) h (by rw[OK,yR,e];rfl)
 ·have e:i=a.length:=by omega
  rw[e];exact go tt [.F,.k cc] rfl trivial (rd (j,Aq a b) (by omega) hr rfl)
theorem Qot:Uj 221 [.agg (ri 1),.agg (ri 1)] [.agg (ri 1)]:=Mh (a:=1) (b:=1) (by decide) (by decide)
theorem Qi1:Uj 251 [.agg (ri 1),.agg (ri 1)] [.agg (ri 1)]:=MM (a:=1) (b:=1) (by decide) (by decide)
theorem Qiv{z:Int}(hz:Ff z<=90000000):Uj 221 [.agg (ri z),.agg (ri 1)] [.agg (ri z)]:=by
 have h:=Mh (a:=z) (b:=1) (by omega) (by decide);rwa[Wm]at h
theorem nT{z:Int}(hz:Ff z<=90000000):Uj 252 [.agg (ri z),.agg (ri 1)] [.agg (ri z)]:=by
 have h:=FR (a:=z) (b:=1) hz (by decide) (by decide) (Int.emod_one z);rwa[Vx]at h
theorem Qbr{z:Int}:Uj 154 [.agg (fr (z:Rat))] [.agg (fr ((-z:Int):Rat))]:=by
 have h:=Qbq (a:=(z:Rat));rwa[<-Vn]at h
theorem Qp5{c:Int}(hc:c≠0)(hs:Ff c<=9000000):Qs 40000000 (((1:Int):Rat) / (c:Rat)):=by
 have h0:(c:Rat)≠0:=λe=>hc (by exact_mod_cast e)
 rw[<-II h0];unfold H4;rw[if_neg (Xq (Nv _) (λe=>hc (by simpa using e)))];refine Qs.divInt (by show Ff (1*1)<=_;decide) ?_ (by decide);show Ff (1*c)<=_;rw[Yy];omega
theorem rU{p:Um}{c:Int}(hc:c≠0)(hs:Ff c<=9000000)(hd:∀j,c∣p.getD j 0)(hp:Bd 9000000 p)(hl:p.length<=1000):Uj 249 [.one (rp (zp p)),.agg (fr (((1:Int):Rat) / (c:Rat)))] [.one (rp (zp (Mt p.length λi=>p.getD i 0 / c)))]:=by
 have h:=Ii ((QR hp (by omega)).mono (by omega)) (Qp5 hc hs) (by rw[Sf];omega);rwa[show((1:Int):Rat)=1 from rfl,mQ hc hd]at h
theorem Ol{p:Um}(tp:Uz p)(hp:Bd 9000000 p)(hl:p.length<=1000):Uj 315 [.one (rp (zp p))] [.agg (fr ((Mz p:Int):Rat)),.one (rp (zp (Hg p)))]:=by
 have De:=VF p;rcases Qy p.length with h0|h0
 ·have e:=Qh h0;subst e;exact Ug func315 rfl [.t rfl,.k aS] rfl
 have hc:=Qd0 tp h0;refine Hz func315 rfl ?_;refine Ud [.F,.k (D9 (n:=1) (by decide))] rfl ?_;refine Ui (S:=Nat) 2 (λL1 i=>(16,.v (.oi i))::L1) (λi=>[.blk 34 [.nils,.bool false,.nils,.bool false],.blk 32 (ri 1)]) (λi=>p.length-i) (λi=>i<=p.length) 0 (Qg _) rfl rfl λi hi=>?_
 by_cases h:i<p.length
 ·refine Ue [.T,.x (Tu h),.k Qot,.x (Tu h),.k Qi1,.k (nT (z:=1) (by decide))] rfl ?_;exact rd (i+1) (by omega) h rfl
 refine Ud [.F] rfl ?_;clear h hi;refine nlb 2 rfl rfl rfl ?_;rw[eV];refine Ui (S:=Nat) 3 (λL1 i=>(37,.v (.oi i))::L1) (λi=>[.blk 34 [.nils,.bool false,.nils,.bool false],.blk 32 (ri 1),.blk 32 (ri ((Af p i:Nat):Int))]) (λi=>p.length-i) (λi=>i<=p.length) 0 (Qg _) rfl rfl λi hi=>?_
 by_cases h:i<p.length
 ·have hb:=Fh hp i;have hg:=ZY hp i;refine Ue [.T,.x (Tu h),.k (Qiv (z:=p.getD i 0) (by omega)),.x (Tu h),.k (nT (z:=p.getD i 0) (by omega)),.k (MM (a:=((Af p i:Nat):Int)) (b:=p.getD i 0) (by omega) (by omega))] rfl ?_;exact rd (i+1) (by omega) h rfl
 have e:i=p.length:=by omega
 rw[e];have co:=VJ (n:=1) (by decide);have cs:=rU hc (AQ hp) (iE p) hp hl;by_cases hn:Fi p<0
 ·have e2:Mz p=-((cont p:Nat):Int):=if_pos hn;rw[show(λi=>p.getD i 0 / Mz p)=λi=>p.getD i 0 / Mz p from rfl]at cs;have cn:=Qbr (z:=((cont p:Nat):Int));rw[<-e2]at cn;exact Uf [.F,.k (Nc (n:=((cont p:Nat):Int))),.r 62 (eI (b:=((p.length-1:Nat):Int)) (by omega)),.x (Tu (p:=p) (i:=p.length-1) (by omega)),.t (decide_eq_true hn),.k cn,.k co,.k (qK (a:=((1:Int):Rat)) (b:=((Mz p:Int):Rat)) ⟨by decide,by decide⟩ (D6 (by have:=AQ hp;omega) (by decide)) (λe=>hc (by exact_mod_cast e))),.k cs] rfl rfl (by simp[Uw];omega)
 ·have e2:Mz p=((cont p:Nat):Int):=if_neg hn;have cm:=Nc (n:=Mz p);rw[e2]at cm cs hc ⊢;exact Uf [.F,.k cm,.r 62 (eI (b:=((p.length-1:Nat):Int)) (by omega)),.x (Tu (p:=p) (i:=p.length-1) (by omega)),.f (decide_eq_false hn),.k co,.k (qK (a:=((1:Int):Rat)) (b:=((((cont p:Nat):Int):Int):Rat)) ⟨by decide,by decide⟩ (D6 (by have:=ZY hp p.length;unfold cont;omega) (by decide)) (λe=>hc (by exact_mod_cast e))),.k cs] rfl (by unfold Hg;rw[e2];rfl) (by simp[Uw];omega)
theorem Oj{p:Um}(tp:Uz p)(hp:Bd 9000000 p)(hl:p.length<=1000):Uj 202 [.one (rp (zp p))] [.one (rp (zp (Hg p)))] :=
 Ug func202 rfl [.k (Ol tp hp hl)] rfl
theorem AZ{p:Um}(tp:Uz p):Mz p<0↔Fi p<0:=by
 unfold Mz;rcases Qy p.length with h0|h0
 ·have:=Qh h0;subst this;decide
 ·have:=vI tp h0
  split <;> omega
theorem rS{p:Um}(hp:Bd 9000000 p)(hl:p.length<=1000000):Uj 256 [.one (rp (zp p))] [.one (rp (zp (P0 p)))]:=by
 have h:=rN ((QR hp (by decide)).mono (by decide)) (by rw[Sf];exact hl);rwa[eK]at h
theorem vV{p:Um}(tp:Uz p)(hp:Bd 9000000 p)(hl:p.length<=1000):Uj 255 [.one (rp (zp p))] [.one (rp (zp (Rr p)))]:=by
 by_cases hn:Fi p<0
 ·have e:Rr p=P0 (Hg p):=if_pos hn;rw[e];exact Ug func255 rfl [.k (Ol tp hp hl),.t (decide_eq_true ((AZ tp).2 hn)),.k (rS (MG hp) (Qc (GN p) (by omega)))] rfl
 ·have e:Rr p=Hg p:=if_neg hn;rw[e];exact Ug func255 rfl [.k (Ol tp hp hl),.f (decide_eq_false λh=>hn ((AZ tp).1 h))] rfl
theorem Qch{a b g:Um}{n:Nat}(ta:Uz a)(tb:Uz b)(ha:Bd 9000000 a)(hb:Bd 9000000 b)(la:a.length<=1000)(lb:b.length<=1000)(hrun:GRun n (Hg a) (Hg b) g):Uj 264 [.one (rp (zp a)),.one (rp (zp b))] [.one (rp (zp g))]:=by
 refine Hz func264 rfl ?_;refine Ud [.k (Oj ta ha la),.k (Oj tb hb lb)] rfl ?_;refine sb [(0,.v (.one (rp (zp (Hg a))))),(1,.v (.one (rp (zp (Hg b)))))] [] rfl rfl ?_;refine Ui (S:=Nat×Um×Um) 0 (λL1 s=>(0,.v (.one (rp (zp s.2.1))))::(1,.v (.one (rp (zp s.2.2))))::L1) (λ_=>[]) (λs=>s.1) (λs=>GRun s.1 s.2.1 s.2.2 g) (n,Hg a,Hg b) hrun rfl rfl λ⟨k,x,y⟩ hs=>?_
 have hs:GRun k x y g:=hs;have hyl:=VF y;rcases hs.inv with⟨hk,hy0,hxg⟩|⟨j,m2,r,hk,hy0,hy1,hyb,hrr,hrl,hrb,hrt,hgr⟩
 ·rw[<-hxg];exact Uf [.f (decide_eq_false (by dsimp only;omega))] rfl
 ·subst hk;refine Ud [.t (decide_eq_true (by dsimp only;omega)),.k (bY (a0:=x) (b:=y) (res:=r) hy0 hy1 hyb hrr),.k (Oj (p:=r) hrt hrb hrl)] rfl ?_;exact rd (j,y,Hg r) (by dsimp only;omega) hgr rfl
theorem Qiw{x y:Int}(hx:Ff x<=9000000)(hy:Ff y<=9000000)(h0:y≠0)(hd:y∣x):Uj 261 [.agg (fr (x:Rat)),.agg (fr (y:Rat))] [.agg (fr ((x / y:Int):Rat))]:=by
 have hy0:(y:Rat)≠0:=λe=>h0 (by exact_mod_cast e)
 have h:=qK (D6 (s:=40000000) (z:=x) (by omega) (by omega)) (D6 (s:=40000000) (z:=y) (by omega) (by omega)) hy0;obtain⟨k,rfl⟩:=hd;rw[Xp _ h0];rwa[show(((y*k:Int):Rat)) / (y:Rat)=(k:Rat) by rw[X3];grind]at h
theorem aM{p:Um}{c:Int}(hp:Bd 40000000 p)(hc:Ff c<=40000000)(hl:p.length<=1000000):Uj 249 [.one (rp (zp p)),.agg (fr (c:Rat))] [.one (rp (zp (Fc p c)))]:=by
 have h:=Ii (QR hp (by omega)) (D6 hc (by omega)) (by rw[Sf];exact hl);rwa[OV]at h
theorem Ql1(k:Nat)(p:Um):frow (zp (List.replicate k 0))++frow (zp p)=frow (zp (Tk k p)):=by simp[zp,Tk,frow]
theorem iO(l:Um)(i:Nat)(z:Int):(frow (zp l)).set i [nd ((z:Rat)).num.natAbs,sg ((z:Rat)).num,nd (((z:Rat)).den:Int).natAbs,sg (((z:Rat)).den:Int)]=frow (zp (l.set i z)):=kC l i z
theorem Qi4{p q:Um}(hp:Bd 18000000 p)(hq:Bd 18000000 q)(hlp:p.length<=1000000)(hlq:q.length<=1000000):Ab prog 276 [.one (rp (zp p)),.one (.orow 0 4 none)] [.row false 34 4 (frow (zp q))] [.one (rp (zp (Su p q)))] [.gone]:=by
 have hn:=rN ((QR hq (by decide)).mono (by decide)) (by rw[Sf];exact hlq);have ha:=rP (p:=zp p) (q:=jW (zp q)) ((QR hp (by decide)).mono (by decide)) ((Qga (QR hq (by decide))).mono (by decide)) (by rw[Sf];exact hlp) (Qc (uL _) (by rw[Sf];exact hlq));have e:Qaa (zp p) (jW (zp q))=zp (Su p q):=eR p q;rw[e]at ha;refine Hz func276 rfl ?_;exact Uh [] [0] [.k hn,.k ha] rfl
theorem aB{a0 b qf rem:Um}{n:Nat}(hb0:0<b.length)(hb1:b.length<=1000)(hl0:a0.length<=1000)(hbb:Bd 9000000 b)(hqb:Bd 9000000 qf)(hrun:DRun b n a0 (List.replicate (a0.length+1-b.length) 0) qf rem):Uj 347 [.one (rp (zp a0)),.one (rp (zp b))] [.one (rp (zp (trim qf))),.one (rp (zp rem))]:=by
 have h0l:=VF a0;have hbl:=VF b;obtain⟨N,hN⟩:=nmE (a0.length+1-b.length);rw[<-hN]at hrun;have cc:=On (p:=zp qf);rw[Ns]at cc;refine Hz func347 rfl ?_;refine Ue [.r 18 (eI (b:=(N:Int)) (by omega)),.i N,.i N,.r 21 (eI (b:=(N:Int)) (by simp))] rfl ?_;refine Ui (S:=Nat) 1 (λL1 i=>(22,.v (.oi i))::L1) (λi=>[.row false 34 4 (List.replicate i (fr 0)++List.replicate (N-i) zR)]) (λi=>N-i) (λi=>i<=N) 0 (Qg _) rfl rfl λi hi=>?_
 by_cases hlt:i<N
 ·refine Ue [.T,.k aS,.i i] rfl ?_;rw[zJ hlt];exact rd (i+1) (by omega) hlt rfl
 have hiN:i=N:=by omega
 rw[hiN,DO];clear hiN hlt hi;refine Ud [.F] rfl ?_;refine sb [(0,.v (.one (rp (zp a0)))),(1,.v (.one (rp (zp b)))),(6,.v (.one (.orow 0 4 none)))] [.row false 34 4 (frow (zp (List.replicate N 0)))] rfl rfl ?_;refine Ui (S:=Nat×Um×Um) 1 (λL1 s=>(0,.v (.one (rp (zp s.2.1))))::L1) (λs=>[.row false 34 4 (frow (zp s.2.2))]) (λs=>s.1) (λs=>DRun b s.1 s.2.1 s.2.2 qf rem/\s.2.2.length=N) (n,a0,List.replicate N 0) ⟨hrun,X1⟩ rfl rfl λ⟨k,a,q⟩ ⟨hr0,hr1⟩=>?_
 have hr0:DRun b k a q qf rem:=hr0;have hr1:q.length=N:=hr1;have hal:=VF a;have hql:=VF q;rcases hr0.inv with⟨hk,hqf,har,hlt⟩|⟨j,hk,hba,hal2,hab,hpb,hpd,hkq,hrj⟩
 ·subst hqf;subst har;exact Uf [.f (decide_eq_false (by dsimp only;omega)),.k cc] rfl
 subst hk;obtain⟨K,hK⟩:=nmE (a.length-b.length);rw[<-hK]at hrj hkq;have hla:Ff (Fi a)<=9000000:=Fh hab _;have hlb:Ff (Fi b)<=9000000:=Fh hbb _;obtain⟨c,hc⟩:=nmE (Fi a / Fi b);have cq:=Qiw hla hlb hpb hpd;have hcs:Ff (Fi a / Fi b)<=9000000:=Qc (ZL _ _) hla;rw[<-hc]at cq hcs hrj;have hsl:=Ft b c;have hqs:∀x,(q.set K x).length=N:=λx=>by rw[X2];exact hr1
 dsimp only;refine go tt [.T,.r 39 (eI (b:=(K:Int)) (by omega)),.r 43 (eI (b:=((a.length-1:Nat):Int)) (by omega)),.x (Tu (p:=a) (i:=a.length-1) (by omega)),.r 49 (eI (b:=((b.length-1:Nat):Int)) (by omega)),.x (Tu (p:=b) (i:=b.length-1) (by omega)),.k cq,.i K,.i K,.i K,.r 60 (eI (b:=(K:Int)) (by simp))] rfl (by simp[Uw,hql] <;> omega) ?_;rw[iO];refine Ui (S:=Nat) 3 (λL1 i=>(61,.v (.oi i))::L1) (λi=>[.row false 34 4 (frow (zp (q.set K c))),.blk 34 (fr (c:Rat)),.row false 34 4 (List.replicate i (fr 0)++List.replicate (K-i) zR)]) (λi=>K-i) (λi=>i<=K) 0 (Qg _) rfl rfl λi hi=>?_
 by_cases hlt:i<K
 ·refine Ue [.T,.k aS,.i i] rfl ?_;rw[zJ hlt];exact rd (i+1) (by omega) hlt rfl
 have hiK:i=K:=by omega
 rw[hiK,DO];clear hiK hlt hi;have hzl:=VF (List.replicate K 0);rw[X1]at hzl;have De:=VF (Fc b c);refine Ud [.F] rfl ?_;refine sb [(10,.v (.one (.orow 2 4 none))),(9,.v (.one (.ow 1 0))),(0,.v (.one (rp (zp a)))),(1,.v (.one (rp (zp b)))),(6,.v (.one (.orow 0 4 none)))] [.row false 34 4 (frow (zp (q.set K c))),.blk 34 (fr (c:Rat)),.row false 34 4 (frow (zp (List.replicate K 0)))] rfl rfl ?_;have p2:=Qi4 (p:=a) (q:=Tk K (Fc b c)) (Uv hab (by decide)) (Uv (aJ (Fw hbb hcs)) (by decide)) (by omega) (by rw[KZ];omega);rw[<-Ql1]at p2;refine go tt [.k (aM (c:=c) (Uv hbb (by decide)) (by omega) (by omega)),.s (sz:=4) (GX (zp (Fc b c))),.c [2] p2] rfl (by simp[Uw,hzl,De];omega) ?_;exact rd (j,Su a (Tk K (Fc b c)),q.set K c) (by dsimp only;omega) ⟨hrj,hqs c⟩ rfl
def EQ(l:Un):Us:=l.map λp=>[rp (zp p)]
theorem QV(l:Un):(EQ l).length=l.length:=by simp[EQ]
theorem UO(l:Un)(g:Um):EQ l++[[rp (zp g)]]=EQ (l++[g]):=by simp[EQ]
theorem QY{l:Un}{i:Nat}(h:i<l.length):(EQ l)[i]? = some [rp (zp (l.getD i []))]:=He (sQ h)
theorem Qkx(x:LV):∀c∈[[x]],c.length=1:=λc hc=>by rw[Qo.1 hc];rfl
theorem MC{a b q:Um}(h:DOk a b q):∃r,Uj 347 [.one (rp (zp a)),.one (rp (zp b))] [.one (rp (zp q)),.one (rp (zp r))]:=by
 obtain⟨h1,h2,h3,h4,qf,r,n,h5,h6,h7,rfl⟩:=h;exact⟨r,aB h1 h2 h3 h4 h5 h7⟩
theorem rM{a:Um}{mf:Nat}{f:Nat->Um}(ta:Uz a)(ha:Bd 9000000 a)(la:a.length<=1000)(h2:2<=a.length)(hF:FRun a mf f):Uj 258 [.one (rp (zp a))] [.one (.row (EQ (DT f mf)))]:=by
 obtain⟨⟨n,ls,hrun,hlen,hq⟩,hms⟩:=hF;have hal:=VF a;refine Hz func258 rfl ?_;refine Ud [.F,.k (Oj ta ha la),.o 3 28 1,.lo] rfl ?_;refine sb [(3,.v (.one (.orow 0 1 none))),(4,.v (.one (.orow 1 1 none)))] [.row false 28 1 [],.row false 28 1 (EQ [Hg a])] rfl rfl ?_;refine Ui (S:=Nat×Un) 2 (λL1 s=>(4,.v (.one (.orow 1 1 none)))::L1) (λs=>[.row false 28 1 [],.row false 28 1 (EQ s.2)]) (λs=>s.1) (λs=>LRun s.1 s.2 ls/\0<s.2.length/\s.2.length<=1001) (n,[Hg a]) ⟨hrun,by show 0<1;decide,by show 1<=1001;decide⟩ rfl rfl λ⟨k,l⟩ ⟨hs1,hs2,hs3⟩=>?_
 have hs1:LRun k l ls:=hs1;have hs2:0<l.length:=hs2;have hs3:l.length<=1001:=hs3;have hll:=QV l;have hlast:(EQ l)[l.length-1]? = some [rp (zp (S8 l))]:=QY (by omega);have De:=VF (S8 l);dsimp only;rcases hs1.inv with⟨hk,hlf,hl1⟩|⟨j,m2,g,hk,hg1,hg2,hg3,hg4,hg5,hg6,hg7,hlr⟩
 ·have hlm:l.length=mf+1:=by rw[hlf];exact hlen
  rw[<-hlf]at hq;have hl2:=QV (l++[[1]]);have hl3:(l++[[1]]).length=mf+2:=by simp[hlm]
  refine go tt [.r 23 (eI (b:=((l.length-1:Nat):Int)) (by omega)),.i (l.length-1),.x hlast,.F,.k rB,.s (sz:=1) (Qkx _)] rfl (by simp[Uw,hll];omega) ?_;rw[UO];refine Ui (S:=Nat) 2 (λL1 i=>(6,.v (.oi i))::(3,.v (.one (.orow 0 1 none)))::L1) (λi=>[.row false 28 1 (EQ (DT f i)),.row false 28 1 (EQ (l++[[1]]))]) (λi=>mf-i) (λi=>i<=mf) 0 (Qg _) rfl rfl λi hi=>?_
  have htl:=QV (DT f i);rw[fF]at htl;by_cases h:i<mf
  ·obtain⟨x,y,z,hx,hy,hz,hf⟩:=hq i h;obtain⟨rx,hdx⟩:=MC hx;obtain⟨ry,hdy⟩:=MC hy;obtain⟨rz,hdz⟩:=MC hz;refine go tt [.T,.i i,.x (QY (by omega)),.i (i+1),.x (QY (by omega)),.k hdx,.i (i+1),.x (QY (by omega)),.i (i+2),.x (QY (by omega)),.k hdy,.k (Oj hx.trim hx.bd hx.len),.k (Oj hy.trim hy.bd hy.len),.k hdz,.k (Oj hz.trim hz.bd hz.len),.s (sz:=1) (Qkx _)] rfl (by simp[Uw,hl2,htl];omega) ?_;exact rd (i+1) (by omega) h (by rw[UO,Qap,hf];rfl)
  ·have e:i=mf:=by omega
   rw[e];exact Uf [.F] rfl rfl (by simp[Uw];omega)
 ·subst hk;refine go tt [.r 23 (eI (b:=((l.length-1:Nat):Int)) (by omega)),.i (l.length-1),.x hlast,.T,.r 31 (eI (b:=((l.length-1:Nat):Int)) (by omega)),.i (l.length-1),.x hlast,.k (qR (Uv hg4 (by decide)) (by omega)),.k (Qch hg3 (U7 _ _) hg4 hg5 hg2 (Qc (Tq _) (by omega)) hg6),.s (sz:=1) (Qkx _)] rfl (by simp[Uw,hll];omega) ?_;exact rd (j,l++[g]) (by dsimp only;omega) ⟨hlr,by simp,by simp;omega⟩ (by rw[UO];rfl)
theorem EK{a:Um}{mf:Nat}{f:Nat->Um}(ta:Uz a)(ha:Bd 9000000 a)(la:a.length<=1000)(h2:2<=a.length)(hF:FRun a mf f)(hP:Qid mf f):Uj 158 [.one (rp (zp a))] [.one (rp (zp (Pi f mf)))]:=by
 have hms:=hF.small;have hal:=VF a;have htl:=QV (DT f mf);rw[fF]at htl;refine Hz func158 rfl ?_;refine Ud [.F,.k rB,.k (rM ta ha la h2 hF)] rfl ?_;refine Ui (S:=Nat) 0 (λL1 i=>(15,.v (.oi i))::(3,.v (.one (rp (zp (Pi f i)))))::L1) (λ_=>[]) (λi=>mf-i) (λi=>i<=mf) 0 (Qg _) rfl rfl λi hi=>?_
 by_cases h:i<mf
 ·obtain⟨g1,g2,g3,g4⟩:=hP i h;refine Ue [.T,.x (He (f:=λp=>[rp (zp p)]) (Qhj h)),.k (Au (p:=Pi f i) (q:=f i) (by omega) (by omega) g1 g3 (by decide))] rfl ?_;exact rd (i+1) (by omega) h rfl
 ·have e:i=mf:=by omega
  rw[e];exact Uf [.F] rfl
theorem oK{l:Un}(g:Um)(h:0<l.length):(EQ l++[[rp (zp g)]])[l.length-1]? = some [rp (zp (S8 l))]:=by
 rw[Q6 (by rw[QV];omega)];exact QY (by omega)
theorem KL{a sq:Um}{c:Un}(ta:Uz a)(ha:Bd 9000000 a)(la:a.length<=1000)(h2:2<=a.length)(hC:ChRun a sq c):Uj 157 [.one (rp (zp a))] [.one (.row (EQ c))]:=by
 obtain⟨⟨mf,f,hF,hP,rfl⟩,⟨n,hcr⟩,hbd,hle,hsm⟩:=hC;refine Hz func157 rfl ?_;refine Ud [.k (EK ta ha la h2 hF hP),.lo,.k (qR (p:=Pi f mf) (Uv hbd (by decide)) (by omega)),.k (vV (p:=Fv (Pi f mf)) (U7 _ _) (Uv (SB (t:=10) hbd (by omega)) (by decide)) (Qc (Tq _) (by omega)))] rfl ?_;refine sb [(5,.v (.one (rp (zp (Rr (Fv (Pi f mf))))))),(4,.v (.one (.orow 0 1 none)))] [.row false 28 1 (EQ [Pi f mf])] rfl rfl ?_;refine Ui (S:=Nat×Un×Um) 1 (λL1 s=>(5,.v (.one (rp (zp s.2.2))))::(4,.v (.one (.orow 0 1 none)))::L1) (λs=>[.row false 28 1 (EQ s.2.1)]) (λs=>s.1) (λs=>CRun s.1 s.2.1 s.2.2 c/\0<s.2.1.length/\s.2.1.length<=1001) (n,[Pi f mf],Rr (Fv (Pi f mf))) ⟨hcr,by show 0<1;decide,by show 1<=1001;decide⟩ rfl rfl λ⟨k,l,g⟩ ⟨hs1,hs2,hs3⟩=>?_
 have hs1:CRun k l g c:=hs1;have hs2:0<l.length:=hs2;have hs3:l.length<=1001:=hs3;have hll:=QV l;have hgl:=VF g;dsimp only;rcases hs1.inv with⟨hk,hlf,hg0⟩|⟨j,m2,r,hk,hg1,hg2,hg3,hrr,hrt,hrb,hrl,hl0,hl1,hcj⟩
 ·subst hlf;exact Uf [.F] rfl
 ·subst hk;refine go tt [.T,.s (sz:=1) (Qkx _),.r 23 (eI (b:=((l.length-1:Nat):Int)) (by simp;omega)),.i (l.length-1),.x (oK g hl0),.k (bY (a0:=S8 l) (b:=g) (res:=r) hg1 hg2 hg3 hrr),.k (vV (p:=r) hrt hrb hrl),.k (rS (p:=Rr r) (EJ hrb) (Qc (O2 r) (by omega)))] rfl (by simp[Uw,hll];omega) ?_;exact rd (j,l++[g],P0 (Rr r)) (by dsimp only;omega) ⟨hcj,by simp,by simp;omega⟩ (by rw[UO];rfl)
theorem Qrl{q:Rat}(h1:Ff q.num<=2000000)(h2:Ff (q.den:Int)<=2000000):Bd 9000000 [-q.num,(q.den:Int)]:=λz hz=>by
 simp only[Qt,Yx,or_false]at hz;rcases hz with rfl|rfl
 ·rw[Hy];omega
 ·omega
abbrev aq(q:Rat)(c:Un):Ur:=[rp (zp [-q.num,(q.den:Int)]),.row (EQ c)]++fr q++fr q
theorem RU{q:Rat}{c:Un}(hq:Qs 2000000 q)(hC:Qmt q c):Uj 55 [.agg (fr q)] [.agg (aq q c)]:=by
 obtain⟨sq,hch⟩:=hC;have co:=D9 (n:=1) (by decide);exact Ug func55 rfl [.k co,.k (Nc (n:=q.num)),.k (Qbr (z:=q.num)),.k co,.k (Nc (n:=(q.den:Int))),.k (KL (a:=[-q.num,(q.den:Int)]) (jC q) (Qrl hq.1 hq.2) (by show 2<=1000;decide) (Qj 2) hch)] rfl
theorem vK{q:Rat}{c:Un}(hq:Qs 2000000 q):Uj 167 [.agg (aq q c)] [.one (.bool true)]:=by
 have cr:=KP (a:=q) (b:=q) (hq.mono (by decide)) (hq.mono (by decide));rw[Bh]at cr;exact Ug func167 rfl [.k cr] rfl
theorem oD{p:Um}(h:p.length=0)(q:Rat):Fy p q=0:=by rw[Qh h];rfl
theorem bJ{p:Um}{q:Rat}{c:Un}(hp:Bd 30000000 p)(hl:p.length<=64)(hq:Qs 2000000 q):Uj 166 [.one (rp (zp p)),.agg (aq q c)] [.one (.bool (decide (Fy p q=0)))]:=by
 have De:=VF p;rcases Qy p.length with h0|h0
 ·rw[decide_eq_true (oD h0 q)];exact Ug func166 rfl [.T] rfl
 ·exact Ug func166 rfl [.F,.k (vK hq),.t rfl,.k (Om hp hl hq)] rfl
theorem EV{p:Um}{q:Rat}{c:Un}(hp:Bd 30000000 p)(hl:p.length<=64)(hq:Qs 2000000 q):Uj 59 [.one (rp (zp p)),.agg (aq q c)] [.oi (Fy p q)]:=by
 by_cases h0:Fy p q=0
 ·have cz:=bJ (c:=c) hp hl hq;rw[h0]at cz ⊢;exact Ug func59 rfl [.k cz,.t rfl] rfl
 ·exact Ug func59 rfl [.k (bJ hp hl hq),.f (decide_eq_false h0),.k (vK hq),.g 11 true rfl,.t rfl,.k (Om hp hl hq)] rfl
theorem Qcf{p:Um}{q:Rat}{c:Un}(hp:Bd 20000000 p)(hl:p.length<=64)(hq:Qs 2000000 q):Uj 16 [.one (rp (zp p)),.agg (aq q c)] [.oi (tO p q)]:=by
 refine Hz func16 rfl ?_;refine Ud [] rfl ?_;refine Ui (S:=Um) 1 (λL1 r=>(0,.v (.one (rp (zp r))))::L1) (λ_=>[.blk 36 (aq q c)]) (λr=>r.length) (λr=>r.length<=64/\Bd (25000000-30*r.length) r/\Tf (λp=>Fy p q) r.length r=tO p q) p ⟨hl,Uv hp (by omega),rfl⟩ rfl rfl λr ⟨hr0,hr1,hr2⟩=>?_
 have hrl:=VF r;rcases Qy r.length with h0|h0
 ·rw[ZM _ h0]at hr2;exact Uf [.F] rfl (by rw[<-hr2]) trivial
 by_cases hs:Fy r q=0
 ·have hd:=Tq r;refine Ud [.T,.k (EV (p:=r) (c:=c) (Uv hr1 (by omega)) hr0 hq),.f (decide_eq_false (λh=>h hs)),.k (qR (p:=r) (Uv hr1 (by omega)) (by omega))] rfl ?_;exact rd (Fv r) (by omega) ⟨by omega,Uv (SB (t:=6) hr1 (by omega)) (by omega),by rw[<-hr2,ZP _ h0 hs]⟩ rfl
 ·exact Uf [.T,.k (EV (p:=r) (c:=c) (Uv hr1 (by omega)) hr0 hq),.t (decide_eq_true hs)] rfl (by rw[<-hr2,ZS _ h0 hs]) trivial
end Orr
namespace Orq
open Orr Go
def crR(C:Un)(p:Um)(lo hi t:Rat):Int :=
 if Hl lo hi=0 then Hl lo t else if Hl t lo<=0 then 1 else if 0<Hl t hi then -1 else if Gw C lo t=0 then 1 else if Fy p t=0 then 0 else -1
theorem Qdb{p:Um}{C:Un}{lo hi:Rat}(V:Vt (cz p) (C.map cz) lo hi)(q:Rat):crR C p lo hi q=cq (cz p) lo hi q:=by
 have hl:=V.l;unfold crR;rw[if_neg (λh=>by have:=Td.1 h;grind)];rcases Classical.em (q<=lo)with h1|h1
 ·rw[if_pos (KO.2 h1),Mj h1]
 rw[if_neg (λh=>h1 (KO.1 h))];rcases Classical.em (hi<q)with h2|h2
 ·rw[if_pos (Nn.2 h2),Ij hl h2]
 rw[if_neg (λh=>h2 (Nn.1 h))];have h1':lo<q:=Jz.1 h1;have h2':q<=hi:=Rat.not_lt.1 h2;rw[Sy (Qm h1'),H7];rcases V.two h1' h2' with⟨a,b,_⟩|⟨a,b,_⟩
 ·rw[if_pos (by rw[a];omega),b]
 ·rw[if_neg (by have:=V.v;omega)];rw[Nu h1' h2',Uy]at *
  split
  ·rfl
  ·rename_i h0;rw[if_neg h0]at b
   split at b
   ·exact absurd rfl b
   ·rename_i hne;rw[if_neg hne]
theorem Qkj{t:Tm}{L:Uq}{D M k:Nat}{lo hi:Rat}(hu:Hv t D M k ⟨t.p,lo,hi⟩)(V:Vt (cz t.p) L lo hi) :
 (cq (cz t.p) lo hi (A2 lo hi)<=0->Hv t D M (k+1) ⟨t.p,lo,A2 lo hi⟩/\Vt (cz t.p) L lo (A2 lo hi))/\(¬cq (cz t.p) lo hi (A2 lo hi)<=0->Hv t D M (k+1) ⟨t.p,A2 lo hi,hi⟩/\Vt (cz t.p) L (A2 lo hi) hi):=by
 have hl:=V.l;have h2:(lo+hi) / 2*2=lo+hi:=Gd (by decide);have gm:Gr D M (k+1) (A2 lo hi):=by rw[D5];exact GG hu.l hu.h
 rw[D5]at *;generalize (lo+hi) / 2=m at *;have m1:lo<m:=by grind
 have m2:m<hi:=by grind
 have cut:∀q,Gb ⟨t.p,lo,hi⟩ q=cq (cz t.p) lo hi q:=λq=>Tt (t:=⟨t.p,lo,hi⟩) hl q
 refine⟨λh=>?_,λh=>?_⟩
 ·have hm:cq (cz t.p) lo hi m≠1:=λe=>by omega
  have V':Vt (cz t.p) L lo m:=⟨V.s,m1,by rw[V.eq_hi m1 (Qm m2) hm];exact V.v⟩;refine⟨⟨rfl,.inr ⟨L,V'⟩,λq=>?_,QW hu.l,gm⟩,V'⟩;rw[<-hu.c q,cut q];show Gb ⟨t.p,lo,m⟩ q=_;rw[Tt (t:=⟨t.p,lo,m⟩) m1 q];exact(V'.uniq V.cut (Mj Qk) hm V.van q).symm
 ·have hm:cq (cz t.p) lo hi m=1:=by
   rcases V.cut.val m with e|e|e <;> omega
  have V':Vt (cz t.p) L m hi:=⟨V.s,m2,by rw[V.eq_lo m1 (Qm m2) hm];exact V.v⟩;refine⟨⟨rfl,.inr ⟨L,V'⟩,λq=>?_,gm,QW hu.h⟩,V'⟩;rw[<-hu.c q,cut q];show Gb ⟨t.p,m,hi⟩ q=_;rw[Tt (t:=⟨t.p,m,hi⟩) m2 q];exact(V'.uniq V.cut hm V.hi1 V.van q).symm
end Orq
namespace Orr
open Go Go.Proofs Tryz Orq
set_option maxRecDepth 10000
abbrev ax(p:Um)(C:Un)(lo hi:Rat):Ur:=[rp (zp p),.row (EQ C)]++fr lo++fr hi
theorem kA{sg:Um->Int}{l:Un}{i:Nat}{p:Um}(h:l[i]? = some p):(Ic (l.map sg))[i]? = some [.int .i64 (sg p)]:=zG (by rw[Ze,h];rfl)
theorem Qco{l:Un}{sg:Um->Int}(hl:l.length<=1000)(hs:∀p,-1<=sg p/\sg p<=1):Uj 349 [.one (.row (Ic (l.map sg)))] [.oi (I7 sg l:Nat)]:=by
 have De:(Ic (l.map sg)).length=l.length:=by simp
 refine Hz func349 rfl ?_;refine Ud [] rfl ?_;refine Ui (S:=Nat) 0 (λL1 i=>(8,.v (.oi i))::(3,.v (.oi ((QN sg l i).1:Int)))::(4,.v (.one (.int .i64 (QN sg l i).2)))::L1) (λ_=>[]) (λi=>l.length-i) (λi=>i<=l.length) 0 (Qg _) rfl rfl λi hi=>?_
 by_cases hlt:i<l.length
 ·obtain⟨p,hp⟩:=gxE (l:=l) (i:=i) hlt;have hst:QN sg l (i+1)=Pg sg (QN sg l i) p:=No _ _ _ hp;obtain⟨b1,b2,b3⟩:=jE hs l i;have b4:=hs p;have hx:=kA (sg:=sg) hp;have ht:decide ((i:Int)<((Ic (l.map sg)).length:Int))=true:=decide_eq_true (by omega);by_cases h0:sg p=0
  ·refine Ue [.t ht,.x hx,.f (by simpa using h0)] rfl ?_;exact rd (i+1) (by omega) hlt (by rw[hst,show Pg sg (QN sg l i) p=QN sg l i from by unfold Pg;rw[if_pos h0]];rfl)
  ·by_cases h2:(QN sg l i).2=0
   ·refine Ue [.t ht,.x hx,.t (by simpa using h0),.g 18 false (by simp[h2]),.f rfl,.x hx] rfl ?_;exact rd (i+1) (by omega) hlt (by rw[hst,show Pg sg (QN sg l i) p=((QN sg l i).1,sg p) from by unfold Pg;rw[if_neg h0,if_neg (by omega)]];rfl)
   ·by_cases h1:(QN sg l i).2=-(sg p)
    ·refine Ue [.t ht,.x hx,.t (by simpa using h0),.g 18 true (by simpa using h2),.x hx,.t (by simp;omega),.x hx] rfl ?_;exact rd (i+1) (by omega) hlt (by rw[hst,show Pg sg (QN sg l i) p=((QN sg l i).1+1,sg p) from by unfold Pg;rw[if_neg h0,if_pos h1]];rfl)
    ·refine Ue [.t ht,.x hx,.t (by simpa using h0),.g 18 true (by simpa using h2),.x hx,.f (by simp;omega),.x hx] rfl ?_;exact rd (i+1) (by omega) hlt (by rw[hst,show Pg sg (QN sg l i) p=((QN sg l i).1,sg p) from by unfold Pg;rw[if_neg h0,if_neg h1]];rfl)
 ·obtain rfl:i=l.length:=by omega
  refine Uf [.F] rfl ?_ trivial;unfold QN I7;rw[List.take_length]
def Cok(C:Un):Prop:=C.length≤1000/\∀p∈C,Bd 9000000 p/\p.length≤64
theorem MD{C:Un}{q:Rat}(hC:Cok C)(hq:Qs 2000000 q):Uj 268 [.one (.row (EQ C)),.agg (fr q)] [.oi (Me C q:Nat)]:=by
 obtain⟨hl,hp⟩:=hC;have hzl:=QV C;refine Hz func268 rfl ?_;refine Ud [.o 5 3 1] rfl ?_;refine Ui (S:=Nat) 2 (λL1 i=>(9,.v (.oi i))::(5,.v (.one (.orow 1 1 none)))::L1) (λi=>[.blk 34 (fr q),.row false 3 1 (Ic ((C.take i).map λp=>Fy p q))]) (λi=>C.length-i) (λi=>i<=C.length) 0 (Qg _) rfl rfl λi hi=>?_
 have hol:(Ic ((C.take i).map λp=>Fy p q)).length=i:=by simp;omega
 by_cases h:i<C.length
 ·have hx:=QY h;have hm:=Xx h;have he:C.getD i []=C[i]:=by rw[Qd,Qe h];rfl
  rw[he]at hx;have cs:=Om (Uv (hp _ hm).1 (by decide)) (hp _ hm).2 hq;have hg:Ic ((C.take (i+1)).map λp=>Fy p q)=Ic ((C.take i).map λp=>Fy p q)++[[.int .i64 (Fy C[i] q)]]:=by
   have e:(C.take (i+1)).map (λp=>Fy p q)=(C.take i).map (λp=>Fy p q)++[Fy C[i] q]:=by rw[Xd,Qe h,Xm];rfl
   rw[e];exact Xm
  refine go tt [.T,.x hx,.k cs,.s (sz:=1) (XF _)] rfl (by simp[Uw,hol,-List.map_take];omega) ?_;exact rd (i+1) (by omega) h (by rw[hg];rfl)
 ·have e:i=C.length:=by omega
  rw[e,Q7];exact Uf [.F,.p 1,.k (Qco (sg:=λp=>Fy p q) hl λp=>Ew p q)] rfl
theorem C3{C:Un}{lo hi:Rat}(hC:Cok C)(ql:Qs 2000000 lo)(qh:Qs 2000000 hi):Uj 169 [.one (.row (EQ C)),.agg (fr lo),.agg (fr hi)] [.oi (Gw C lo hi)]:=by
 have b1:Me C lo<=C.length:=UB (λp=>Ew p lo) C;have b2:Me C hi<=C.length:=UB (λp=>Ew p hi) C;have hl:=hC.1;have c1:=KP (qh.mono (by decide)) (ql.mono (by decide));unfold Gw;by_cases h:Hl hi lo<0
 ·rw[if_pos h];exact Ug func169 rfl [.k c1,.t (by simpa using h)] rfl
 ·rw[if_neg h];exact Ug func169 rfl [.k c1,.f (by simpa using h),.k (MD hC ql),.k (MD hC qh)] rfl rfl (by simp[Uw];omega)
theorem Qb7{p:Um}{C:Un}{lo hi:Rat}(ql:Qs 2000000 lo)(qh:Qs 2000000 hi):Uj 167 [.agg (ax p C lo hi)] [.one (.bool (decide (Hl lo hi=0)))] :=
 Ug func167 rfl [.k (KP (ql.mono (by decide)) (qh.mono (by decide)))] rfl
def Ax(p:Um)(lo hi:Rat):Rat:=if Hl lo hi≠0/\Fy p hi=0 then hi else lo
theorem qF{p:Um}{C:Un}{lo hi:Rat}(hp:Bd 30000000 p)(De:p.length<=64)(ql:Qs 2000000 lo)(qh:Qs 2000000 hi):Uj 204 [.agg (ax p C lo hi)] [.agg (ax p C (Ax p lo hi) hi)]:=by
 have c1:=KP (ql.mono (t:=40000000) (by decide)) (qh.mono (by decide));have c2:=Om hp De qh;unfold Ax;by_cases h0:Hl lo hi=0
 ·rw[if_neg (λh=>h.1 h0)];exact Ug func204 rfl [.k c1,.g 9 false (by simp[h0]),.f rfl] rfl
 by_cases h1:Fy p hi=0
 ·rw[if_pos ⟨h0,h1⟩];exact Ug func204 rfl [.k c1,.g 9 true (by simp[h0]),.k c2,.t (decide_eq_true h1)] rfl
 ·rw[if_neg (λh=>h1 h.2)];exact Ug func204 rfl [.k c1,.g 9 true (by simp[h0]),.k c2,.f (decide_eq_false h1)] rfl
theorem nM{lo hi:Rat}(ql:Qs 2000000 lo)(qh:Qs 2000000 hi):Uj 262 [.agg (fr lo),.agg (fr hi)] [.agg (fr (A2 lo hi))]:=by
 have c1:=qX (ql.mono (t:=20000000) (by decide)) (qh.mono (by decide));have c2:=Qm3 (n:=1) (d:=2) (by decide) (by decide);have e:H4 1 2=(1:Rat) / 2:=by rw[HY (by decide)];decide +kernel
 rw[e]at c2;have q1:Qs 40000000 (lo+hi):=(Qp4 ql qh).mono (by decide);have q2:Qs 40000000 ((1:Rat) / 2):=by rw[<-e];exact⟨by decide,by decide⟩
 have c3:=rY q1 q2;have em:(lo+hi)*((1:Rat) / 2)=A2 lo hi:=by rw[D5];grind
 rw[em]at c3;exact Ug func262 rfl [.k c1,.k c2,.k c3] rfl
theorem Qif(z:Int):[nd ((z:Rat)).num.natAbs,.bool false,nd ((((z:Rat)).den:Int)).natAbs,sg (((z:Rat)).den:Int)]=fr ((z.natAbs:Int):Rat):=by
 simp only[fr,ri,W7,Rat.den_intCast,Xf,Jl,Zr];have:sg (z.natAbs:Int)=.bool false:=by
  show LV.bool (decide ((z.natAbs:Int)<0))=_;rw[decide_eq_false (by omega)]
 rw[this]
theorem Qjd(a b:Nat):Hl ((a:Int):Rat) ((b:Int):Rat)=if a<b then -1 else if a=b then 0 else 1:=by
 rcases Dl ((a:Int):Rat) ((b:Int):Rat)with⟨e,h⟩|⟨e,h⟩|⟨e,h⟩
 ·have h:(b:Int)<(a:Int):=by exact_mod_cast h
  rw[e,if_neg (by omega),if_neg (by omega)]
 ·have h:(a:Int)=(b:Int):=by exact_mod_cast h
  rw[e,if_neg (by omega),if_pos (by omega)]
 ·have h:(a:Int)<(b:Int):=by exact_mod_cast h
  rw[e,if_pos (by omega)]
theorem aY{p:Um}(h:U8 p≠0):((1:Int):Rat)+((most (p.take (p.length-1)):Int):Rat) / (((U8 p).natAbs:Int):Rat)=Ge p:=by
 have e:=QO h;have hp:(0:Rat)<((U8 p).natAbs:Rat):=nat_pos (by omega);have hne:((U8 p).natAbs:Rat)≠0:=by grind
 have e2:=Zh (a:=((most (p.take (p.length-1)):Nat):Rat)) hne;have e3:((((U8 p).natAbs:Int)):Rat)=((U8 p).natAbs:Rat):=rfl;have e4:(((most (p.take (p.length-1)):Nat):Int):Rat)=((most (p.take (p.length-1)):Nat):Rat):=rfl;rw[e3,e4];generalize ((most (p.take (p.length-1)):Nat):Rat) / ((U8 p).natAbs:Rat)=y at *;have:(Ge p-(((1:Int):Rat)+y))*((U8 p).natAbs:Rat)=0:=by push_cast;grind
 rcases Jn.1 this with h'|h'
 ·grind
 ·exact absurd h' hne
theorem Qcg{p:Um}{s:Nat}(tp:Uz p)(h2:2<=p.length)(hl:p.length<=1000)(hb:Bd s p)(hs:s<=1000000):Uj 159 [.one (rp (zp p))] [.agg (fr (Ge p))]:=by
 have hlp:(frow (zp p)).length=p.length:=by rw[To,Sf]
 have c1:=VJ (n:=1) (by decide);have hld:U8 p≠0:=B8 tp (by omega);have hm:∀i,Ff (most (p.take i):Int)<=s:=λi=>Qkm λz hz=>hb z (Ql hz)
 have hL:Ff ((U8 p).natAbs:Int)<=s:=by rw[zT];exact Pw hb
 have q1:∀z:Int,Ff z<=s->Qs 1000000 (z:Rat):=λz hz=>⟨by rw[W7];omega,by rw[Rat.den_intCast];decide⟩
 have cq:=qK (a:=((most (p.take (p.length-1)):Int):Rat)) (b:=(((U8 p).natAbs:Int):Rat)) ((q1 _ (hm _)).mono (by decide)) ((q1 _ hL).mono (by decide)) (A0 (by omega));have hq:Qs 20000000 (((most (p.take (p.length-1)):Int):Rat) / (((U8 p).natAbs:Int):Rat)):=by
  have hp:(0:Rat)<((U8 p).natAbs:Rat):=nat_pos (by omega);have e2:((most (p.take (p.length-1)):Int):Rat) / (((U8 p).natAbs:Int):Rat)*((U8 p).natAbs:Rat)=((most (p.take (p.length-1)):Int):Rat):=Zh (a:=((most (p.take (p.length-1)):Int):Rat)) (b:=((U8 p).natAbs:Rat)) (by grind);have g:Gr (U8 p).natAbs (most (p.take (p.length-1))+1) 0 (((most (p.take (p.length-1)):Int):Rat) / (((U8 p).natAbs:Int):Rat)):=by
   refine⟨⟨(most (p.take (p.length-1)):Int),by rw[Ys,Yf];exact e2⟩,?_,by omega⟩;have hn:(0:Rat)<=((most (p.take (p.length-1)):Int):Rat):=Xg;have hnn:(0:Rat)<=((most (p.take (p.length-1)):Int):Rat) / (((U8 p).natAbs:Int):Rat):=by
    rcases Fz (0:Rat) (((most (p.take (p.length-1)):Int):Rat) / (((U8 p).natAbs:Int):Rat))with h'|h'
    ·exact h'
    ·exfalso;have:=Jp h' hp;rw[e2]at this;grind
   have:Fe (((most (p.take (p.length-1)):Int):Rat) / (((U8 p).natAbs:Int):Rat))=((most (p.take (p.length-1)):Int):Rat) / (((U8 p).natAbs:Int):Rat):=by unfold Fe;rw[if_neg (by grind)]
   rw[this];have hD1:(1:Rat)<=((U8 p).natAbs:Rat):=by
    have:((1:Nat):Rat)<=((U8 p).natAbs:Rat):=Za.2 (by omega);exact this
   have h3:=Pp (a:=((most (p.take (p.length-1)):Int):Rat) / (((U8 p).natAbs:Int):Rat)) (c:=1) hnn Qk (by decide) hD1;rw[e2]at h3;have h4:(((most (p.take (p.length-1))+1:Nat):Nat):Rat)=((most (p.take (p.length-1)):Int):Rat)+1:=by push_cast;rfl
   rw[h4];grind
  have hM1:Ff ((most (p.take (p.length-1))+1:Nat):Int)<=s+1:=WR (s:=s) (by
   have:=hm (p.length-1);rw[Tg]at this;rwa[Zr]at this)
  exact(Ak g (Kl _) (B:=20000000) (by omega))
 have ca:=qX (a:=((1:Int):Rat)) (b:=((most (p.take (p.length-1)):Int):Rat) / (((U8 p).natAbs:Int):Rat)) ⟨by decide,by decide⟩ hq;rw[aY hld]at ca;have getz:∀i z,p[i]? = some z->(frow (zp p))[i]? = some (fr ((z:Int):Rat)):=λi z hz=>by unfold frow zp;rw[List.getElem?_map,List.getElem?_map,hz];rfl
 refine Hz func159 rfl ?_;refine Ud [.k aS] rfl ?_;refine Ui (S:=Nat) 2 (λL1 i=>(4,.v (.oi i))::L1) (λi=>[.blk 34 [.nils,.bool false,.nils,.bool false],.blk 34 (fr ((most (p.take i):Int):Rat))]) (λi=>p.length-i) (λi=>i<=p.length-1) 0 (Qg _) rfl rfl λi hi=>?_
 by_cases h:i+1<p.length
 ·obtain⟨z,hz⟩:=gxE (l:=p) (i:=i) (by omega);have hzb:=hb z (Qa hz);have e:most (p.take (i+1))=if most (p.take i)<z.natAbs then z.natAbs else most (p.take i):=by
   rw[Xv,hz,X7,oG]
  have cc:=KP (a:=((z.natAbs:Int):Rat)) (b:=((most (p.take i):Int):Rat)) ((q1 _ (by rw[zT];exact hzb)).mono (by decide)) ((q1 _ (hm i)).mono (by decide));rw[Qjd]at cc;by_cases hlt:most (p.take i)<z.natAbs
  ·rw[if_neg (by omega),if_neg (by omega)]at cc;rw[if_pos hlt]at e;refine go tt [.T,.x (getz i z hz),.r 21 (v:=.agg (fr ((z.natAbs:Int):Rat))) (congrArg TV.agg (Qif z)),.k cc,.t rfl,.r 25 (v:=.agg (fr ((z.natAbs:Int):Rat))) (congrArg TV.agg (Qif z))] rfl (by simp[Uw] <;> omega) ?_;exact rd (i+1) (by omega) (by omega) (by rw[e];rfl)
  ·rw[if_neg hlt]at e;obtain⟨v,hv,hv0⟩:∃v:Int,v=(if z.natAbs<most (p.take i)then -1 else if z.natAbs=most (p.take i)then 0 else 1)/\v<=0:=⟨_,rfl,by
    split
    ·decide
    ·rw[if_pos (by omega)];decide⟩
   rw[<-hv]at cc;refine go tt [.T,.x (getz i z hz),.r 21 (v:=.agg (fr ((z.natAbs:Int):Rat))) (congrArg TV.agg (Qif z)),.k cc,.F] rfl (by simp[Uw] <;> omega) ?_;exact rd (i+1) (by omega) (by omega) (by rw[e];rfl)
 ·obtain rfl:i=p.length-1:=by omega
  have hz:p[p.length-1]? = some (U8 p):=by
   unfold U8;rw[Qd,Qe (by omega)];rfl
  exact Uf [.F,.F,.r 33 (eI (b:=((p.length-1:Nat):Int)) (by omega)),.x (getz _ _ hz),.k c1,.r 40 (v:=.agg (fr (((U8 p).natAbs:Int):Rat))) (congrArg TV.agg (Qif (U8 p))),.k cq,.k ca] rfl rfl (by simp[Uw] <;> omega)
inductive SRun (q:List Int) (c:List (List Int)):Rat->Rat->List Tm->Prop
 |none {lo hi:Rat} (a:Qs 2000000 lo) (b:Qs 2000000 hi) (h:Gw c lo hi=0):SRun q c lo hi []
 |one {lo hi:Rat} (a:Qs 2000000 lo) (b:Qs 2000000 hi) (h:Gw c lo hi=1):SRun q c lo hi [⟨q,lo,hi⟩]
 |more {lo hi:Rat} {l r:List Tm} (a:Qs 2000000 lo) (b:Qs 2000000 hi) (h0:Gw c lo hi≠0) (h1:Gw c lo hi≠1) (hl:SRun q c lo (A2 lo hi) l) (hr:SRun q c (A2 lo hi) hi r):SRun q c lo hi (l++r)
theorem jB{q:Um}{c:Un}{D M:Nat}(hM:0<M):∀(k j:Nat) (lo hi:Rat) (n:Int) (r:List Tm),E3 q c k lo hi n=some r->lo<hi->n=Gw c lo hi->Gr D M j lo->Gr D M j hi->Ff (D:Int)+Ff (M:Int)+(j+k)<=1600000->SRun q c lo hi r
 | 0,_,_,_,_,_,h,_,_,_,_,_=>by cases h
 |
  k+1,j,lo,hi,n,r,h,hl,hn,g1,g2,hs=>by
  have q1:Qs 2000000 lo:=Ak g1 hM (by omega);have q2:Qs 2000000 hi:=Ak g2 hM (by omega);simp only[E3]at h
  split at h
  ·rename_i h0;injection h with h;subst h;exact .none q1 q2 (by omega)
  ·rename_i h0
   split at h
   ·rename_i h1;injection h with h;subst h;exact .one q1 q2 (by omega)
   ·rename_i h1;obtain⟨m,hm,h⟩:=Qi.1 h;have hm:A2 lo hi=m:=by
     unfold bR at hm
     split at hm
     ·injection hm with hm
     ·cases hm
    subst hm;obtain⟨x,hx,h⟩:=Qi.1 h;obtain⟨y,hy,h⟩:=Qi.1 h;injection h with h;subst h;have h2:(lo+hi) / 2*2=lo+hi:=Gd (by decide);have gm:Gr D M (j+1) (A2 lo hi):=by rw[D5];exact GG g1 g2
    have l1:lo<A2 lo hi:=by rw[D5];grind
    have l2:A2 lo hi<hi:=by rw[D5];grind
    have bt:∀{a b:Rat},a<b->Gw c a b=(Me c a:Int)-(Me c b:Int):=λ{a b} h=>by
     unfold Gw;rw[if_neg (by
      rcases Dl b a with⟨e,_⟩|⟨e,_⟩|⟨e,h'⟩
      ·omega
      ·omega
      ·exfalso;grind)]
    exact .more q1 q2 (by omega) (by omega) (jB hM k (j+1) lo _ _ x hx l1 rfl (QW g1) gm (by omega)) (jB hM k (j+1) _ hi _ y hy l2 (by rw[hn,bt hl,bt l1,bt l2];omega) gm (QW g2) (by omega))
abbrev axr(q:Um)(c:Un)(t:Tm):Ur:=ax q c (Ax q t.lo t.hi) t.hi
abbrev MV(q:Um)(c:Un)(r:List Tm):Us:=r.map (axr q c)
theorem Qbb(q:Um)(c:Un)(r:List Tm):∀y∈MV q c r,y.length=10:=λy hy=>by
 obtain⟨t,_,rfl⟩:=Zw.1 hy;rfl
theorem Qcn{q:Um}{c:Un}(hq:Bd 9000000 q)(hql:q.length<=64)(hc:Cok c){lo hi:Rat}{r:List Tm}(h:SRun q c lo hi r):r.length<=1000000->Ab prog 160 [.one (rp (zp q)),.one (.row (EQ c)),.agg (fr lo),.agg (fr hi)] [] [.one (.orow 0 10 none)] [.row false 36 10 (MV q c r)]:=by
 induction h with
 |
  @none lo hi a b h =>
  intro _;have cb:=C3 hc a b;rw[h]at cb;refine Hz func160 rfl ?_;exact Uh [] [2] [.k cb,.t rfl,.o 8 36 10] rfl
 |
  @one lo hi a b h =>
  intro _;have cb:=C3 hc a b;rw[h]at cb;have ce:=qF (p:=q) (C:=c) (Uv hq (by decide)) hql a b;refine Hz func160 rfl ?_;exact Uh [] [2] [.k cb,.f rfl,.t rfl,.k ce,.lo] rfl
 |
  @more lo hi l r a b h0 h1 hl hr ih1 ih2 =>
  intro hn;rw[Q3]at hn;have cb:=C3 hc a b;have c1:=ih1 (by omega);have c2:=ih2 (by omega);have hll:(MV q c l).length=l.length:=by simp
  have hrl:(MV q c r).length=r.length:=by simp
  rw[show MV q c (l++r)=MV q c l++MV q c r from Xm];refine Hz func160 rfl ?_;exact Uh [] [3] [.k cb,.f (decide_eq_false h0),.f (decide_eq_false h1),.k (nM a b),.c [3] c1,.c [4] c2,.s (Qbb q c r)] rfl (by simp[Uw];omega)
end Orr
namespace Orq
open Orr Go
def p2(k:Nat):Rat:=((2^k:Nat):Rat)
theorem GO(a b:Nat):p2 (a+b)=p2 a*p2 b:=by unfold p2;rw[Nat.pow_add,Rat.natCast_mul]
theorem JB{a b:Nat}(h:a<=b):p2 a<=p2 b:=Za.2 (Zo (by decide) h)
theorem CW(k:Nat):0<=p2 k:=Xg
theorem JC(k:Nat):p2 (k+1)=p2 k+p2 k:=by have:=IB k;unfold p2;rw[this];grind
theorem sD(k:Nat):1<=p2 k:=JB (Qg k)
theorem cO{S m:Nat}{R:Rat}(h0:0≤R)(hR:R≤p2 m):∀{p:Up},(∀a∈p,Fe a≤p2 S)->zX R p≤p2 (S+(m+1)*p.length)
 | [],_=>CW _
 |
  a::p,h=>by
  have ih:=cO h0 hR (p:=p) (λx hx=>h x (Qp _ hx));have h1:=h a (Q0 ..);have h2:=Pp h0 hR (Ox h0 p) ih;rw[<-GO]at h2;have e:S+(m+1)*(a::p).length=(m+(S+(m+1)*p.length))+1:=by rw[Zc,Kk];omega
  rw[e,JC];have h3:=JB (show S<=m+(S+(m+1)*p.length) by omega);simp only[zX];grind
theorem cG{S m:Nat}{R:Rat}(h0:0≤R)(hR:R≤p2 m):∀{p:Up},(∀a∈p,Fe a≤p2 S)->NT R p≤p2 (S+(m+1)*p.length)
 | [],_=>CW _
 |
  a::p,h=>by
  have hp:=λx hx=>h x (Qp a hx)
  have ih:=cG h0 hR (p:=p) hp;have h1:=cO h0 hR (p:=p) hp;have h2:=Pp h0 hR (Mk h0 p) ih;rw[<-GO]at h2;have e:S+(m+1)*(a::p).length=(m+(S+(m+1)*p.length))+1:=by rw[Zc,Kk];omega
  rw[e,JC];have h3:=JB (show S+(m+1)*p.length<=m+(S+(m+1)*p.length) by omega);simp only[NT];grind
theorem Qo2{S:Nat}{p:Um}(h:Bd S p):∀a∈cz p,Fe a≤p2 S:=λa ha=>by
 obtain⟨z,hz,rfl⟩:=Zw.1 ha;have h1:=VG (q:=(z:Rat));rw[W7]at h1;exact Zb h1 (JB (h z hz))
theorem lM{D:Rat}{b:Nat}(h0:0<=D)(h:D<=p2 b):∀n:Nat,D^n<=p2 (b*n)/\0<=D^n
 | 0=>by rw[Xh];exact⟨sD _,by decide⟩
 |
  n+1=>by
  obtain⟨h1,h2⟩:=lM h0 h n;rw[Z9,Kk,GO];exact⟨Pp h2 h1 h0 h,M8 h2 h0⟩
theorem Qk3{p:Um}{n b:Nat}(hl:p.length=n+1){q:Rat}(hb:Ff (q.den:Int)<=b)(h:Ux p q≠0):1<=Fe (Ux p q)*p2 (b*n):=by
 have hd0:(0:Rat)<((q.den:Int):Rat):=by
  have := @Rat.intCast_lt_intCast 0 (q.den:Int);rw[show((0:Int):Rat)=0 from rfl]at this;exact this.2 (den_pos q)
 have hd:((q.den:Int):Rat)≠0:=by intro h;rw[h]at hd0;exact absurd hd0 (by decide)
 obtain⟨_,hv⟩:=yJ p q.num q.den hd p.length (Qj _);rw[J4,X9,Hp,Zy]at hv;have hD:((q.den:Int):Rat)<=p2 b:=by
  have h1:=Tg.1 hb;rw[Zr]at h1;exact Za.2 (J3 h1)
 generalize (Mq p q.num (q.den:Int) p.length).1=Z at hv;generalize ((q.den:Int):Rat)=D at *;rw[hl,Z9]at hv;have hZ:(Z:Rat)=D^n*Ux p q:=by
  have:((Z:Rat)-D^n*Ux p q)*D=0:=by grind
  rcases Jn.1 this with h'|h'
  ·grind
  ·exact absurd h' hd
 obtain⟨k1,k2⟩:=lM (Qm hd0) hD n;have hp0:=xE hd0 n;have hz0:Z≠0:=λe=>by
  rw[e]at hZ;rcases Jn.1 hZ.symm with h'|h'
  ·rw[h']at hp0;exact absurd hp0 (by decide)
  ·exact h h'
 have h1:=O4 hz0;rw[hZ,Lm]at h1;have h2:Fe (D^n)=D^n:=by unfold Fe;rw[if_neg (by grind)]
 rw[h2]at h1;have:=Q4 k1 (Hw (Ux p q));grind
theorem Qj3{p:Um}{L:Uq}{lo hi r:Rat}(V:Vt (cz p) L lo hi){n b m S:Nat}(hl:p.length=n+1)(hS:Bd S p)(h1:Fe r<=p2 m)(h2:Fe hi<=p2 m)(hr:lo<r)(hc:cq (cz p) lo hi r=1)(hb:Ff (r.den:Int)<=b):1<=(hi-r)*p2 (S+(m+1)*(n+1)+b*n):=by
 have hrh:r<hi:=by
  rcases Vg.1 (show r<=hi from by
   rcases Fz r hi with e|e
   ·exact e
   ·rw[Ij V.l e]at hc;exact absurd hc (by decide))with e|e
  ·exact e
  ·rw[e]at hc;exact absurd hc V.hi1
 have s1:Fj (ev (cz p) r)=Ph (cz p) lo:=by
  rcases V.two hr (Qm hrh)with⟨_,_,c⟩|⟨_,c,_⟩
  ·exact c
  ·exact absurd hc c
 have s0:=V.lowlo;have s2:Fj (ev (cz p) hi)≠Ph (cz p) lo:=λe=>by
  refine V.hi1 ?_;rw[Nu V.l Qk,if_neg (by rw[e];exact s0),if_pos e]
 have hne:ev (cz p) r≠0:=λe=>s0 (by rw[<-s1];exact Gm.2 e)
 have hd:Fe (ev (cz p) r)<=Fe (ev (cz p) hi-ev (cz p) r):=by
  rw[<-s1]at s2;unfold Fj at s2;unfold Fe;generalize ev (cz p) r=x at *;generalize ev (cz p) hi=y at *
  repeat' split
  all_goals (repeat' split at s2)
  all_goals grind
 have h3:=Qdx (R:=p2 m) h2 h1 (cz p);have h4:=cG (S:=S) (CW m) (Qk (a:=p2 m)) (Qo2 hS);have hcl:(cz p).length=n+1:=by unfold cz;rw[List.length_map,hl]
 rw[hcl]at h4;have h5:=Qk3 hl hb (by rw[<-Uy];exact hne);rw[<-Uy]at h5;have hq:Fe (hi-r)=hi-r:=by unfold Fe;rw[if_neg (by grind)]
 rw[hq]at h3;have h6:Fe (ev (cz p) r)<=(hi-r)*p2 (S+(m+1)*(n+1)):=Zb (Zb hd h3) (by
  have:=Zq h4 (show 0<=hi-r by grind);exact this)
 have h7:=Q4 h6 (CW (b*n));rw[GO];grind
theorem Qpi{a b:Tm}(ha:Cut (Gb a))(hb:Cut (Gb b))(h:¬YR b a):Leq a (Gb b):=λq hq=>by
 rcases ha.val q with e|e|e
 ·exact absurd ⟨q,hq,e⟩ h
 ·obtain⟨r,r1,r2⟩:=hb.dn q hq;exact absurd ⟨r,r2,ha.mono' r1 (by omega)⟩ h
 ·exact e
theorem oZ{p:Um}{a b:Tm}{o:Option Tm}(hp:Dp p)(ha:Va a)(hb:Va b)(hab:¬YR b a)(h:Ac p a o)(ho:∀t,o=some t->YR b t):Gl (Rh b) p=Gl (Rh a) p:=by
 by_cases h0:p.length=0
 ·obtain rfl:=Qh h0;rfl
 obtain⟨ra,_⟩:=dY ha hp h0;obtain⟨rb,_⟩:=dY hb hp h0;have hl:=Qpi ha.cut hb.cut hab;cases o with
 |
  none =>
  rcases h with h|⟨s,s0,h⟩
  ·exact absurd (by rw[h];rfl) h0
  ·exact(eG rb (h _ hb.cut hl)).trans (eG ra (h _ ha.cut λ_ h=>h)).symm
 |
  some t =>
  obtain⟨h1,h2,h3,s,s0,h4,h5⟩:=h;exact(eG rb (h4 _ hb.cut hl (ho t rfl))).trans (eG ra (h4 _ ha.cut (λ_ h=>h) h3)).symm
open Classical in
noncomputable def mu(T:List Tm)(a:Tm):Nat:=(T.filter λt=>decide (YR a t)).length
def tms(p:Um):List Tm:=(DL p).getD []
structure KInv(c:Cr):Prop where
 ok:CrOk c
 k:∀w∈c.l,w.known=true->Ac w.c.p c.now w.fails/\∀t,w.fails=some t->t∈tms w.c.p
theorem sP{p:Um}(h:Cp p){a:Tm}(ha:Va a):∃r,IY p a=some r/\Ac p a r/\∀t,r=some t->t∈tms p:=by
 obtain⟨l,l1,_,_,l3⟩:=fP h;obtain⟨r,r1,r2,r3⟩:=l3 a ha;refine⟨r,?_,r2,λt ht=>by unfold tms;rw[l1];exact r3 t ht⟩;unfold IY;rw[l1];exact r1
theorem dA{now:Tm}(hn:Va now):∀{l:List Wt},(∀w∈l,WtOk w)->(∀w∈l,w.known=true->Ac w.c.p now w.fails/\∀t,w.fails=some t->t∈tms w.c.p) ->
 ∃ws,TY now l=some ws/\ws.map (·.c)=l.map (·.c)/\∀w∈ws,w.known=true/\Ac w.c.p now w.fails/\∀t,w.fails=some t->t∈tms w.c.p
 | [],_,_=>⟨[],rfl,rfl,λw hw=>by cases hw⟩
 |
  w::l,h,h'=>by
  obtain⟨ws,w1,w2,w3⟩:=dA hn (λv hv=>h v (Qp _ hv)) (λv hv=>h' v (Qp _ hv));by_cases hk:w.known=true
  ·refine⟨w::ws,by simp only[TY,hk,if_true,w1];rfl,by simp[w2],λv hv=>?_⟩;rcases Qt.1 hv with rfl|hv
   ·exact⟨hk,h' v (by simp) hk⟩
   ·exact w3 v hv
  ·obtain⟨r,r1,r2,r3⟩:=sP (h w (by simp)).p hn;refine⟨⟨w.c,true,r⟩::ws,by simp only[TY];rw[if_neg hk,r1,w1];rfl,by simp[w2],λv hv=>?_⟩;rcases Qt.1 hv with rfl|hv
   ·exact⟨rfl,r2,r3⟩
   ·exact w3 v hv
theorem oJ{out:List Ct}{c x:Ct}:x∈BH out c↔x=c\/x∈out:=by
 have h:x∈out↔x∈out.take (pK out c out.length)\/x∈out.drop (pK out c out.length):=by
  rw[<-Qr,Zj]
 simp only[BH,Qr,Qt,h];constructor
 ·rintro (h|h|h)
  ·exact .inr (.inl h)
  ·exact .inl h
  ·exact .inr (.inr h)
 ·rintro (h|h|h)
  ·exact .inr (.inl h)
  ·exact .inl h
  ·exact .inr (.inr h)
theorem AG:∀(l acc:List Ct) {y:Ct},y∈l.foldl BH acc↔y∈l\/y∈acc
 | [],acc,y=>by simp
 |
  c::l,acc,y=>by
  simp only[Xl];rw[AG l,oJ,Qt];constructor
  ·rintro (h|h|h)
   ·exact .inl (.inr h)
   ·exact .inl (.inl h)
   ·exact .inr h
  ·rintro ((h|h)|h)
   ·exact .inr (.inl h)
   ·exact .inl h
   ·exact .inr (.inr h)
theorem OH{l:List Ct}{x:Ct}:x∈TD l↔x∈l:=by unfold TD;rw[AG];simp
theorem Qpv{ws:List Wt}(hw:∀w∈ws,WtOk w):∃o,Qpu ws=some o/\match o with
 |none=>∀w∈ws,w.fails=none
 |some a=>Va a/\(∃w∈ws,w.fails=some a)/\∀w∈ws,∀t,w.fails=some t->¬YR t a:=by
 have hv:∀t∈ws.filterMap (·.fails),Va t:=λt ht=>by
  obtain⟨w,w1,w2⟩:=Y3.1 ht;exact(hw w w1).f t w2
 unfold Qpu;cases hf:ws.filterMap (·.fails)with
 |
  nil =>
  refine⟨none,rfl,λw h=>?_⟩;cases e:w.fails with
  |none=>rfl
  |
   some t =>
   have:t∈ws.filterMap (·.fails):=Y3.2 ⟨w,h,e⟩;rw[hf]at this;cases this
 |
  cons b l =>
  rw[hf]at hv;obtain⟨m,m1,m2,m3⟩:=AL l b hv;refine⟨some m,by show(BB b l).map some=_;rw[m1];rfl,hv m m2,?_,λw h t e=>?_⟩
  ·rw[<-hf]at m2;exact Y3.1 m2
  ·exact m3 t (by rw[<-hf];exact Y3.2 ⟨w,h,e⟩)
structure Stab{β:Type}(Bc:Tm->List Ct)(Br:Tm->β):Prop where
 ok:BuildOk Bc
 fin:∃Ps:List (List Int),(∀p∈Ps,Cp p)/\∀a,Va a->∀x∈Bc a,x.p∈Ps
 st:∀a b,Va a->Va b->(∀x∈Bc a,Gl (Rh b) x.p=Gl (Rh a) x.p)->Bc b=Bc a/\Br b=Br a
structure KSt{β:Type}(Bc:Tm->List Ct)(Br:Tm->β)(c:Cr)(r1:β):Prop where
 inv:KInv c
 cs:c.l.map (·.c)=TD (Bc c.now)
 r:r1=Br c.now
inductive Evs (Bc:Tm->List Ct) (t:Rat):Tm->List Tm->Prop
 |nil {a:Tm} (h:∀x∈Bc a,∃o,Ac x.p a o/\∀u,o=some u->YR (tq t) u):Evs Bc t a []
 |cons {a e:Tm} {E:List Tm} (he:Va e) (h1:YR a e) (h2:¬YR (tq t) e) (h3:∀x∈Bc a,∃o,Ac x.p a o/\∀u,o=some u->¬YR u e) (h4:∃x∈Bc a,Ac x.p a (some e)) (h5:Evs Bc t e E):Evs Bc t a (e::E)
end Orq
namespace Orq
open Orr Go
structure Quiet{β:Type}(Bc:Tm->List Ct)(Br:Tm->β)(a b:Tm):Prop where
 va:Va a
 vb:Va b
 le:¬YR b a
 n:∀x∈Bc a,∃o,Ac x.p a o/\∀u,o=some u->YR b u
section
variable{β:Type}{Bc:Tm->List Ct}{Br:Tm->β}(S:Stab Bc Br)
include S
theorem Quiet.same{a b:Tm}(h:Quiet Bc Br a b):Bc b=Bc a/\Br b=Br a:=by
 refine S.st a b h.va h.vb λx hx=>?_
 obtain⟨o,o1,o2⟩:=h.n x hx;exact oZ (S.ok.p _ h.va _ hx).dp h.va h.vb h.le o1 o2
end
end Orq
namespace Orq
open Orr Go
theorem Quy{β:Type}{Bc:Tm->List Ct}{Br:Tm->β}{c:Cr}{r:β}(hS:KSt Bc Br c r):∃ws o,TY c.now c.l=some ws/\Qpu ws=some o/\KSt Bc Br { c with l:=ws } r/\match o with
 |none=>∀x∈Bc c.now,Ac x.p c.now none
 |some a=>Va a/\YR c.now a/\(∃x∈Bc c.now,Ac x.p c.now (some a)/\a∈tms x.p)/\∀x∈Bc c.now,∃o',Ac x.p c.now o'/\∀u,o'=some u->¬YR u a:=by
 obtain⟨⟨ok,kk⟩,hcs,hr⟩:=hS;obtain⟨ws,w1,w2,w3⟩:=dA ok.n ok.l kk;have ok':=Qkh ok w1;rw[hcs]at w2;have hc_w:∀x∈Bc c.now,∃w∈ws,w.c=x:=λx hx=>by
  have:x∈ws.map (·.c):=by rw[w2];exact OH.2 hx
  exact Zw.1 this
 have hw_c:∀w∈ws,w.c∈Bc c.now:=λw hw=>OH.1 (by rw[<-w2];exact List.mem_map_of_mem hw)
 obtain⟨o,o1,o2⟩:=Qpv ok'.l;refine⟨ws,o,w1,o1,⟨⟨ok',λw hw _=>(w3 w hw).2⟩,w2,hr⟩,?_⟩;cases o with
 |none =>
  intro x hx;obtain⟨w,hw,rfl⟩:=hc_w x hx;have:=(w3 w hw).2.1;rw[o2 w hw]at this;exact this
 |
  some a =>
  obtain⟨va,⟨w,hw,hwa⟩,hmin⟩:=o2;have k:=(w3 w hw).2.1;rw[hwa]at k;exact⟨va,k.2.2.1,⟨w.c,hw_c w hw,k,(w3 w hw).2.2 a hwa⟩,λx hx=>by
   obtain⟨v,hv,rfl⟩:=hc_w x hx;exact⟨v.fails,(w3 v hv).2.1,λu hu=>hmin v hv u hu⟩⟩
structure LwS(t:Tm)(L:List (List Rat))(D M k0 w0 j:Nat)(lo hi:Rat):Prop where
 hv:Hv t D M (k0+j) ⟨t.p,lo,hi⟩
 v:Vt (cz t.p) L lo hi
 w:(hi-lo)*p2 j<=p2 w0
theorem LwS.next{t:Tm}{L:Uq}{D M k0 w0 j:Nat}{lo hi:Rat}(h:LwS t L D M k0 w0 j lo hi) :
 (cq (cz t.p) lo hi (A2 lo hi)<=0->LwS t L D M k0 w0 (j+1) lo (A2 lo hi))/\(¬cq (cz t.p) lo hi (A2 lo hi)<=0->LwS t L D M k0 w0 (j+1) (A2 lo hi) hi):=by
 obtain⟨s1,s2⟩:=Qkj h.hv h.v;have h2:(lo+hi) / 2*2=lo+hi:=Gd (by decide);have e:=D5 lo hi;have hw:=h.w;have hj:=JC j;refine⟨λhc=>?_,λhc=>?_⟩
 ·obtain⟨a,b⟩:=s1 hc;refine⟨a,b,?_⟩;rw[e,hj];generalize (lo+hi) / 2=m at *;have:(m-lo)*(p2 j+p2 j)=(hi-lo)*p2 j:=by
   have:m+m=lo+hi:=by grind
   have:(m-lo)*(p2 j+p2 j)=(m+m-lo-lo)*p2 j:=by grind
   rw[this,‹m+m=lo+hi›];grind
  rw[this];exact hw
 ·obtain⟨a,b⟩:=s2 hc;refine⟨a,b,?_⟩;rw[e,hj];generalize (lo+hi) / 2=m at *;have:(hi-m)*(p2 j+p2 j)=(hi-lo)*p2 j:=by
   have:m+m=lo+hi:=by grind
   have:(hi-m)*(p2 j+p2 j)=(hi+hi-(m+m))*p2 j:=by grind
   rw[this,‹m+m=lo+hi›];grind
  rw[this];exact hw
theorem zK{D M k s:Nat}{x:Rat}(h:Gr D M k x)(hs:Ff (M:Int)<=s):Fe x<=p2 s:=by
 refine Zb h.b ?_;have h1:=Tg.1 hs;rw[Zr]at h1;exact Za.2 (J3 h1)
theorem LwS.few{t:Tm}{L:Uq}{D M k0 w0 j:Nat}{lo hi:Rat}(h:LwS t L D M k0 w0 j lo hi){n S m b:Nat}(hl:t.p.length=n+1)(hS:Bd S t.p)(hM:Ff (M:Int)<=m){r:Rat}(hb:Ff (r.den:Int)<=b)(hr:lo<r)(hc:Gb t r=1):j<=w0+(S+(m+1)*(n+1)+b*n):=by
 have hcq:cq (cz t.p) lo hi r=1:=by
  rw[<-Tt (t:=⟨t.p,lo,hi⟩) h.v.l r,h.hv.c];exact hc
 have q1:=zK h.hv.l hM;have q2:=zK h.hv.h hM;have hrh:r<=hi:=by
  rcases Fz r hi with e|e
  ·exact e
  ·rw[Ij h.v.l e]at hcq;exact absurd hcq (by decide)
 have q3:Fe r<=p2 m:=by
  have a1:=Sp.1 q1;have a2:=Sp.1 q2;rw[Sp];constructor
  ·exact Zb a1.1 (Qm hr)
  ·exact Zb hrh a2.2
 have hg:=Qj3 h.v hl hS q3 q2 hr hcq hb;obtain⟨G,hG⟩:=nmE (S+(m+1)*(n+1)+b*n);rw[<-hG]at hg ⊢;rcases Q9 (w0+G) j with hj|hj
 ·exfalso;have h1:=JB (show w0+G+1<=j from hj);rw[JC,GO]at h1;have hw:=h.w;have hlo:0<hi-lo:=by have:=h.v.l;grind
  have h2:(hi-r)*p2 G<=(hi-lo)*p2 G:=Q4 (by grind) (CW G);have h3:=Zq h1 (Qm hlo);have h4:1<=(hi-lo)*p2 G:=Zb hg h2;have h5:=Q4 h4 (CW w0);have h6:=sD w0;have e1:(hi-lo)*(p2 w0*p2 G+p2 w0*p2 G)=(hi-lo)*p2 G*p2 w0+(hi-lo)*p2 G*p2 w0:=by grind
  rw[e1]at h3;grind
 ·exact hj
section Srt
variable{α:Type}{lt:α->α->Bool}{R:α->α->Prop}
end Srt
def px(p:Pt)(q:Rat):Rat:=Ux p.c.x q / (p.c.d:Rat)
def py(p:Pt)(q:Rat):Rat:=Ux p.c.y q / (p.c.d:Rat)
def Qux(q:Rat)(x y:Pt):Prop:=px x q<px y q\/px x q=px y q/\(py x q<py y q\/py x q=py y q/\x.id<y.id)
def Qui(l:List Pt):Un:=l.flatMap λx=>l.flatMap λy=>[Gu x.c y.c,Gt x.c y.c]
end Orq
namespace Orq
section
variable{α:Type}(X Y:α->Rat)
def lx(a b:α):Prop:=X a<X b\/X a=X b/\Y a<Y b
def ori(a b c:α):Rat:=(X b-X a)*(Y c-Y a)-(X c-X a)*(Y b-Y a)
variable{X Y}
def Edg(Q:α->α->Prop):List α->Prop
 |a::b::r=>Q a b/\Edg Q (b::r)
 |_=>True
def Cnv(R:α->α->α->Prop):List α->Prop
 |a::b::c::r=>R a b c/\Cnv R (b::c::r)
 |_=>True
theorem Edg.tail{Q:α->α->Prop}{a:α}{l:List α}(h:Edg Q (a::l)):Edg Q l:=by
 cases l with
 |nil=>trivial
 |cons b l=>exact h.2
theorem Cnv.tail{R:α->α->α->Prop}{a:α}{l:List α}(h:Cnv R (a::l)):Cnv R l:=by
 match l,h with
 | [],_=>trivial
 | [_],_=>trivial
 |b::c::l,h=>exact h.2
theorem Edg.imp{Q Q':α->α->Prop}:∀{l:List α},(∀a∈l,∀b∈l,Q a b->Q' a b)->Edg Q l->Edg Q' l
 | [],_,_=>trivial
 | [_],_,_=>trivial
 |a::b::l,hq,h=>⟨hq a (by simp) b (by simp) h.1,Edg.imp (l:=b::l) (λx hx y hy=>hq x (Qp _ hx) y (Qp _ hy)) h.2⟩
theorem Cnv.imp{R R':α->α->α->Prop}:∀{l:List α},(∀a∈l,∀b∈l,∀c∈l,R a b c->R' a b c)->Cnv R l->Cnv R' l
 | [],_,_=>trivial
 | [_],_,_=>trivial
 | [_,_],_,_=>trivial
 |a::b::c::l,hq,h=>⟨hq a (by simp) b (by simp) c (by simp) h.1,Cnv.imp (l:=b::c::l) (λx hx y hy z hz=>hq x (Qp _ hx) y (Qp _ hy) z (Qp _ hz)) h.2⟩
structure Stk(X Y:α->Rat)(P:List α)(st:List α):Prop where
 srt:st.Pairwise λb a=>lx X Y a b
 mem:∀p∈st,p∈P
 edg:Edg (λb a=>∀p∈P,0≤ori X Y a b p) st
 cnv:Cnv (λc b a=>0<ori X Y a b c) st
theorem Stk.tail{P:List α}{a:α}{st:List α}(h:Stk X Y P (a::st)):Stk X Y P st:=⟨(Vk.1 h.srt).2,λp hp=>h.mem p (Qp _ hp),h.edg.tail,h.cnv.tail⟩
end
end Orq
namespace Orr
open Go
structure RawInt where
 b:Bool
 l:List Nat
structure RawPt where
 x:List RawInt
 y:List RawInt
 d:RawInt
 id:Int
abbrev HU(z:RawInt):Ur:=[.bool z.b,Qqu z.l]
structure RawInt.Ok(z:RawInt):Prop where
 u:∀u∈z.l,u<4294967296
structure RawPt.Ok(z:RawPt):Prop where
 x:∀a∈z.x,a.Ok
 y:∀a∈z.y,a.Ok
 d:z.d.Ok
 id:-9223372036854775808<=z.id/\z.id<=9223372036854775807
def RawInt.cut(z:RawInt):RawInt:=⟨z.b,z.l.take 1⟩
def Tv(most:Int)(z:RawInt):Int:=match z.l with
 | []=>0
 |u::_=>if z.b=true then -((u:Int) % (most+1))else(u:Int) % (most+1)
theorem VR{most:Int}(h:0<=most)(z:RawInt):-most<=Tv most z/\Tv most z<=most:=by
 unfold Tv
 split
 ·omega
 ·rename_i u _ _;have h1:=Vj (u:Int) (b:=most+1) (by omega);have h2:=Y0 (u:Int) (b:=most+1) (by omega)
  split <;> omega
def Hq(most:Int)(l:List RawInt):Um:=(l.take 3).map (Tv most)
def WT(most:Int)(x y:List RawInt)(d:RawInt):Crv:=⟨Hq most x,Hq most y,Tv 3 d⟩
def JS(most:Int)(z:RawPt):Pt:=⟨WT most z.x z.y z.d,z.id % 1000⟩
theorem TX(most:Int)(l:List RawInt):(Hq most l).length<=3:=by unfold Hq;rw[List.length_map,List.length_take];omega
theorem zE{most:Int}{l:List RawInt}{i:Nat}{z:RawInt}(hi:i<3)(h:l[i]? = some z):Hq most (l.take (i+1))=Hq most (l.take i)++[Tv most z]:=by
 unfold Hq;rw[List.take_take,List.take_take,V4 (by omega),V4 (by omega),Xd,h];simp
theorem TZ(most:Int){l:List RawInt}{i:Nat}(h:l.length<=i\/3<=i):Hq most (l.take i)=Hq most l:=by
 unfold Hq;rw[List.take_take];rcases Nat.le_total 3 i with h3|h3
 ·rw[Zx h3]
 ·rcases h with h|h
  ·rw[V4 h3,Qn (l:=l) (i:=i) (by omega),Qn (l:=l) (i:=3) (by omega)]
  ·rw[V4 h3,show i=3 by omega]
theorem TJ{most:Int}{l:List RawInt}{z:Int}(hm:0<=most)(h:z∈Hq most l):-most<=z/\z<=most:=by
 obtain⟨a,_,rfl⟩:=Zw.1 h;exact VR hm a
theorem EB{most:Int}(hm:0<=most/\most<=999)(x y:List RawInt)(d:RawInt):Cs 10 3 (WT most x y d):=by
 have key:∀z:Int,-999<=z/\z<=999->Ff z<=10:=λz h=>Tg.2 (by omega)
 refine⟨λz hz=>?_,λz hz=>?_,?_,TX _ _,TX _ _⟩
 ·have:=TJ hm.1 hz;exact key _ (by omega)
 ·have:=TJ hm.1 hz;exact key _ (by omega)
 ·have:=VR (most:=3) (by decide) d;show Ff (Tv 3 d)<=10;exact key _ (by omega)
def Mf(n:Nat):List Pt->List Pt->List Pt
 |out,[]=>out
 |out,p::l=>if out.length<n then(if out.any (λx=>decide (x.id=p.id))=true then Mf n out l else Mf n (out++[p]) l)else out
theorem Oy{n:Nat}:∀(l out:List Pt) (p:Pt),(Mf n out l).length<n->(Mf n out l).any (λx=>decide (x.id=p.id))=true->Mf n out (l++[p])=Mf n out l
 |
  [],out,p,h,ha=>by
  simp only[Mf]at h ha;show Mf n out [p]=out;simp only[Mf];rw[if_pos h,if_pos ha]
 |
  x::l,out,p,h,ha=>by
  show Mf n out (x::(l++[p]))=Mf n out (x::l);simp only[Mf]at h ha ⊢
  split
  ·rename_i h0;rw[if_pos h0]at h ha
   split
   ·rename_i h1;rw[if_pos h1]at h ha;exact Oy l out p h ha
   ·rename_i h1;rw[if_neg h1]at h ha;exact Oy l _ p h ha
  ·rfl
theorem Az{n:Nat}:∀(l out:List Pt) (p:Pt),(Mf n out l).length<n->(Mf n out l).any (λx=>decide (x.id=p.id))=false->Mf n out (l++[p])=Mf n out l++[p]
 |
  [],out,p,h,ha=>by
  simp only[Mf]at h ha;show Mf n out [p]=out++[p];simp only[Mf];rw[if_pos h,if_neg (by rw[ha];simp)]
 |
  x::l,out,p,h,ha=>by
  show Mf n out (x::(l++[p]))=Mf n out (x::l)++[p];simp only[Mf]at h ha ⊢
  split
  ·rename_i h0;rw[if_pos h0]at h ha
   split
   ·rename_i h1;rw[if_pos h1]at h ha;exact Az l out p h ha
   ·rename_i h1;rw[if_neg h1]at h ha;exact Az l _ p h ha
  ·rename_i h0;rw[if_neg h0]at h;omega
theorem GK{n:Nat}:∀(l m out:List Pt),n<=(Mf n out l).length->Mf n out (l++m)=Mf n out l
 |
  [],m,out,h=>by
  simp only[Mf]at h;show Mf n out m=out
  match m with
  | []=>rfl
  |p::m=>simp only[Mf];rw[if_neg (by omega)]
 |
  x::l,m,out,h=>by
  show Mf n out (x::(l++m))=Mf n out (x::l);simp only[Mf]at h ⊢
  split
  ·rename_i h0;rw[if_pos h0]at h
   split
   ·rename_i h1;rw[if_pos h1]at h;exact GK l m out h
   ·rename_i h1;rw[if_neg h1]at h;exact GK l m _ h
  ·rfl
theorem WV{n:Nat}:∀(l out:List Pt),out.length<=n->(Mf n out l).length<=n
 | [],out,h=>h
 |
  x::l,out,h=>by
  simp only[Mf]
  split
  ·split
   ·exact WV l out h
   ·exact WV l _ (by rw[Q3];show _+1<=_;omega)
  ·exact h
theorem BK{n:Nat}:∀(l out:List Pt) {p:Pt},p∈Mf n out l->p∈out\/p∈l
 | [],out,p,h=>.inl h
 |
  x::l,out,p,h=>by
  simp only[Mf]at h
  split at h
  ·split at h
   ·rcases BK l out h with h|h
    ·exact .inl h
    ·exact .inr (Qp _ h)
   ·rcases BK l _ h with h|h
    ·rcases Qr.1 h with h|h
     ·exact .inl h
     ·exact .inr (by rw[Qo.1 h];exact Q0 ..)
    ·exact .inr (Qp _ h)
  ·exact .inl h
def LA(n:Nat)(most:Int)(zs:List RawPt):List Pt:=Mf n [] (zs.map (JS most))
def Pt.nrm(p:Pt):Pt:=⟨p.c.norm,p.id⟩
end Orr
namespace Orr
def mI(l:List Pt):Prop:=l.Pairwise λa b=>a.id<b.id
end Orr
namespace Orr
open Go
section
variable{α:Type}{lt:α->α->Bool}
end
def Hf(a b:Pt):Bool:=decide (a.id<b.id)
def Pt.m5(p:Pt):Pt:=⟨p.c,p.id % 5⟩
def Qub(l:List Pt):Prop:=l.Pairwise λa b=>a.id≠b.id
def Qre(p:Pt):Prop:=Cs 10 3 p.c
theorem oW{n:Nat}{most:Int}(hm:0≤most/\most≤999){l:List RawPt}:∀p∈LA n most l,Qre p:=λp hp=>by
 rcases BK _ _ hp with h|h
 ·cases h
 ·obtain⟨z,_,rfl⟩:=Zw.1 h;exact EB hm _ _ _
end Orr
namespace Orr
open Go
end Orr
namespace Orr
def S4(a b:Crv):Um:=S6 (U9 (Gu a b) (Gu a b)) (U9 (Gt a b) (Gt a b))
def Ro(a b c d:Crv):Um:=Su (Fc (S4 c d) ((a.d*b.d)*(a.d*b.d))) (Fc (S4 a b) ((c.d*d.d)*(c.d*d.d)))
def Eo(sg:Um->Int)(a b c d:Pt):Ct:=⟨5,a.id,b.id,c.id,d.id,Ro a.c b.c c.c d.c,Gl sg (Ro a.c b.c c.c d.c)⟩
def H6:Nat->List Pt->List (Pt×Pt)
 | 0,_=>[]
 |_+1,[]=>[]
 |k+1,x::l=>l.map (λy=>(x,y))++H6 k l
def Hi(l:List Pt):List (Pt×Pt):=H6 l.length l
theorem Ds:∀(l:List Pt) (i:Nat) (x:Pt),l[i]? = some x->H6 (i+1) l=H6 i l++(l.drop (i+1)).map (λy=>(x,y))
 | [],i,x,h=>by simp at h
 |
  y::l,0,x,h=>by
  simp at h;subst h;simp[H6]
 |
  y::l,i+1,x,h=>by
  have h:l[i]? = some x:=by simpa using h
  have ih:=Ds l i x h;show l.map (λz=>(y,z))++H6 (i+1) l=(l.map (λz=>(y,z))++H6 i l)++_;rw[ih,Zk];rfl
theorem Es:∀(k:Nat) (l:List Pt),∀m∈H6 k l,m.1∈l/\m.2∈l
 | 0,l,m,h=>by simp[H6]at h
 |k+1,[],m,h=>by simp[H6]at h
 |
  k+1,x::l,m,h=>by
  rcases Qr.1 h with h|h
  ·obtain⟨y,hy,rfl⟩:=Zw.1 h;exact⟨Q0 ..,Qp _ hy⟩
  ·obtain⟨h1,h2⟩:=Es k l m h;exact⟨Qp _ h1,Qp _ h2⟩
theorem VM:∀(k:Nat) (l:List Pt),(H6 k l).length<=k*l.length
 | 0,l=>by simp[H6]
 |k+1,[]=>by simp[H6]
 |
  k+1,x::l=>by
  have:=VM k l;simp only[H6,Q3,Q8,Zc];have e:(k+1)*(l.length+1)=k*l.length+k+l.length+1:=by rw[Jm,Xw];omega
  omega
def Ep(sg:Um->Int)(s m:Pt×Pt):Pt×Pt:=if Gl sg (Ro s.1.c s.2.c m.1.c m.2.c)<0 then m else s
def H8(sg:Um->Int)(s:Pt×Pt)(ps:List (Pt×Pt)):Pt×Pt:=ps.foldl (Ep sg) s
theorem oH(sg:Um->Int)(s m:Pt×Pt):Ep sg s m=m\/Ep sg s m=s:=by
 unfold Ep
 split
 ·exact .inl rfl
 ·exact .inr rfl
theorem xK(sg:Um->Int)(s m:Pt×Pt)(ps:List (Pt×Pt)):H8 sg s (m::ps)=H8 sg (Ep sg s m) ps:=by unfold H8;rw[List.foldl_cons]
theorem xW(sg:Um->Int)(s:Pt×Pt)(ps:List (Pt×Pt))(m:Pt×Pt):H8 sg s (ps++[m])=Ep sg (H8 sg s ps) m:=by simp[H8]
theorem Am(sg:Um->Int){l:List Pt}:∀(ps:List (Pt×Pt)) (s:Pt×Pt),s.1∈l/\s.2∈l->(∀m∈ps,m.1∈l/\m.2∈l)->(H8 sg s ps).1∈l/\(H8 sg s ps).2∈l
 | [],s,hs,_=>hs
 |
  m::ps,s,hs,h=>by
  have hn:(Ep sg s m).1∈l/\(Ep sg s m).2∈l:=by
   rcases oH sg s m with e|e
   ·rw[e];exact h m (Q0 ..)
   ·rw[e];exact hs
  rw[xK];exact Am sg ps (Ep sg s m) hn λx hx=>h x (Qp _ hx)
def IV(s m:Pt×Pt):Bool:=decide (m.1.id≠s.1.id) || decide (m.2.id≠s.2.id)
def Bz(sg:Um->Int)(s:Pt×Pt)(ps:List (Pt×Pt)):List Ct:=(ps.filter (IV s)).map λm=>Eo sg s.1 s.2 m.1 m.2
theorem cX{sg:Um->Int}{s m:Pt×Pt}{ps:List (Pt×Pt)}(h:IV s m=true):Bz sg s (ps++[m])=Bz sg s ps++[Eo sg s.1 s.2 m.1 m.2]:=by simp[Bz,Ym,h]
theorem Qjr{sg:Um->Int}{s m:Pt×Pt}{ps:List (Pt×Pt)}(h:IV s m=false):Bz sg s (ps++[m])=Bz sg s ps:=by simp[Bz,Ym,h]
theorem iT{sg:Um->Int}{s:Pt×Pt}{ps:List (Pt×Pt)}{c:Ct}(h:c∈Bz sg s ps):∃x∈ps,Eo sg s.1 s.2 x.1 x.2=c:=by
 unfold Bz at h;obtain⟨x,hx,e⟩:=Zw.1 h;exact⟨x,(Y6.1 hx).1,e⟩
theorem FB(sg:Um->Int)(s:Pt×Pt)(ps:List (Pt×Pt)):(Bz sg s ps).length<=ps.length:=by
 unfold Bz;rw[Q8];exact Jk _ _
def Qss(sg:Um->Int):List Pt->List Pt
 |a::b::l=>[(H8 sg (a,b) (Hi (a::b::l))).1,(H8 sg (a,b) (Hi (a::b::l))).2]
 |_=>[]
def Qst(sg:Um->Int):List Pt->List Ct
 |a::b::l=>Bz sg (H8 sg (a,b) (Hi (a::b::l))) (Hi (a::b::l))
 |_=>[]
theorem Qqt{l:List Pt}(h:¬l.length<2):∃a b m,l=a::b::m:=by
 match l,h with
 | [],h=>simp at h
 | [a],h=>simp at h
 |a::b::m,_=>exact⟨a,b,m,rfl⟩
def Ap(l:List Un):Us:=l.map λr=>[.row (r.map λp=>[pl p])]
abbrev XM(r:Un):Us:=r.map λp=>[pl p]
theorem JL(l:List Un):(Ap l).length=l.length:=by simp[Ap]
def XY(i:Nat)(rows:List Un):Nat->List Un
 | 0=>[]
 |j+1=>if j=i then XY i rows j else XY i rows j++[(rows.getD j []).drop 1]
def XJ(rows:List Un)(i:Nat):List Un:=XY i rows rows.length
def Bs(f:Nat->Um)(rows:List Un):Nat->Um
 | 0=>[]
 |
  i+1=>if ((rows.getD i []).getD 0 []).length=0 then Bs f rows i else
  if i % 2=0 then S6 (Bs f rows i) (U9 ((rows.getD i []).getD 0 []) (f i))else Su (Bs f rows i) (U9 ((rows.getD i []).getD 0 []) (f i))
def M9:Nat->List Un->Um
 | 0,_=>[1]
 |k+1,rows=>Bs (λi=>M9 k (XJ rows i)) rows (k+1)
structure Sq(s:Nat)(ds:List Nat)(k w:Nat)(rows:List (List (List Int))):Prop where
 l:rows.length=k
 w:∀r∈rows,r.length=w
 t:∀r∈rows,∀p∈r,Uz p
 b:∀r∈rows,∀p∈r,Bd s p
 n:∀r∈rows,∀(j:Nat) (p:List Int),r[j]? = some p->p.length≤ds.getD j 0+1
theorem BI{i:Nat}{rows:List Un}:∀{j:Nat} {r:Un},j≤rows.length->r∈XY i rows j->∃q∈rows,r=q.drop 1
 | 0,r,_,h=>by simp[XY]at h
 |
  j+1,r,hj,h=>by
  simp only[XY]at h
  split at h
  ·exact BI (by omega) h
  ·rcases Qr.1 h with h|h
   ·exact BI (by omega) h
   ·rw[Qo.1 h];exact⟨rows.getD j [],Qa (i:=j) (by rw[Qd,Qe (by omega)];rfl),rfl⟩
theorem BA{i:Nat}{rows:List Un}:∀(j:Nat),(XY i rows j).length=if i<j then j-1 else j
 | 0=>rfl
 |
  j+1=>by
  have ih:=BA (i:=i) (rows:=rows) j;simp only[XY]
  split
  ·rename_i e;subst e;rw[ih,if_neg (by omega),if_pos (by omega)];omega
  ·rw[Q3,ih,Jc]
   split <;> split <;> omega
theorem Sq.min{s d k w:Nat}{ds:Uo}{rows:List Un}(h:Sq s (d::ds) (k+1) (w+1) rows){i:Nat}(hi:i<k+1):Sq s ds k w (XJ rows i):=by
 have hl:=h.l;have hm:∀{r:Un},r∈XJ rows i->∃q∈rows,r=q.drop 1:=λh=>BI (Qj _) h
 refine⟨by unfold XJ;rw[BA,hl,if_pos hi];omega,λr hr=>?_,λr hr p hp=>?_,λr hr p hp=>?_,λr hr j p hp=>?_⟩
 ·obtain⟨q,hq,rfl⟩:=hm hr;rw[Xs,h.w q hq];omega
 all_goals obtain⟨q,hq,rfl⟩:=hm hr
 ·exact h.t q hq p (Q5 hp)
 ·exact h.b q hq p (Q5 hp)
 ·rw[Xb]at hp;have:=h.n q hq (1+j) p hp;rw[J0 1 j]at this;exact this
theorem Sq.at{s d k w:Nat}{ds:Uo}{rows:List Un}(h:Sq s (d::ds) k (w+1) rows){i:Nat}(hi:i<k):∃p r,rows[i]? = some (p::r)/\(rows.getD i []).getD 0 []=p/\Uz p/\Bd s p/\p.length<=d+1:=by
 obtain⟨r,hr⟩:=gxE (l:=rows) (i:=i) (by rw[h.l];exact hi);have hm:=Qa hr;cases r with
 |nil=>have:=h.w _ hm;simp at this
 |
  cons p r =>
  have e:rows.getD i []=p::r:=by rw[Qd,hr];rfl
  refine⟨p,r,hr,by rw[e];rfl,h.t _ hm p (by simp),h.b _ hm p (by simp),h.n _ hm 0 p rfl⟩
theorem qE{s d k w:Nat}{ds:Uo}{f:Nat->Um}{rows:List Un}{B L:Nat}(h:Sq s (d::ds) k (w+1) rows)(hn:d<31)(hf:∀i,i<k->Bd B (f i)/\(f i).length<=L+1):∀i,i<=k->Uz (Bs f rows i)/\Bd (s+B+5+i) (Bs f rows i)/\(Bs f rows i).length<=d+L+1
 | 0,_=>⟨rfl,λz hz=>(by cases hz),Qg _⟩
 |
  i+1,hi=>by
  obtain⟨h1,h2,h3⟩:=qE h hn hf i (by omega);obtain⟨p,r,_,e,t,b,l⟩:=h.at (i:=i) (by omega);obtain⟨f1,f2⟩:=hf i (by omega);have hp1:Bd (s+B+5) (U9 p (f i)):=Tc b f1 (by omega);have hp2:=Re p (f i);simp only[Bs];rw[e]
  split
  ·exact⟨h1,Uv h2 (by omega),h3⟩
  ·split
   ·exact⟨U7 _ _,Uv (Od h2 hp1) (by omega),Qc (El _ _) (by omega)⟩
   ·exact⟨U7 _ _,Uv (Db h2 hp1) (by omega),Qc (Px _ _) (by omega)⟩
theorem PT{s:Nat}:∀(k:Nat) (ds:Uo) (rows:List Un),k<=4->ds.length=k->ds.sum<31->Sq s ds k k rows->Uz (M9 k rows)/\Bd (k*(s+10)+1) (M9 k rows)/\(M9 k rows).length<=ds.sum+1
 | 0,ds,rows,_,_,_,_=>⟨rfl,λz hz=>(by simp[M9]at hz;subst hz;rw[Yh];decide),by simp[M9]⟩
 |k+1,[],rows,_,hl,_,_=>by simp at hl
 |
  k+1,d::ds,rows,hk,hl,hd,h=>by
  rw[V9]at hd;have ih:=λi (hi:i<k+1)=>PT k ds (XJ rows i) (by omega) (by simpa using hl) (by omega) (h.min hi)
  obtain⟨h1,h2,h3⟩:=qE (f:=λi=>M9 k (XJ rows i)) (B:=k*(s+10)+1) (L:=ds.sum) h (by omega) (λi hi=>⟨(ih i hi).2.1,(ih i hi).2.2⟩) (k+1) (Qj _);have e1:(k+1)*(s+10)=k*(s+10)+(s+10):=Xa ..;rw[V9];exact⟨h1,Uv h2 (by omega),h3⟩
def Iw(a b c:Crv):List Un:=[[a.x,a.y,[a.d]],[b.x,b.y,[b.d]],[c.x,c.y,[c.d]]]
def Gh(a b c:Crv):Um:=M9 3 (Iw a b c)
end Orr
namespace Orr
open Go Go.Proofs Tryz Orq
set_option maxRecDepth 10000
theorem gz{P:Program}[Mo P]{n:Nat}{Q:Exit->Sg->Ut->Prop}{L L':Sg}{B B':Ut}(i:Nat){it:List It}(hs:Se it=true)(h:oI [i] L B=some (L',B'))(k:AK P n Q it L' B'):AK P n Q it L B:=AK.sub (UZ h) hs k
theorem CL{r:Un}{i:Nat}{p:Um}(h:r[i]? = some p):(XM r)[i]? = some [pl p]:=He h
theorem Ly{l:List Un}{i:Nat}{r:Un}(h:l[i]? = some r):(Ap l)[i]? = some [.row (XM r)]:=He h
theorem Qbl{r:Un}(ht:∀p∈r,Uz p)(hb:∀p∈r,Bd 1000000 p)(hl:∀p∈r,p.length≤1000000)(hn:r.length≤1000):Uj 280 [.one (.row (XM r))] [.one (.row (XM r))]:=by
 have hrl:(XM r).length=r.length:=by simp
 refine Hz func280 rfl ?_;refine Ud [.o 3 52 1] rfl ?_;refine Ui (S:=Nat) 1 (λL1 i=>(8,.v (.oi i))::(3,.v (.one (.orow 0 1 none)))::L1) (λi=>[.row false 52 1 (XM (r.take i))]) (λi=>r.length-i) (λi=>i<=r.length) 0 (Qg _) rfl rfl λi hi=>?_
 by_cases h:i<r.length
 ·obtain⟨p,hp⟩:=gxE (l:=r) (i:=i) h;have hm:=Qa hp;have hs:∀y∈[[pl p]],y.length=1:=λy hy=>by rw[Qo.1 hy];rfl
  have e:XM (r.take (i+1))=XM (r.take i)++[[pl p]]:=by rw[Xd,hp];simp
  refine go tt [.T,.x (CL hp),.k (Ss (ht p hm) (by have:=hl p hm;omega) (Uv (hb p hm) (by decide))),.s (sz:=1) hs] rfl (by simp[Uw] <;> omega) ?_;exact rd (i+1) (by omega) h (by rw[e];rfl)
 ·obtain rfl:i=r.length:=by omega
  rw[Q7];exact Uf [.F] rfl
theorem Qrx{s k w:Nat}{ds:Uo}{rows:List Un}(h:Sq s ds k k rows)(_hw:w=k)(hk:k<=4):Uj 355 [.one (.row (Ap rows))] [.one (.bool true)]:=by
 have hrl:=JL rows;have hl:=h.l;refine Hz func355 rfl ?_;refine Ud [] rfl ?_;refine Ui (S:=Nat) 0 (λL1 i=>(7,.v (.oi i))::L1) (λ_=>[]) (λi=>rows.length-i) (λi=>i<=rows.length) 0 (Qg _) rfl rfl λi hi=>?_
 by_cases hlt:i<rows.length
 ·obtain⟨r,hr⟩:=gxE (l:=rows) (i:=i) hlt;have hw:=h.w r (Qa hr);have hql:(XM r).length=r.length:=by simp
  refine go tt [.T,.x (Ly hr),.f (decide_eq_false (λh=>h (by omega)))] rfl (by simp[Uw] <;> omega) ?_;exact rd (i+1) (by omega) hlt rfl
 ·exact Uf [.F] rfl (by rw[decide_eq_true (by omega:((Ap rows).length:Int)<=4)]) trivial
theorem Qi2{s k w:Nat}{ds:Uo}{rows:List Un}(h:Sq s ds k w rows)(hs:s<=1000000)(hk:k<=4)(hw:w<=4)(hd:∀j,ds.getD j 0<=1000)(i:Nat):Uj 387 [.oi i,.oi 0,.one (.row (Ap rows))] [.one (.row (Ap (XJ rows i)))]:=by
 have hrl:=JL rows;have hl:=h.l;have hml:∀j,j<=rows.length->(Ap (XY i rows j)).length<=4:=λj hj=>by
  rw[JL,BA];split <;> omega
 refine Hz func387 rfl ?_;refine Ud [.o 7 335 1] rfl ?_;refine Ui (S:=Nat) 1 (λL1 j=>(15,.v (.oi j))::(7,.v (.one (.orow 0 1 none)))::L1) (λj=>[.row false 335 1 (Ap (XY i rows j))]) (λj=>rows.length-j) (λj=>j<=rows.length) 0 (Qg _) rfl rfl λj hj=>?_
 have hmlj:=hml j hj;by_cases hlt:j<rows.length
 ·obtain⟨r,hr⟩:=gxE (l:=rows) (i:=j) hlt;have hm:=Qa hr;have hw:=h.w r hm;have hql:(XM r).length=r.length:=by simp
  by_cases hij:j=i
  ·have e:XY i rows (j+1)=XY i rows j:=by simp only[XY];rw[if_pos hij]
   refine go tt [.T,.x (Ly hr),.T] rfl (by simp[Uw] <;> omega) ?_;exact rd (j+1) (by omega) hlt (by rw[e];rfl)
  ·have e:XY i rows (j+1)=XY i rows j++[r.drop 1]:=by
    simp only[XY];rw[if_neg hij,Qd,hr];rfl
   refine Ud [.T,.x (Ly hr),.F,.o 10 52 1] rfl ?_ (by simp[Uw]);refine Ui (S:=Nat) 2 (λL1 c=>(25,.v (.oi c))::(10,.v (.one (.orow 1 1 none)))::L1) (λc=>[.row false 335 1 (Ap (XY i rows j)),.row false 52 1 (XM ((r.take c).drop 1))]) (λc=>r.length-c) (λc=>c<=r.length) 0 (Qg _) rfl rfl λc hc=>?_
   by_cases hcl:c<r.length
   ·obtain⟨p,hp⟩:=gxE (l:=r) (i:=c) hcl;have hpm:=Qa hp;by_cases h0:c=0
    ·subst h0;refine Ud [.T,.x (CL hp),.f (decide_eq_false (by simp))] rfl ?_ (by simp[Uw]);exact rd 1 (by omega) hcl (by rw[Xd,hp];rfl)
    ·have hs1:∀y∈[[pl p]],y.length=1:=λy hy=>by rw[Qo.1 hy];rfl
     have e2:XM ((r.take (c+1)).drop 1)=XM ((r.take c).drop 1)++[[pl p]]:=by
      rw[Xd,hp,Vr (by rw[Qq];omega)];simp
     refine go tt [.T,.x (CL hp),.T,.k (Ss (h.t r hm p hpm) (by have:=h.n r hm c p hp;have:=hd c;omega) (Uv (h.b r hm p hpm) (by omega))),.s (sz:=1) hs1] rfl (by simp[Uw] <;> omega) ?_;exact rd (c+1) (by omega) hcl (by rw[e2];rfl)
   ·obtain rfl:c=r.length:=by omega
    rw[Q7];have hs1:∀y∈[[LV.row (XM (r.drop 1))]],y.length=1:=λy hy=>by rw[Qo.1 hy];rfl
    refine Ud [.F] rfl ?_;refine gz 1 rfl rfl ?_;refine go tt [.s (sz:=1) hs1] rfl (by simp[Uw] <;> omega) ?_;exact rd (j+1) (by omega) hlt (by rw[e];simp[Ap];rfl)
 ·obtain rfl:j=rows.length:=by omega
  exact Uf [.F] rfl
theorem RD:∀(ds:Uo) (j:Nat),ds.getD j 0<=ds.sum
 | [],j=>by simp
 |d::ds,0=>by simp
 |
  d::ds,j+1=>by
  have:=RD ds j;rw[V9];show ds.getD j 0<=_;omega
theorem Qm8{s:Nat}(hs:s<=100000):∀(k:Nat) (ds:Uo) (rows:List Un),k<=4->ds.length=k->ds.sum<31->Sq s ds k k rows->Uj 356 [.one (.row (Ap rows))] [pr (M9 k rows)]
 |
  0,ds,rows,_,_,_,h=>by
  have e:=Qh h.l;subst e;have co:=Qrr (p:=[1]) (by decide) (by decide);exact Ug func356 rfl [.t rfl,.k co] rfl
 |k+1,[],_,_,hl,_,_=>by simp at hl
 |
  k+1,d::ds,rows,hk,hl,hd,h=>by
  rw[V9]at hd;have hl':ds.length=k:=by simpa using hl
  have hrl:=JL rows;have hrn:=h.l;have hmin:=λi (hi:i<k+1)=>h.min hi
  have ih:=λi (hi:i<k+1)=>Qm8 hs k ds (XJ rows i) (by omega) hl' (by omega) (hmin i hi)
  have hok:=λi (hi:i<k+1)=>PT k ds (XJ rows i) (by omega) hl' (by omega) (hmin i hi)
  have hb:k*(s+10)+1<=500000:=by
   have:k*(s+10)<=4*(100010):=Zs (by omega) (by omega);omega
  have hds:=qE (f:=λi=>M9 k (XJ rows i)) (B:=k*(s+10)+1) (L:=ds.sum) h (by omega) (λi hi=>⟨(hok i hi).2.1,(hok i hi).2.2⟩);have cm:=Qi2 h (by omega) hk hk (λj=>by have:=RD (d::ds) j;rw[V9]at this;omega);show Uj 356 [.one (.row (Ap rows))] [pr (Bs (λi=>M9 k (XJ rows i)) rows (k+1))];obtain⟨f,hf⟩:=nmE (λi=>M9 k (XJ rows i));rw[<-hf]at hds ⊢;have hfi:∀i,f i=M9 k (XJ rows i):=λi=>by rw[hf]
  refine Hz func356 rfl ?_;refine Ud [.F,.z 3] rfl ?_;refine Ui (S:=Nat) 0 (λL1 i=>(14,.v (.oi i))::(3,.v (pr (Bs f rows i)))::L1) (λ_=>[]) (λi=>k+1-i) (λi=>i<=k+1) 0 (Qg _) rfl rfl λi hi=>?_
  obtain⟨d1,d2,d3⟩:=hds i hi;by_cases hlt:i<k+1
  ·obtain⟨p,r,hr,e,t,b,l⟩:=h.at hlt;have hx0:(XM (p::r))[0]? = some [pl p]:=rfl;have De:(p.map H9).length=p.length:=by simp
   have cn:=Ss t (by omega) (Uv b (by omega));by_cases h0:p.length=0
   ·have es:Bs f rows (i+1)=Bs f rows i:=by simp only[Bs];rw[e,if_pos h0]
    refine go tt [.T,.x (Ly hr),.x hx0,.k cn,.T] rfl (by simp[Uw] <;> omega) ?_;exact rd (i+1) (by omega) hlt (by rw[es];rfl)
   ·obtain⟨k1,k2,k3⟩:=hok i hlt;have ci:=ih i hlt;have cp:=rW (p:=p) (q:=f i) t (by rw[hfi];exact k1) (by omega) (by rw[hfi];omega) b (by rw[hfi];exact k2) (by omega);have hmb:Bd (s+(k*(s+10)+1)+5) (U9 p (f i)):=Tc b (by rw[hfi];exact k2) (by omega);have hml:=Re p (f i);have hfl:(f i).length<=ds.sum+1:=by rw[hfi];exact k3
    rw[<-hfi]at ci;by_cases h2:i % 2=0
    ·have es:Bs f rows (i+1)=S6 (Bs f rows i) (U9 p (f i)):=by simp only[Bs];rw[e,if_neg h0,if_pos h2]
     refine go tt [.T,.x (Ly hr),.x hx0,.k cn,.F,.x hx0,.k (cm i),.k ci,.k cp,.r 34 (eI (b:=((i % 2:Nat):Int)) rfl),.T,.k (rK (p:=Bs f rows i) (q:=U9 p (f i)) (by omega) (by omega) (Uv d2 (by omega)) (Uv hmb (by omega)))] rfl (by simp[Uw] <;> omega) ?_;exact rd (i+1) (by omega) hlt (by rw[es];rfl)
    ·have es:Bs f rows (i+1)=Su (Bs f rows i) (U9 p (f i)):=by simp only[Bs];rw[e,if_neg h0,if_neg h2]
     refine go tt [.T,.x (Ly hr),.x hx0,.k cn,.F,.x hx0,.k (cm i),.k ci,.k cp,.r 34 (eI (b:=((i % 2:Nat):Int)) rfl),.F,.k (MH (p:=Bs f rows i) (q:=U9 p (f i)) (by omega) (by omega) (Uv d2 (by omega)) (Uv hmb (by omega)))] rfl (by simp[Uw] <;> omega) ?_;exact rd (i+1) (by omega) hlt (by rw[es];rfl)
  ·obtain rfl:i=k+1:=by omega
   exact Uf [.F] rfl
theorem Qm2{s:Nat}(hs:s<=100000){k:Nat}{ds:Uo}{rows:List Un}(hk:k<=4)(hl:ds.length=k)(hd:ds.sum<31)(h:Sq s ds k k rows):Uj 281 [.one (.row (Ap rows))] [pr (M9 k rows),.oi 0] :=
 Ug func281 rfl [.k (Qrx h rfl hk),.f rfl,.k (Qm8 hs k ds rows hk hl hd h)] rfl
theorem fV{a b c:Crv}(ha:Sc a)(hb:Sc b)(hc:Sc c):Sq 128 [2,2,0] 3 3 (Iw a b c):=by
 have key:∀k:Crv,Sc k->(∀p∈[k.x,k.y,[k.d]],Uz p/\Bd 128 p)/\∀(j:Nat) (p:Um),[k.x,k.y,[k.d]][j]? = some p->p.length≤[2,2,0].getD j 0+1:=λk hk=>by
  have h0:k.d≠0:=by have:=hk.n.2.2.1;omega
  have td:Uz [k.d]:=by unfold Uz;simp[trim,h0]
  refine⟨λp hp=>?_,λj p hp=>?_⟩
  ·rcases Qt.1 hp with rfl|hp
   ·exact⟨hk.n.1,hk.c.x⟩
   rcases Qt.1 hp with rfl|hp
   ·exact⟨hk.n.2.1,hk.c.y⟩
   ·rw[Qo.1 hp];exact⟨td,λz hz=>by rw[Qo.1 hz];exact hk.c.d⟩
  ·match j,hp with
   | 0,hp=>injection hp with hp;subst hp;exact hk.c.lx
   | 1,hp=>injection hp with hp;subst hp;exact hk.c.ly
   | 2,hp=>injection hp with hp;subst hp;exact Qj _
   |j+3,hp=>simp at hp
 have hr:∀r∈Iw a b c,∃k:Crv,Sc k/\r=[k.x,k.y,[k.d]]:=λr hr=>by
  rcases Qt.1 hr with rfl|hr
  ·exact⟨a,ha,rfl⟩
  rcases Qt.1 hr with rfl|hr
  ·exact⟨b,hb,rfl⟩
  ·rw[Qo.1 hr];exact⟨c,hc,rfl⟩
 refine⟨rfl,λr h=>?_,λr h p hp=>?_,λr h p hp=>?_,λr h j p hp=>?_⟩
 all_goals obtain⟨k,hk,rfl⟩:=hr r h
 ·rfl
 ·exact((key k hk).1 p hp).1
 ·exact((key k hk).1 p hp).2
 ·exact(key k hk).2 j p hp
theorem EN{a b c:Crv}(ha:Sc a)(hb:Sc b)(hc:Sc c):Cp (Gh a b c):=by
 obtain⟨h1,h2,h3⟩:=PT 3 [2,2,0] (Iw a b c) (by decide) rfl (by decide) (fV ha hb hc);exact⟨h1,Qc h3 (by decide),Uv h2 (by decide)⟩
end Orr
namespace Orq
open Orr Go
theorem Nh(f:Nat->Um)(rows:List Un)(q:Rat)(i:Nat):Ux (Bs f rows (i+1)) q=Ux (Bs f rows i) q+(if i % 2=0 then 1 else -1)*(Ux ((rows.getD i []).getD 0 []) q*Ux (f i) q):=by
 simp only[Bs]
 split
 ·rename_i h;have:Ux ((rows.getD i []).getD 0 []) q=0:=by rw[Qh h];rfl
  rw[this];grind
 ·split
  ·rw[Pz,U6];grind
  ·rw[Dt,U6];grind
theorem lF(z:Int)(q:Rat):Ux [z] q=(z:Rat):=by simp[Ux,Rat.add_zero]
theorem uQ(p:Um)(q:Rat):Ux (M9 1 [[p]]) q=Ux p q:=by
 show Ux (Bs (λi=>M9 0 (XJ [[p]] i)) [[p]] (0+1)) q=_;rw[Nh];show(0:Rat)+1*(Ux p q*Ux [1] q)=_;rw[lF];have:((1:Int):Rat)=1:=rfl;grind
theorem CG(p r s t:Um)(q:Rat):Ux (M9 2 [[p,r],[s,t]]) q=Ux p q*Ux t q-Ux s q*Ux r q:=by
 show Ux (Bs (λi=>M9 1 (XJ [[p,r],[s,t]] i)) [[p,r],[s,t]] (0+1+1)) q=_;rw[Nh,Nh];show(0:Rat)+1*(Ux p q*Ux (M9 1 [[t]]) q)+(-1)*(Ux s q*Ux (M9 1 [[r]]) q)=_;rw[uQ,uQ];grind
theorem XH(a1 a2 a3 b1 b2 b3 c1 c2 c3:Um)(q:Rat):Ux (M9 3 [[a1,a2,a3],[b1,b2,b3],[c1,c2,c3]]) q=Ux a1 q*(Ux b2 q*Ux c3 q-Ux c2 q*Ux b3 q)-Ux b1 q*(Ux a2 q*Ux c3 q-Ux c2 q*Ux a3 q)+Ux c1 q*(Ux a2 q*Ux b3 q-Ux b2 q*Ux a3 q):=by
 show Ux (Bs (λi=>M9 2 (XJ [[a1,a2,a3],[b1,b2,b3],[c1,c2,c3]] i)) [[a1,a2,a3],[b1,b2,b3],[c1,c2,c3]] (0+1+1+1)) q=_;rw[Nh,Nh,Nh];show(0:Rat)+1*(Ux a1 q*Ux (M9 2 [[b2,b3],[c2,c3]]) q)+(-1)*(Ux b1 q*Ux (M9 2 [[a2,a3],[c2,c3]]) q)+1*(Ux c1 q*Ux (M9 2 [[a2,a3],[b2,b3]]) q)=_;rw[CG,CG,CG];grind

theorem Qqf(q:Rat)(p:Um):Rh (tq q) p=Fy p q:=by
 unfold Rh YO
 split
 ·rename_i h;rw[List.eq_nil_of_length_eq_zero h];rfl
 ·rw[if_pos (Pd.2 (Qk (a:=q)))];rfl
theorem Qef(q:Rat)(p:Um):Gl (Rh (tq q)) p=tO p q:=by
 have:Rh (tq q)=λp=>Fy p q:=funext (Qqf q)
 rw[this];rfl
theorem pO{b a r:Um}{k:Nat}(h:RRun b k a r):r.length<b.length:=by
 induction h with
 |stop h=>exact h
 |step _ _ _ _ _ ih=>exact ih
theorem rO{k:Nat}{l f:Un}{g:Um}(h:CRun k l g f):(∀p∈l,Bd 9000000 p/\p.length≤64)->g.length≤64->∀p∈f,Bd 9000000 p/\p.length≤64:=by
 induction h with
 |stop _=>exact λh _=>h
 |
  step h1 h2 h3 h4 h5 h6 h7 h8 h9 _ ih =>
  intro hl hg;refine ih (λp hp=>?_) ?_
  ·rcases Qr.1 hp with hp|hp
   ·exact hl p hp
   ·rw[Qo.1 hp];exact⟨h3,hg⟩
  ·have:=pO h4;exact Qc (B9 _) (Qc (O2 _) (by omega))
theorem RG{p:Um}{C:Un}(h:ChRun p p C)(hl:p.length≤60):∀x∈C,Bd 9000000 x/\x.length≤64:=by
 obtain⟨n,hn⟩:=h.chain;refine rO hn (λx hx=>?_) ?_
 ·rw[Qo.1 hx];exact⟨Uv h.bd (by decide),by omega⟩
 ·refine Qc (O2 _) ?_;have:=Tq p;omega
def bq(n:Nat):Nat->Nat
 | 0=>100
 |i+1=>21431+n*bq n i
structure HI(a:Tm)(L:List (List Rat))(j:Nat)(lo hi:Rat):Prop where
 w:∃D M k0,LwS a L D M k0 273 j lo hi/\0<M/\Ff (D:Int)<=271/\Ff (M:Int)<=272/\k0<=17886
structure HX(a:Tm)(C:List (List Int))(q:Rat)(b j:Nat)(lo hi:Rat):Prop where
 ql:Qs b lo
 qh:Qs b hi
 c:lo=hi/\q<lo/\Gb a hi=0\/HI a (C.map cz) j lo hi
theorem HI.qs{a:Tm}{L:Uq}{j:Nat}{lo hi:Rat}(h:HI a L j lo hi){b:Nat}(hb:18429+j<=b):Qs b lo/\Qs b hi:=by
 obtain⟨D,M,k0,hw,hM,h1,h2,h3⟩:=h.w;exact⟨Ak hw.hv.l hM (by omega),Ak hw.hv.h hM (by omega)⟩
theorem HI.cq{a:Tm}{L:Uq}{j:Nat}{lo hi:Rat}(h:HI a L j lo hi)(q:Rat):Orq.cq (cz a.p) lo hi q=Gb a q:=by
 obtain⟨D,M,k0,hw,_⟩:=h.w;rw[<-Tt (t:=⟨a.p,lo,hi⟩) hw.v.l q];exact hw.hv.c q
theorem HI.lt{a:Tm}{L:Uq}{j:Nat}{lo hi:Rat}(h:HI a L j lo hi):lo<hi:=by
 obtain⟨D,M,k0,hw,_⟩:=h.w;exact hw.v.l
theorem HI.few{a:Tm}{L:Uq}{j:Nat}{lo hi:Rat}(h:HI a L j lo hi){n b:Nat}(hn:a.p.length<=n+1)(h2:2<=a.p.length)(n8:n<=8)(hS:Bd 271 a.p){r:Rat}(hb:Qs b r)(hr:lo<r)(hc:Gb a r=1):j<=3001+n*b:=by
 obtain⟨D,M,k0,hw,hM,h1,hM2,h3⟩:=h.w;have h5:=hw.few (n:=a.p.length-1) (by omega) hS hM2 (b:=b) hb.2 hr hc;have h6:b*(a.p.length-1)<=n*b:=by rw[Zg];exact Qw _ (by omega)
 have h7:(272+1)*(a.p.length-1+1)<=(272+1)*9:=Zd _ (by omega);omega
structure HA(a:Tm)(n:Nat)(C:List (List Int)):Prop where
 va:Va a
 pt:a.point=false
 n:a.p.length<=n+1
 b:Bd 271 a.p
 ch:ChRun a.p a.p C
 pr:Hg a.p=a.p
 i:HI a (C.map cz) 0 a.lo a.hi
def xlo(a:Tm):Rat:=if Fy a.p a.hi=0 then a.hi else a.lo
theorem HA.start{a:Tm}{n:Nat}{C:Un}(h:HA a n C){q:Rat}{b:Nat}(hq:Gb a q=1)(hb:18429<=b):HX a C q b 0 (xlo a) a.hi:=by
 obtain⟨q1,q2⟩:=h.i.qs (b:=b) (by omega);unfold xlo
 split
 ·rename_i h0;refine⟨q2,q2,.inl ⟨rfl,?_,?_⟩⟩
  ·refine Jz.1 λhle=>?_
   have hc:=h.va.cut;have h1:Gb a a.hi=0:=?_
   ·rcases Vg.1 hle with h2|h2
    ·have:=hc.mono' h2 (by omega);omega
    ·rw[h2]at h1;omega
   rw[<-h.i.cq,Nu h.i.lt Qk,if_pos (by rw[Uy,<-H7];exact h0)]
  ·rw[<-h.i.cq,Nu h.i.lt Qk,if_pos (by rw[Uy,<-H7];exact h0)]
 ·exact⟨q1,q2,.inr h.i⟩
theorem HX.next{a:Tm}{n:Nat}{C:Un}(ha:HA a n C)(n8:n<=8){q:Rat}{b0 j:Nat}{lo hi:Rat}(h:HX a C q (21431+n*b0) j lo hi)(hb:Qs b0 q)(hq:Gb a q=1)(hlo:lo<q) :
 lo<hi/\j<=3001+n*b0/\(crR C a.p lo hi (A2 lo hi)<=0->HX a C q (21431+n*b0) (j+1) lo (A2 lo hi))/\(¬crR C a.p lo hi (A2 lo hi)<=0->HX a C q (21431+n*b0) (j+1) (A2 lo hi) hi):=by
 rcases h.c with⟨_,h1,_⟩|h1
 ·grind
 ·have hj:=h1.few ha.n ha.va.n2 n8 ha.b hb hlo hq;obtain⟨D,M,k0,hw,g1,g2,g3,g4⟩:=h1.w;obtain⟨s1,s2⟩:=hw.next;refine⟨h1.lt,hj,λhc=>?_,λhc=>?_⟩
  ·rw[Qdb hw.v]at hc;have hi':HI a (C.map cz) (j+1) lo (A2 lo hi):=⟨D,M,k0,s1 hc,g1,g2,g3,g4⟩;obtain⟨q1,q2⟩:=hi'.qs (b:=21431+n*b0) (by omega);exact⟨q1,q2,.inr hi'⟩
  ·rw[Qdb hw.v]at hc;have hi':HI a (C.map cz) (j+1) (A2 lo hi) hi:=⟨D,M,k0,s2 hc,g1,g2,g3,g4⟩;obtain⟨q1,q2⟩:=hi'.qs (b:=21431+n*b0) (by omega);exact⟨q1,q2,.inr hi'⟩
theorem HX.fin{a:Tm}{C:Un}{q:Rat}{b j:Nat}{lo hi:Rat}(ha:Va a)(h:HX a C q b j lo hi):(lo≠hi->Gb a lo=1)/\Gb a hi≠1/\lo<=hi:=by
 rcases h.c with⟨h1,h2,h3⟩|h1
 ·exact⟨λh=>absurd h1 h,by omega,by rw[h1];exact Qk⟩
 ·obtain⟨D,M,k0,hw,_⟩:=h1.w;refine⟨λ_=>by rw[<-h1.cq];exact Mj Qk,by rw[<-h1.cq];exact hw.v.hi1,Qm h1.lt⟩
end Orq
namespace Orr
open Go Go.Proofs Tryz Orq
set_option maxRecDepth 10000
theorem Qci{p q:Um}{c:Un}{m:Nat}{f:Nat->Um}{l:List Tm}(tp:Uz p)(bp:Bd 9000000 p)(lp_:p.length<=1000)(h2:2<=p.length)(hF:FRun p m f)(hP:Qid m f)(eq_:q=Pi f m)(hC:ChRun p q c)(tq:Uz q)(q2:2<=q.length)(ql:q.length<=64)(bq:Bd 1000000 q)(hc:Cok c)(hr:SRun q c (-Ge q) (Ge q) l)(hl:l.length<=1000000):Uj 57 [.one (rp (zp p))] [.one (.row (MV q c l))]:=by
 have c1:=EK tp bp lp_ h2 hF hP;rw[<-eq_]at c1;have c2:=KL tp bp lp_ h2 hC;have c3:=Qcg tq q2 (by omega) bq (by decide);have c4:=Qbq (a:=Ge q);have c5:=Qcn (Uv bq (by decide)) ql hc hr hl;refine Hz func57 rfl ?_;exact Uh [1] [] [.k c1,.k c2,.k c3,.k c4,.c [1] c5] rfl
theorem Ql4{P g q:Um}(sq:Sqp P g q)(h:2<=P.length):2<=q.length:=by
 rcases Q9 q.length 2 with h2|h2
 ·exfalso;have e:=sq.pq.one h2;have hd:Bu (cz P) (cz (Fv P)):=by
   obtain⟨z,hz⟩:=sq.d;exact⟨z,λt=>by rw[Uy,Uy,Ni,hz,sq.e,e,G9];grind⟩
  obtain⟨u,tu,eu⟩:=RB sq.pp.m hd;have ld:=Tq P;have hne:(Fv P).length≠0:=λh=>by
   have h1:=Pa P (P.length-2);rw[Qh h,show P.length-2+1=P.length-1 by omega]at h1;have h2:P.getD (P.length-1) 0≠0:=Hk sq.pp.t (by omega);rcases Jy.1 (h1.symm.trans (by simp))with h3|h3
   ·exact h2 h3
   ·omega
  obtain⟨p1,p2⟩:=G7 (U7 _ _) hne eu;have:=Rv sq.pp.t tu (U7 _ _) eu p1 p2;have e2:(Fv P).length=P.length+u.length-1:=this;omega
 ·exact h2
theorem Qbg{q:Um}{s:Nat}(hld:U8 q≠0)(bq:Bd s q):∃D M,0<M/\Gr D M 0 (Ge q)/\Ff (D:Int)<=s/\Ff (M:Int)<=s+1:=by
 obtain⟨D,hD⟩:=nmE ((U8 q).natAbs);obtain⟨m,hm⟩:=nmE (most (q.take (q.length-1)));have hm2:m<2^s:=by rw[hm];exact nW λz hz=>bq z (Ql hz)
 have hD0:0<D:=by omega
 have hbe:=QO hld;rw[<-hD,<-hm]at hbe;have hb1:=Ig hld;refine⟨D,m+1,Kl m,⟨⟨(D+m:Nat),?_⟩,?_,hD0⟩,?_,WR hm2⟩
 ·rw[Ys,Yf,hbe];rw[show((((D+m:Nat):Int)):Rat)=((D+m:Nat):Rat) from rfl];push_cast;rfl
 ·have:Fe (Ge q)=Ge q:=by unfold Fe;rw[if_neg (by grind)]
  rw[this];have hDq:=nat_pos hD0;have hD1:(1:Rat)<=(D:Rat):=by
   have:((1:Nat):Rat)<=(D:Rat):=Za.2 hD0;exact this
  have hm0:(0:Rat)<=(m:Rat):=Xg;have h3:=Pp (a:=(m:Rat)) (c:=1) hm0 Qk (by decide) hD1;rcases Fz (Ge q) ((m+1:Nat):Rat)with h'|h'
  ·exact h'
  ·exfalso;have:=Jp h' hDq
   push_cast at this;grind
 ·have:=Pw bq;rw[Tg]at this ⊢;rw[Zr,hD];exact this
theorem Qp8{q:Um}{L:Uq}{lo hi:Rat}{l:List Tm}(h:RI q L lo l hi){t:Tm}(ht:t∈l):Vt (cz q) L t.lo t.hi/\t.p=q:=by
 induction h with
 |nil=>cases ht
 |
  cons h hv ht' hp hl ih =>
  rcases Qt.1 ht with rfl|ht
  ·exact⟨ht',hp⟩
  ·exact ih ht
def Anc(p:Um):Prop:=∃w y,Uz w/\w.length≠0/\w.length<=10/\Bd 1110 w/\Uz y/\∀x:Rat,Ux w x=Ux p x*Ux y x
theorem Anc.bd{p:Um}(h:Anc p)(tp:Uz p):Bd 1179 p:=by
 obtain⟨w,y,h1,h2,h3,h4,h5,h6⟩:=h;exact D2 (s:=1110) h4 h3 h1 tp h5 h2 h6
theorem Anc.div{p g z:Um}(h:Anc p)(e:∀x:Rat,Ux p x=Ux g x*Ux z x):Anc g:=by
 obtain⟨w,y,h1,h2,h3,h4,h5,h6⟩:=h;exact⟨w,U9 z y,h1,h2,h3,h4,Fx _ _,λx=>by rw[h6,e,U6];grind⟩
structure TnOk(p:List Int)(q:List Int)(c:List (List Int))(l:List Tm):Prop where
 t:DL p=some l
 n:l.length<=67
 ck:Cok c
 va:∀t∈l,Va t
 vt:∀t∈l,t.p=q/\t.lo<t.hi/\Vt (cz q) (c.map cz) t.lo t.hi
 ch:l≠[]->ChRun q q c/\∃P g,Sqp P g q
 sz:Anc q/\q.length<=9
 gr:∀t∈l,∃D M k,Gr D M k t.lo/\Gr D M k t.hi/\0<M/\Ff (D:Int)+Ff (M:Int)+k≤82000
end Orr
namespace Orq
open Orr Go
structure AT(t:Tm)(C:List (List Int))(N:Nat)(lo hi:Rat):Prop where
 va:Va t
 ck:Cok C
 st:lo=hi/\Gb t lo=0\/t.point=false/\Vt (cz t.p) (C.map cz) lo hi/\(∀q,cq (cz t.p) lo hi q=Gb t q)/\Fy t.p hi≠0
 bd:t.point=false->Anc t.p
 g:∃D M k,Gr D M k lo/\Gr D M k hi/\0<M/\Ff (D:Int)+Ff (M:Int)+k<=N
section
variable{t:Tm}{C:Un}{N:Nat}{lo hi:Rat}
theorem AT.le(h:AT t C N lo hi):lo<=hi:=by
 rcases h.st with⟨e,_⟩|⟨_,V,_⟩
 ·rw[e];exact Qk
 ·exact Qm V.l
theorem AT.qs(h:AT t C N lo hi)(hN:N<=2000000):Qs 2000000 lo/\Qs 2000000 hi:=by
 obtain⟨D,M,k,g1,g2,hM,hs⟩:=h.g;exact⟨Ak g1 hM (by omega),Ak g2 hM (by omega)⟩
theorem AT.mono(h:AT t C N lo hi){N':Nat}(hN:N<=N'):AT t C N' lo hi:=by
 obtain⟨D,M,k,g1,g2,hM,hs⟩:=h.g;exact⟨h.va,h.ck,h.st,h.bd,D,M,k,g1,g2,hM,by omega⟩
theorem AT.hv(h:AT t C N lo hi):∃D M k,Hv t D M k ⟨t.p,lo,hi⟩:=by
 obtain⟨D,M,k,g1,g2,hM,hs⟩:=h.g;refine⟨D,M,k,rfl,?_,λq=>?_,g1,g2⟩
 ·rcases h.st with⟨rfl,e⟩|⟨_,V,_⟩
  ·refine .inl ⟨rfl,?_⟩;have:=KU h.va.cut e h.va.van;rwa[Uy]at this
  ·exact .inr ⟨_,V⟩
 ·rcases h.st with⟨rfl,e⟩|⟨_,V,e,_⟩
  ·rw[Lh rfl];exact(NV h.va.cut e q).symm
  ·rw[Tt V.l];exact e q
theorem AT.half(h:AT t C N lo hi)(hne:lo≠hi):∃lo' hi',AT t C (N+1) lo' hi'/\hi'-lo'<=(hi-lo) / 2/\lo<=lo'/\hi'<=hi/\((0<Gw C lo (A2 lo hi)/\lo'=Ax t.p lo (A2 lo hi)/\hi'=A2 lo hi)\/(¬0<Gw C lo (A2 lo hi)/\lo'=Ax t.p (A2 lo hi) hi/\hi'=hi)):=by
 obtain⟨D,M,k,g1,g2,hM,hs⟩:=h.g;rcases h.st with⟨e,_⟩|⟨pt,V,e,hn⟩
 ·exact absurd e hne
 have h2:∀x:Rat,x / 2*2=x:=λx=>Gd (by decide)
 obtain⟨m,hm⟩:=nmE (A2 lo hi);rw[<-hm];have hmm:=h2 (lo+hi);have hw:=h2 (hi-lo);rw[D5]at hm;rw[<-hm]at hmm;have hl:=V.l;have l1:lo<m:=by grind
 have l2:m<hi:=by grind
 have gm:Gr D M (k+1) m:=by rw[hm];exact GG g1 g2
 have hbt:Gw C lo m=(vv (C.map cz) lo:Int)-(vv (C.map cz) m:Int):=Sy (Qm l1);have c1:Hl lo m≠0:=λh=>by have:=Td.1 h;grind
 have c2:Hl m hi≠0:=λh=>by have:=Td.1 h;grind
 have hv:=V.v;rcases V.two l1 (Qm l2)with⟨a1,a2,_⟩|⟨a1,a2,_⟩
 ·have V':Vt (cz t.p) (C.map cz) m hi:=⟨V.s,l2,by omega⟩;refine⟨m,hi,⟨h.va,h.ck,.inr ⟨pt,V',λq=>?_,hn⟩,h.bd,D,M,k+1,gm,QW g2,hM,by omega⟩,by grind,Qm l1,Qk,.inr ⟨by omega,?_,rfl⟩⟩
  ·rw[<-e];exact V.uniq V'.cut (Mj (Qm l1)) V'.hi1 V'.van q
  ·unfold Ax;rw[if_neg (λh=>hn h.2)]
 ·by_cases h0:Fy t.p m=0
  ·have hz:Gb t m=0:=by
    rw[<-e,Nu l1 (Qm l2),if_pos (by rw[Uy,<-H7];exact h0)]
   refine⟨m,m,⟨h.va,h.ck,.inl ⟨rfl,hz⟩,h.bd,D,M,k+1,gm,gm,hM,by omega⟩,by grind,Qm l1,Qm l2,.inl ⟨by omega,?_,rfl⟩⟩;unfold Ax;rw[if_pos ⟨c1,h0⟩]
  ·have V':Vt (cz t.p) (C.map cz) lo m:=⟨V.s,l1,by omega⟩;refine⟨lo,m,⟨h.va,h.ck,.inr ⟨pt,V',λq=>?_,h0⟩,h.bd,D,M,k+1,QW g1,gm,hM,by omega⟩,by grind,Qk,Qm l2,.inl ⟨by omega,?_,rfl⟩⟩
   ·rw[<-e];exact V.uniq V'.cut (Mj Qk) (by rw[Ij l1 l2];decide) V'.van q
   ·unfold Ax;rw[if_neg (λh=>h0 h.2)]
end
theorem Qpz:∀m,1<=m->12*12^m<=5*29^m
 | 0,h=>by omega
 | 1,_=>by decide
 |
  m+2,_=>by
  have:=Qpz (m+1) (by omega);rw[Zl 12,Zl 29];omega
theorem Qsr:∀m,1<=m->(12*m+17)*12^m<=12*29^m
 | 0,h=>by omega
 | 1,_=>by decide
 |
  m+2,_=>by
  have h1:=Qsr (m+1) (by omega);have h2:=Qpz (m+1) (by omega);rw[Zl 12 (m+1),Zl 29 (m+1)];generalize 12^(m+1)=u at *;generalize 29^(m+1)=v at *;have e1:(12*(m+1)+17)*u=12*(m*u)+29*u:=by grind
  have e2:(12*(m+2)+17)*(u*12)=144*(m*u)+492*u:=by grind
  rw[e1]at h1;rw[e2];omega
theorem mW{s t m lb la:Nat}(e:la-1=m+(lb-1))(hm:1<=m)(hs:(5*(s+1)+12*(t+1))*29^(la-1)<=12^(la-1)*100000000):(5*(t+1)+12*(s+(m+1)*(t+1)+1))*29^(lb-1)<=12^(lb-1)*100000000/\s+(m+1)*(t+1)<=9000000:=by
 have a1:=Qpz m hm;have a2:=Qsr m hm;rw[e,Xc,Xc]at hs;have hu:0<12^m:=Zu (by decide);have hxy:12^(lb-1)<=29^(lb-1):=Wh (by decide) _;have hy:0<12^(lb-1):=Zu (by decide);generalize 12^m=u at *;generalize 29^m=v at *;generalize 29^(lb-1)=x at *;generalize 12^(lb-1)=y at *;have e1:(5*(t+1)+12*(s+(m+1)*(t+1)+1))*u=(s+1)*(12*u)+(t+1)*((12*m+17)*u):=by grind
 have e2:(5*(s+1)+12*(t+1))*v=(s+1)*(5*v)+(t+1)*(12*v):=by grind
 have h3:(5*(t+1)+12*(s+(m+1)*(t+1)+1))*u<=(5*(s+1)+12*(t+1))*v:=by
  rw[e1,e2];exact Nat.add_le_add (Zd _ a1) (Zd _ a2)
 have h4:(5*(t+1)+12*(s+(m+1)*(t+1)+1))*x*u<=y*100000000*u:=by
  rw[Nat.mul_right_comm];refine Qc (Qw x h3) ?_;rw[Xk];refine Qc hs (Nat.le_of_eq ?_);grind
 have h5:=Nat.le_of_mul_le_mul_right h4 hu;refine⟨h5,?_⟩;have h6:(5*(t+1)+12*(s+(m+1)*(t+1)+1))*y<=100000000*y:=by
  rw[Zg 100000000];exact Qc (Zd _ hxy) h5
 have h7:=Nat.le_of_mul_le_mul_right h6 hy;generalize (m+1)*(t+1)=z at *;omega
theorem BG:∀(k:Nat) (a b:Um) (s t:Nat),b.length<k->Pr1 a->(b.length=0\/Pr1 b)->Uz b->b.length<a.length->a.length<=60->Bd s a->Bd t b->(5*(s+1)+12*(t+1))*29^(a.length-1)<=12^(a.length-1)*100000000 ->
 ∃n g,GRun n a b g/\Pr1 g/\Bu (cz g) (cz a)/\Bu (cz g) (cz b)/\∀d,Bu d (cz a)->Bu d (cz b)->Bu d (cz g)
 | 0,_,_,_,_,h,_,_,_,_,_,_,_,_=>by omega
 |
  k+1,a,b,s,t,hk,pa,pb,tb,hab,hl,ba,bb,hs=>by
  rcases pb with h0|pb
  ·rw[Qh h0];exact⟨0,a,.stop a,pa,dvd_refl _,⟨[],λt=>by simp only[cz,Ja,ev];grind⟩,λ_ h _=>h⟩
  ·have hb:=pb.n;obtain⟨k1,k2⟩:=mW (s:=s) (t:=t) (m:=a.length-b.length) (lb:=b.length) (la:=a.length) (by omega) (by omega) hs;have ht:t+1<=(a.length-b.length+1)*(t+1):=Ks _ (by omega);obtain⟨n,r,r1,r2,r3,r4,u,X,hu,hX⟩:=PD tb hb bb (a.length-b.length+1) a s (by omega) pa.t hl ba k2 (by omega);obtain⟨p1,p2⟩:=XS r2;obtain⟨_,p3,p4,c,c1,c2⟩:=Mn r2;have tp:Uz (U5 r):=by
    rcases p2 with h|h
    ·rw[Qh h];rfl
    ·exact h.t
   obtain⟨j,g,g1,g2,g3,g4,g5⟩:=BG k b (U5 r) t (s+(a.length-b.length+1)*(t+1)) (by omega) pb p2 tp (by omega) (by omega) bb (p4 _ r4) k1;refine⟨j+1,g,.step (by omega) (by omega) (Uv bb (by omega)) r1 (by omega) (Uv r4 k2) r2 (by rw[Gn];exact g1),g2,?_,g3,λd ⟨y,hy⟩ ⟨z,hz⟩=>g5 d ⟨z,hz⟩ ((Lr c1 c2).1 ⟨Rf (Pv u y) (Pv (-1) (Gj X z)),λt=>by
    have a1:=hX t;have a2:=hy t;have a3:=hz t;rw[Uy]at a2 a3 ⊢;rw[Fu,Fq,Fq,U3];have:Ux r t=u*Ux a t-ev X t*Ux b t:=by grind
    rw[this,a2,a3];grind⟩)⟩
   obtain⟨y,hy⟩:=g3;obtain⟨z,hz⟩:=g4;have hu1:1 / u*u=1:=Gd hu;refine⟨Pv (1 / u) (Rf (Gj X y) (Pv c z)),λt=>?_⟩;have a1:=hX t;have a2:=hy t;have a3:=hz t;have a4:=c2 t;rw[Uy]at a2 a3 ⊢;rw[Fq,Fu,U3,Fq];have:Ux a t=1 / u*(u*Ux a t):=by grind
   rw[this,a1,a2,a4,a3];grind
theorem Qej{a b:Um}(pa:Pr1 a)(pb:Pr1 b)(la:a.length<=9)(lb:b.length<=9){s:Nat}(ba:Bd s a)(bb:Bd s b)(hs:s<=1260):∃n g,GRun n a b g/\Pr1 g/\Bu (cz g) (cz a)/\Bu (cz g) (cz b)/\∀d,Bu d (cz a)->Bu d (cz b)->Bu d (cz g):=by
 have hp:∀l,l<=9->∀s t,s<=1260->t<=2521->(5*(s+1)+12*(t+1))*29^(l-1)<=12^(l-1)*100000000:=λl hl s t h1 h2=>by
  refine Qc (Qw _ (show 5*(s+1)+12*(t+1)<=36569 by omega)) ?_;have:∀n,n<=8->36569*29^n<=12^n*100000000:=by decide
  exact this _ (by omega)
 rcases Q9 b.length a.length with h|h
 ·obtain⟨n,g,g1,g2,g3,g4,g5⟩:=BG 66 a b s s (by omega) pa (.inr pb) pb.t h (by omega) ba bb (hp _ la _ _ hs (by omega));exact⟨n,g,g1,g2,g3,g4,g5⟩
 ·obtain⟨n,r,r1,r2,r3,r4,u,X,hu,hX⟩:=PD pb.t pb.n bb 1 a s (by omega) pa.t (by omega) ba (by omega) (by omega);obtain⟨p1,p2⟩:=XS r2;obtain⟨_,p3,p4,c,c1,c2⟩:=Mn r2;have tp:Uz (U5 r):=by
   rcases p2 with h|h
   ·rw[Qh h];rfl
   ·exact h.t
  obtain⟨j,g,g1,g2,g3,g4,g5⟩:=BG 66 b (U5 r) s (2*s+1) (by omega) pb p2 tp (by omega) (by omega) bb (p4 _ (Uv r4 (by omega))) (hp _ lb _ _ hs (by omega));have hu1:1 / u*u=1:=Gd hu;have hb:=pb.n;refine⟨j+1,g,.step (by omega) (by omega) (Uv bb (by omega)) r1 (by omega) (Uv r4 (by omega)) r2 (by rw[Gn];exact g1),g2,?_,g3,λd ⟨y,hy⟩ ⟨z,hz⟩=>g5 d ⟨z,hz⟩ ((Lr c1 c2).1 ⟨Rf (Pv u y) (Pv (-1) (Gj X z)),λt=>?_⟩)⟩
  ·obtain⟨y,hy⟩:=g3;obtain⟨z,hz⟩:=g4;refine⟨Pv (1 / u) (Rf (Gj X y) (Pv c z)),λt=>?_⟩;have a1:=hX t;have a2:=hy t;have a3:=hz t;have a4:=c2 t;rw[Uy]at a2 a3 ⊢;rw[Fq,Fu,U3,Fq];have:Ux a t=1 / u*(u*Ux a t):=by grind
   rw[this,a1,a2,a4,a3];grind
  ·have a1:=hX t;have a2:=hy t;have a3:=hz t;rw[Uy]at a2 a3 ⊢;rw[Fu,Fq,Fq,U3];have:Ux r t=u*Ux a t-ev X t*Ux b t:=by grind
   rw[this,a2,a3];grind
theorem Qox{p P:Um}(hp:Pr1 p)(hP:Pr1 P)(lp:p.length<=9)(lP:P.length<=9)(bp:Bd 1179 p)(bP:Bd 1179 P):∃n g,GRun n (Hg p) (Hg P) g/\Pr1 g/\Bu (cz g) (cz p)/\Bu (cz g) (cz P)/\∀c,Cut c->(Dy (cz g) c↔Dy (cz p) c/\Dy (cz P) c):=by
 obtain⟨n,g,g1,g2,g3,g4,g5⟩:=Qej hp hP lp lP bp bP (by decide);obtain⟨g',_,G,m',l'⟩:=tI Qqq hp.t hP.t lp lP (Uv bp (by decide)) (Uv bP (by decide)) hp.n;have e:g=g':=by
  refine tG g2 ⟨G.t,m',l'⟩ ?_ (g5 _ G.da G.db);obtain⟨U,V,hc⟩:=G.c;obtain⟨y,hy⟩:=g3;obtain⟨z,hz⟩:=g4;refine⟨Rf (Gj U y) (Gj V z),λt=>?_⟩;have a1:=hc t;have a2:=hy t;have a3:=hz t;rw[Uy]at a2 a3 ⊢;rw[Fu,U3,U3,a1,a2,a3];grind
 rw[Gn,Gn,Ch hp,Ch hP];exact⟨n,g,g1,g2,g3,g4,λc hc=>by rw[e];exact Qea hc G⟩
theorem iS{P gg q g:Um}{s:Nat}(sq:Sqp P gg q)(pg:Pr1 g)(d:Bu (cz g) (cz q))(l2:2<=g.length)(l9:g.length<=9)(bg:Bd s g)(hs:(s+4+8)*3^8<=9000000)(hs2:s<=1180):∃L,ChRun g g (g::L)/\YH (cz g) ((g::L).map cz):=by
 have h81:(s+4+8)*3^8=(s+4+8)*6561:=rfl;have XF:Pr1 [1]:=one_sqp.pp;have s1:Sqp g [1] g:=by
  obtain⟨X,Y,hb⟩:=sq.bez;obtain⟨h,th,eh⟩:=RB pg.m d;refine⟨pg,XF,pg,λt=>by rw[G9];grind,⟨Rf (Gj X (cz h)) (Gj Y (Na (cz h))),Gj Y (cz h),λt=>?_⟩,⟨Na (cz g),λt=>by rw[G9,Rl];grind⟩⟩;have b:=hb t;have e1:dv (cz q) t=Ux g t*dv (cz h) t+dv (cz g) t*Ux h t:=by
   have:=Aw (f:=cz q) (w:=cz g) (u:=cz h) (λt=>by rw[Uy,Uy,Uy,eh]) t;rw[this,Uy,Uy];grind
  rw[e1,Uy,eh]at b;rw[G9,Fu,U3,U3,U3,Rl,Uy];grind
 have ok:Okp 9 s g:=⟨Qqr PH (by omega),pg.t,pg.n,l9,bg⟩;obtain⟨q',l,q1,q2,hS,_⟩:=chain_ok ok;obtain⟨g2,q2',e2,sq2⟩:=L6 ok;have:q2'=q':=Option.some.inj (e2.symm.trans q1);subst this;rw[Ch pg]at sq2;have eg:g2=[1]:=by
  refine tG sq2.pg XF ?_ ⟨cz g2,λt=>by rw[Uy _ [1],G9];grind⟩;obtain⟨U,V,hc⟩:=s1.c;obtain⟨z,hz⟩:=sq2.d;refine⟨Rf (Gj U (cz q2')) (Gj V z),λt=>?_⟩;rw[Uy,hc,Fu,U3,U3,hz,sq2.e,Uy,Uy];grind
 have eq2:q2'=g:=Ao sq2.pq.t pg.t λt=>by rw[sq2.e,eg,G9];grind
 subst eq2;obtain⟨L,hL,hch⟩:∃L,l=L/\LQ 66 q2' (U5 (Fv q2'))=some L:=by
  have h2:=q2;unfold chain at h2;rw[q1]at h2;simp only[Yk]at h2;rw[if_neg pg.n]at h2;obtain⟨d,hd,h2⟩:=Qi.1 h2;obtain⟨l',hl',h2⟩:=Qi.1 h2;injection h2 with h2;injection h2 with _ h2;rw[qP hd]at hl';exact⟨l',h2.symm,hl'⟩
 subst hL;exact⟨l,vC s1 l2 l9 bg hs hch,hS⟩
theorem EA{g:Um}{L:Uq}(hS:YH (cz g) L):∀(n:Nat) (lo hi:Rat),lo<hi->vv L lo<=vv L hi+n->vv L hi<vv L lo->∃c,Cut c/\c lo=1/\c hi≠1/\Dy (cz g) c
 | 0,lo,hi,_,h,h'=>by omega
 |
  n+1,lo,hi,hl,h,h'=>by
  by_cases h1:vv L lo=vv L hi+1
  ·have V:Vt (cz g) L lo hi:=⟨hS,hl,h1⟩;exact⟨_,V.cut,Mj Qk,V.hi1,V.van⟩
  ·obtain⟨m,m1,m2,m3,m4,_⟩:=Qe8 hS hl (by omega);obtain⟨c,c1,c2,c3,c4⟩:=EA hS n lo m m1 (by omega) m3;refine⟨c,c1,c2,λh=>?_,c4⟩;exact c3 (c1.mono' m2 (by omega))
theorem AT.zero{t:Tm}{C Cg:Un}{N:Nat}{lo hi:Rat}(h:AT t C N lo hi)(hne:lo≠hi){g:Um}(d:Bu (cz g) (cz t.p))(hS:YH (cz g) (Cg.map cz)):0<Gw Cg lo hi↔Dy (cz g) (Gb t):=by
 rcases h.st with⟨e,_⟩|⟨pt,V,e,hn⟩
 ·exact absurd e hne
 have hl:=V.l;have hle:=Dx hS hl;have hc:=h.va.cut;have clo:Gb t lo=1:=by rw[<-e];exact Mj Qk
 have chi:Gb t hi≠1:=by rw[<-e];exact V.hi1
 rw[Sy (Qm hl)];constructor
 ·intro hb;obtain⟨c,c1,c2,c3,c4⟩:=EA hS (vv (Cg.map cz) lo) lo hi hl (by omega) (by omega);obtain⟨u,hu⟩:=d;have hv:Dy (cz t.p) c:=Pu c1 hu c4;have:∀q,c q=Gb t q:=λq=>by rw[V.uniq c1 c2 c3 hv q,e]
  have e2:c=Gb t:=funext this;rw[<-e2];exact c4
 ·intro hv;have:=sM hS (w:=cz g) (u:=[1]) (λt=>by rw[Rx];grind) (x:=lo) (y:=hi) (c:=Gb t);rcases Q9 (vv (Cg.map cz) hi) (vv (Cg.map cz) lo)with h1|h1
  ·omega
  ·exact absurd hv (this (by omega) hc clo chi)
end Orq
namespace Orq
open Go Go.Proofs Tryz Orr
set_option maxRecDepth 10000
theorem Qmf{c:Rat->Int}(hc:Cut c)(h:Dy (cz [1]) c):False:=by
 obtain⟨q,hq,_⟩:=CZ hc (h 1 (by decide));rw[Uy,G9]at hq;exact absurd hq (by decide)
section
variable{t:Tm}{C:Un}{N:Nat}{lo hi:Rat}
theorem AT.b30(h:AT t C N lo hi):Bd 30000000 t.p/\t.p.length<=64:=⟨Uv h.va.b (by decide),by have:=h.va.n;omega⟩
theorem AT.cPt(h:AT t C N lo hi)(hN:N<=2000000):Uj 167 [.agg (ax t.p C lo hi)] [.one (.bool (decide (Hl lo hi=0)))]:=Qb7 (h.qs hN).1 (h.qs hN).2
theorem Qcm(h:AT t C N lo hi)(hN:N+1<=2000000):∃lo' hi',AT t C (N+1) lo' hi'/\hi'-lo'<=(hi-lo) / 2/\lo<=lo'/\hi'<=hi/\Uj 170 [.agg (ax t.p C lo hi)] [.agg (ax t.p C lo' hi')]:=by
 have cp:=h.cPt (by omega);by_cases he:lo=hi
 ·have h2:(hi-lo) / 2*2=hi-lo:=Gd (by decide);refine⟨lo,hi,h.mono (by omega),by grind,Qk,Qk,?_⟩;exact Ug func170 rfl [.k cp,.t (decide_eq_true (Td.2 he))] rfl
 ·obtain⟨lo',hi',a1,a2,a3,a4,a5⟩:=h.half he;obtain⟨ql,qh⟩:=h.qs (by omega);have ch:=nM ql qh;have qm:Qs 2000000 (A2 lo hi):=by
   obtain⟨D,M,k,g1,g2,hM,hs⟩:=h.g;have gm:Gr D M (k+1) (A2 lo hi):=by rw[D5];exact GG g1 g2
   exact Ak gm hM (by omega)
  have cb:=C3 h.ck ql qm;refine⟨lo',hi',a1,a2,a3,a4,?_⟩;rcases a5 with⟨b1,rfl,rfl⟩|⟨b1,rfl,rfl⟩
  ·have ce:=qF (p:=t.p) (C:=C) h.b30.1 h.b30.2 ql qm;exact Ug func170 rfl [.k cp,.f (decide_eq_false λe=>he (Td.1 e)),.k ch,.k cb,.t (decide_eq_true b1),.k ce] rfl
  ·have ce:=qF (p:=t.p) (C:=C) h.b30.1 h.b30.2 qm qh;exact Ug func170 rfl [.k cp,.f (decide_eq_false λe=>he (Td.1 e)),.k ch,.k cb,.f (decide_eq_false b1),.k ce] rfl
theorem AT.pr(h:AT t C N lo hi)(hne:lo≠hi):Pr1 t.p/\t.point=false/\Bd 1179 t.p/\∃P g,Sqp P g t.p:=by
 rcases h.st with⟨e,_⟩|⟨pt,_⟩
 ·exact absurd e hne
 obtain⟨_,P,g,_,sq,_⟩:=h.va.sc pt;exact⟨sq.pq,pt,(h.bd pt).bd sq.pq.t,P,g,sq⟩
end
section
variable{a b:Tm}{C C':Un}{N:Nat}{c:Int}
theorem AT.wide{la ha:Rat}(h:AT a C N la ha):ha-la<=p2 (N+1):=by
 obtain⟨D,M,k,g1,g2,hM,hs⟩:=h.g;have q1:=Sp.1 (zK g1 (s:=N) (by omega));have q2:=Sp.1 (zK g2 (s:=N) (by omega));have:=JC N;grind
theorem Qj2{p q:Um}(bp:Bd 1179 p)(bq:Bd 1179 q)(lp:p.length<=9)(lq:q.length<=9):Ry p q<=73904:=by
 have h1:=C6 bp;have h2:=C6 bq;unfold Ry;exact Zs (n₁:=Hr p+Hr q+(p.length+q.length)+8) (n₂:=2384) (m₁:=2*(p.length+q.length-2)-1) (m₂:=31) (by omega) (by omega)
end
end Orq
namespace Orq
open Go Go.Proofs Tryz Orr
set_option maxRecDepth 10000
theorem Qgt{p:Um}{a:Tm}(hp:Dp p)(ha:Va a){s:Int}(h:SgT p a s):Rh a p=s:=by
 obtain⟨_,h'⟩:=mV hp ha;rcases h with⟨e,h⟩|⟨e,h⟩ <;> rcases h' with⟨e',h'⟩|⟨e',h'⟩
 ·omega
 ·exact(yY ha.cut h h').elim
 ·exact(yY ha.cut h' h).elim
 ·exact Qsn ha.cut h' h
theorem qD{p:Um}(h:Dp p):Bd 1166 p:=Uv h.b (by omega)
section
variable{t:Tm}{C:Un}{N:Nat}{lo hi:Rat}
theorem Qcl(h:AT t C N lo hi)(hN:N<=2000000){p:Um}(hp:Dp p)(h0:p.length≠0):∃b:Bool,(b=true↔Dy (cz p) (Gb t))/\Uj 166 [.one (rp (zp p)),.agg (ax t.p C lo hi)] [.one (.bool b)]:=by
 have cp:=h.cPt hN;have De:=VF p;have hc:=h.va.cut;by_cases hne:lo=hi
 ·have hz:Gb t lo=0:=by
   rcases h.st with⟨_,e⟩|⟨_,V,_⟩
   ·exact e
   ·have:=V.l;rw[hne]at this;exact absurd this Ws
  have cs:=Om (p:=p) (q:=lo) (Uv (qD hp) (by decide)) (by have:=hp.l;omega) (h.qs hN).1;refine⟨decide (Fy p lo=0),?_,Ug func166 rfl [.F,.k cp,.t (decide_eq_true (Td.2 hne)),.k cs] rfl⟩;rw[decide_eq_true_eq];rcases Qgw (p:=p) hc hz with⟨e,hv⟩|⟨e,hv⟩
  ·exact⟨λ_=>hv,λ_=>e⟩
  ·exact⟨λh=>absurd h e,λh=>(yY hc h hv).elim⟩
 obtain⟨pt,ptp,bt,P,gg,sq⟩:=h.pr hne;obtain⟨ql,qh⟩:=h.qs hN;have ok:=hp.ok h0;obtain⟨pp,ppl,ppb⟩:=ok.pr;have bp:Bd 1179 (U5 p):=Uv ((Mn hp.t).2.2.1 _ (qD hp)) (by decide);obtain⟨_,_,_,k,k0,ke⟩:=Mn hp.t;have hvp:Dy (cz p) (Gb t)↔Dy (cz (U5 p)) (Gb t):=by
  constructor
  ·intro hv;refine YV hc (f:=cz p) (g:=cz (U5 p)) (k:=1 / k) (λx=>?_) hv;rw[Uy,Uy,ke];have:1 / k*k=1:=Zh (a:=1) (b:=k) k0;grind
  ·intro hv;exact YV hc (f:=cz (U5 p)) (g:=cz p) (k:=k) (λx=>by rw[Uy,Uy,ke]) hv
 have lt9:=h.va.n;have lp9:=hp.l;obtain⟨n,g,g1,g2,g3,g4,g5⟩:=Qox pp pt (by omega) lt9 bp bt;rw[Gn,Ch pp,<-Gn p]at g1;have cg:=Qch hp.t pt.t (Uv (qD hp) (by decide)) (Uv bt (by decide)) (by omega) (by omega) g1;have hgl:=VF g;have hv:=h.va.van;by_cases hl:g.length<2
 ·refine⟨false,⟨(λh=>by cases h),λh'=>?_⟩,?_⟩
  ·exfalso;have:=(g5 _ hc).2 ⟨hvp.1 h',hv⟩;rw[g2.one hl]at this;exact Qmf hc this
  ·exact Ug func166 rfl [.F,.k cp,.f (decide_eq_false λe=>hne (Td.1 e)),.k cg,.T] rfl
 ·obtain⟨y,ty,ey⟩:=RB g2.m g4;obtain⟨p1,p2⟩:=G7 pt.t pt.n ey;have hln:=Rv g2.t ty pt.t ey p1 p2;have bg:Bd 1179 g:=((h.bd ptp).div ey).bd g2.t;obtain⟨L,c1,c2⟩:=iS sq g2 g4 (by omega) (by omega) bg (by decide) (by decide);have cc:=KL g2.t (Uv bg (by decide)) (by omega) (by omega) c1;have ck:Cok (g::L):=⟨c1.small,RG c1 (by omega)⟩;have cb:=C3 ck ql qh;refine⟨decide (0<Gw (g::L) lo hi),?_,?_⟩
  ·rw[decide_eq_true_eq,h.zero hne g4 c2,g5 _ hc,hvp];exact⟨λh=>h.1,λh=>⟨h,hv⟩⟩
  ·exact Ug func166 rfl [.F,.k cp,.f (decide_eq_false λe=>hne (Td.1 e)),.k cg,.F,.k cc,.k cb] rfl
theorem EH{p:Um}(ok:Okp 9 1180 p)(l2:2<=p.length):∃q L o,Parts p q o/\YH (cz q) ((q::L).map cz)/\Cok (q::L)/\ChRun p q (q::L)/\Sj p=some q/\chain p=some (q::L)/\(∃g,Sqp (U5 p) g q)/\2<=q.length/\q.length<=p.length/\Bd 1249 q:=by
 have De:=ok.l;obtain⟨m,f,m1,m9,hF,hP,hsq,_,_,_⟩:=Qj1 ok l2 (by decide);obtain⟨q,o,q1,o1,hpt⟩:=xH ok;obtain⟨q',l,r1,r2,hS,_⟩:=chain_ok ok;have e':q'=q:=Option.some.inj (r1.symm.trans q1);subst e';have eq_:q'=Pi f m:=Option.some.inj (r1.symm.trans hsq);obtain⟨g,q0,e0,sq⟩:=L6 ok;have:q0=q':=Option.some.inj (e0.symm.trans r1);subst this;obtain⟨pp,hl,hb⟩:=ok.pr;have q2:=Ql4 sq (by omega);have e1:∀t,Ux (U5 p) t=Ux q0 t*Ux g t:=λt=>by rw[sq.e];grind
 have bq:Bd 1249 q0:=D2 (s:=1180) hb (by omega) pp.t sq.pq.t sq.pg.t pp.n e1;obtain⟨p1,p2⟩:=G7 pp.t pp.n e1;have hlen:=Rv sq.pq.t sq.pg.t pp.t e1 p1 p2;have hch:LQ 66 q0 (U5 (Fv q0))=some l:=by
  have h2:=r2;unfold chain at h2;rw[r1]at h2;simp only[Yk]at h2;rw[if_neg (by omega)]at h2;obtain⟨d,hd,h2⟩:=Qi.1 h2;obtain⟨l',hl',h2⟩:=Qi.1 h2;injection h2 with h2;injection h2 with _ h2;rw[qP hd]at hl';rw[<-h2];exact hl'
 have hCh:=vC sq q2 (by omega) bq (by decide) hch;exact⟨q0,l,o,hpt,hS,⟨hCh.small,RG hCh (by omega)⟩,⟨⟨m,f,hF,hP,eq_⟩,hCh.chain,hCh.bd,hCh.len,hCh.small⟩,r1,r2,⟨g,sq⟩,q2,by omega,bq⟩
theorem AT.sgn(h:AT t C N lo hi){p q o:Um}{L:Uq}(tp:Uz p)(np:p.length≠0)(hpt:Parts p q o)(hS:YH (cz q) L){s:Int}(hnz:NZ (cz p) (Gb t) s)(he:lo=hi\/vv L lo=vv L hi):Fy p hi=s:=by
 have ca:=h.va.cut;have pt:Gb t hi=0->Fy p hi=s:=λhz=>by
  have:=CJ ca hz hnz;rw[H7,<-Uy];exact this
 rcases h.st with⟨e,hz⟩|⟨_,V,eq_,_⟩
 ·exact pt (by rw[<-e];exact hz)
 ·have hv:vv L lo=vv L hi:=by
   rcases he with e|e
   ·have:=V.l;rw[e]at this;exact absurd this Ws
   ·exact e
  have hlo1:Gb t lo=1:=by rw[<-eq_];exact Mj Qk
  have hhi:Gb t hi≠1:=by rw[<-eq_];exact V.hi1
  have hv3:=ca.val hi;by_cases hz:Gb t hi=0
  ·exact pt hz
  ·have hz:Gb t hi=-1:=by omega
   obtain⟨s',hs',hps⟩:=IF hpt tp np hS V.l hv;obtain⟨d,dp,x,y,hx,hy,hq⟩:=hnz;obtain⟨m,m1,m2,m3⟩:=FP ca hlo1 hx;have e1:=(hq m (Qm m3) (Qm (ca.lt m1 hy))).1;have e2:=hps m m2 (Qm (ca.lt m1 hz));have e3:=hps hi V.l Qk;rw[H7,e3,<-e2,<-Uy,e1]
set_option maxHeartbeats 1000000 in
theorem Qcj(h:AT t C N lo hi)(hN:N<=900000){p:Um}(hp:Dp p)(h0:p.length≠0):Uj 59 [.one (rp (zp p)),.agg (ax t.p C lo hi)] [.oi (Rh t p)]:=by
 obtain⟨b,hb,cz_⟩:=Qcl h (by omega) hp h0;have De:=VF p;have lp9:=hp.l;have hc:=h.va.cut;have ok:=hp.ok h0;have cp:=h.cPt (by omega);cases b with
 |
  true =>
  rw[Qgt hp h.va (.inl ⟨rfl,hb.1 rfl⟩)];exact Ug func59 rfl [.k cz_,.t rfl] rfl
 |
  false =>
  have hnv:¬Dy (cz p) (Gb t):=λhv=>by have:=hb.2 hv;cases this
  obtain⟨s,PK,hnz⟩:∃s,s≠0/\NZ (cz p) (Gb t) s:=(QJ hc (cz p)).resolve_left hnv;rw[Qgt hp h.va (.inr ⟨PK,hnz⟩)];have csl:=Om (p:=p) (q:=lo) (Uv (qD hp) (by decide)) (by omega) (h.qs (by omega)).1;by_cases hne:lo=hi
  ·have hz:Gb t lo=0:=by
    rcases h.st with⟨_,e⟩|⟨_,V,_⟩
    ·exact e
    ·have:=V.l;rw[hne]at this;exact absurd this Ws
   have e:Fy p lo=s:=by rw[H7,<-Uy];exact CJ hc hz hnz
   rw[e]at csl;exact Ug func59 rfl [.k cz_,.f rfl,.k cp,.g 11 true (decide_eq_true (Td.2 hne)),.t rfl,.k csl] rfl
  by_cases h1:p.length=1
  ·have e:Fy p lo=s:=by
    obtain⟨c,rfl⟩:=Jv.1 h1;obtain⟨d,dp,x,y,hx,hy,hq⟩:=hnz;have e1:=(hq x Qk (Qm (hc.lt hx hy))).1;rw[Uy]at e1;have:∀r,Ux [c] r=(c:Rat):=λr=>by simp only[Ux];grind
    rw[H7,this];rw[this]at e1;exact e1
   rw[e]at csl;exact Ug func59 rfl [.k cz_,.f rfl,.k cp,.g 11 false (decide_eq_false λe=>hne (Td.1 e)),.T,.k csl] rfl
  obtain⟨q,L,o,hpt,hS,ck,hCh,_⟩:=EH ok (by omega);have cc:=KL hp.t (Uv (qD hp) (by decide)) (by omega) (by omega) hCh;obtain⟨gg,sq⟩:=hpt.sq;obtain⟨_,_,_,_,_,pf0,pfe⟩:=Pe hp.t h0;have hpq:Bu (cz q) (cz p):=⟨Pv (G0 p) (cz gg),λt=>by rw[Uy,Uy,Fq,Uy,pfe,sq.e];grind⟩;obtain⟨_,ptp,bt,_⟩:=h.pr hne;have hK:=Qj2 bt (Uv (qD hp) (by decide)) h.va.n lp9;obtain⟨J,hJ⟩:=nmE (N+73910);have wd:(hi-lo)*Orq.p2 0<=Orq.p2 (N+1):=by
   have w4:Orq.p2 0=1:=rfl;rw[w4];have:=h.wide;grind
  refine Hz func59 rfl ?_;refine Ud [.k cz_,.f rfl,.k cp,.g 11 false (decide_eq_false λe=>hne (Td.1 e)),.F,.k cc] rfl ?_;refine Ui (S:=Nat×Rat×Rat) 1 (λL1 _=>L1) (λs=>[.blk 36 (ax t.p C s.2.1 s.2.2)]) (λs=>J-s.1) (λs=>AT t C (N+s.1) s.2.1 s.2.2/\s.1<=J/\(s.2.2-s.2.1)*Orq.p2 s.1<=Orq.p2 (N+1)) (0,lo,hi) ⟨h,Qg _,wd⟩ rfl rfl λ⟨j,x,y⟩ ⟨i1,i2,i3⟩=>?_
  dsimp only at i1 i2 i3 ⊢;have cp:=i1.cPt (by omega);obtain⟨qx,qy⟩:=i1.qs (by omega);have cs:=Om (p:=p) (q:=y) (Uv (qD hp) (by decide)) (by omega) qy;by_cases he:x=y
  ·rw[i1.sgn hp.t h0 hpt hS hnz (.inl he)]at cs;exact Uf [.k cp,.g 25 false (by rw[decide_eq_true (Td.2 he)];rfl),.f rfl,.k cs] rfl
  have cb:=C3 ck qx qy;have hle:=i1.le;have hlt:x<y:=by rcases Vg.1 hle with h|h;exact h;exact absurd h he
  by_cases hb0:0<Gw (q::L) x y
  ·have hvv:vv ((q::L).map cz) x≠vv ((q::L).map cz) y:=λh'=>by rw[Sy hle]at hb0;omega
   obtain⟨D,M,k,hv⟩:=i1.hv;have hg:=Qgx hp.t lp9 (by omega) hS hpq i1.va hnz hv hlt hvv;have hjJ:j<J:=by
    refine W0 λhge=>?_
    have e1:Orq.p2 j=Orq.p2 (Ry t.p p+1)*Orq.p2 (j-(Ry t.p p+1)):=by rw[<-GO];congr 1;omega
    have e2:Orq.p2 (N+1)<=Orq.p2 (j-(Ry t.p p+1)):=JB (by omega);have e3:0<Orq.p2 (j-(Ry t.p p+1)):=Std.lt_of_lt_of_le (show(0:Rat)<1 by decide) (sD _);have:=Jp hg e3;have e4:((2^(Ry t.p p+1):Nat):Rat)=Orq.p2 (Ry t.p p+1):=rfl;rw[e4]at this;rw[e1]at i3;dsimp only at this;grind
   obtain⟨x',y',n1,n2,_,_,n3⟩:=Qcm i1 (by omega);refine Ud [.k cp,.g 25 true (by rw[decide_eq_false λe=>he (Td.1 e)];rfl),.k cb,.t (decide_eq_true hb0),.k n3] rfl ?_;refine rd (j+1,x',y') (by dsimp only;omega) ⟨n1,hjJ,?_⟩ rfl;dsimp only;have e1:=JC j;have z1:(y-x) / 2*2=y-x:=Gd (by decide);have z3:(y'-x')*2<=y-x:=by grind
   have z4:=Q4 z3 (CW j);have z5:∀u v:Rat,u*(v+v)=u*2*v:=λu v=>by grind
   rw[e1,z5];exact Zb z4 i3
  ·have hvv:vv ((q::L).map cz) x=vv ((q::L).map cz) y:=by
    have:=Dx hS hlt;rw[Sy hle]at hb0;omega
   rw[i1.sgn hp.t h0 hpt hS hnz (.inr hvv)]at cs;exact Uf [.k cp,.g 25 true (by rw[decide_eq_false λe=>he (Td.1 e)];rfl),.k cb,.f (decide_eq_false hb0),.k cs] rfl
theorem aN(h:AT t C N lo hi)(hN:N<=900000){p:Um}(hp:Dp p):Uj 16 [.one (rp (zp p)),.agg (ax t.p C lo hi)] [.oi (Gl (Rh t) p)]:=by
 refine Hz func16 rfl ?_;refine Ud [] rfl ?_;refine Ui (S:=Um) 1 (λL1 r=>(0,.v (.one (rp (zp r))))::L1) (λ_=>[.blk 36 (ax t.p C lo hi)]) (λr=>r.length) (λr=>Dp r/\Tf (Rh t) r.length r=Gl (Rh t) p) p ⟨hp,rfl⟩ rfl rfl λr ⟨hr,hr2⟩=>?_
 have hrl:=VF r;have hl:=hr.l;rcases Qy r.length with h0|h0
 ·rw[ZM _ h0]at hr2;exact Uf [.F] rfl (by rw[<-hr2]) trivial
 have cs:=Qcj h hN hr (by omega);by_cases hs:Rh t r=0
 ·have hd:=Tq r;refine Ud [.T,.k cs,.f (decide_eq_false (λh=>h hs)),.k (qR (p:=r) (Uv (qD hr) (by decide)) (by omega))] rfl ?_;exact rd (Fv r) (by omega) ⟨hr.der,by rw[<-hr2,ZP _ h0 hs]⟩ rfl
 ·exact Uf [.T,.k cs,.t (decide_eq_true hs)] rfl (by rw[<-hr2,ZS _ h0 hs]) trivial
end
end Orq
namespace Orr
def Ob(p:Um)(d:Int):Up:=p.map λ(z:Int)=>(z:Rat) / (d:Rat)
theorem Nq(p:Um)(d:Int):(Ob p d).length=p.length:=Q8 _
theorem Qls{p:Um}{i:Nat}{z:Int}{d:Int}(h:p[i]? = some z):(Ob p d)[i]? = some ((z:Rat) / (d:Rat)):=by simp[Ob,h]
theorem Qgq(p:Um)(d:Int)(i:Nat):(Ob p d).getD i 0=((p.getD i 0:Int):Rat) / (d:Rat):=by
 simp only[Qd,Ob,Ze];cases p[i]? with
 |none=>simp;grind
 |some z=>rfl
theorem Ot(z d:Int):(z:Rat) / (d:Rat)=Rat.divInt z d:=by
 by_cases h:d=0
 ·subst h;simp;grind
 ·rw[Yp];have e1:(z:Rat)=Rat.divInt z 1:=by have:=Zy (z:Rat);simpa using this.symm
  have e2:(d:Rat)⁻¹=Rat.divInt 1 d:=by
   have:(d:Rat)=Rat.divInt d 1:=by have:=Zy (d:Rat);simpa using this.symm
   rw[this,Rat.inv_divInt]
  rw[e1,e2,Kz];simp
theorem Qjp{z d:Int}(hd:0<d):(((z:Rat) / (d:Rat)).den:Int)*(Int.gcd z d:Nat)=d:=by
 rw[Ot];have h:=(zA (n:=z) hd).2;rw[<-h,B6,Int.gcd_comm];exact Wd (Vv ..)
theorem Qez{d a b L:Nat}(hd:0<d)(ha:L*a=d){D:Nat}(hb:D*b=d):L*D / Nat.gcd L D*Nat.gcd a b=d:=by
 have hL:0<L:=Wp λe=>by rw[e]at ha;omega
 have hD:0<D:=Wp λe=>by rw[e]at hb;omega
 have hg:0<Nat.gcd L D:=Nat.gcd_pos_of_pos_left _ hL;show Nat.lcm L D*Nat.gcd a b=d;rw[<-Nat.gcd_mul_left];refine Nat.dvd_antisymm ?_ ?_
 ·-- gcd (M a) (M b)|d
  obtain⟨u,hu⟩:=Kw L D;obtain⟨v,hv⟩:=Wv L D;have hM:Nat.lcm L D=Nat.gcd L D*(u*v):=by
   unfold Nat.lcm
   conv=>lhs;rw[show L*D=Nat.gcd L D*u*(Nat.gcd L D*v) by rw[<-hu,<-hv]]
   rw[show Nat.gcd L D*u*(Nat.gcd L D*v)=Nat.gcd L D*(Nat.gcd L D*(u*v)) by rw[Xk,Kq u,]];exact Nat.mul_div_cancel_left _ hg
  have h1:Nat.lcm L D*a=v*d:=by
   rw[hM,<-ha]
   conv=>rhs;rw[hu]
   simp[Zg,Kq,Xk]
  have h2:Nat.lcm L D*b=u*d:=by
   rw[hM,<-hb]
   conv=>rhs;rw[hv]
   simp[Zg,Kq,Xk]
  have huv:Nat.gcd u v=1:=by
   have:=Nat.gcd_mul_left (Nat.gcd L D) u v;rw[<-hu,<-hv]at this;exact Nat.eq_of_mul_eq_mul_left hg (by omega)
  rw[h1,h2,Nat.gcd_mul_right,Wb,huv,Ub];exact Nat.dvd_refl d
 ·refine Nat.dvd_gcd ?_ ?_
  ·rw[<-ha];exact Nat.mul_dvd_mul_right (Nat.dvd_lcm_left L D) a
  ·rw[<-hb];exact Nat.mul_dvd_mul_right (Nat.dvd_lcm_right L D) b
def yM(z:Um)(d:Int):Nat->Int
 | 0=>1
 |i+1=>yM z d i*((((z.getD i 0:Int):Rat) / (d:Rat)).den:Int) / (Int.gcd (yM z d i) ((((z.getD i 0:Int):Rat) / (d:Rat)).den:Int):Nat)
theorem sK{z:Um}{d:Int}(hd:0<d):∀i,i<=z.length->yM z d i*((Hx (d::z.take i):Nat):Int)=d
 |
  0,_=>by
  show 1*_=d;have:((Hx [d]:Nat):Int)=d:=by unfold Hx;simp;omega
  rw[Vb,this,Yy]
 |
  i+1,hi=>by
  have ih:=sK (z:=z) hd i (by omega);have hz:z[i]? = some (z.getD i 0):=GU (l:=z) (by omega);have hstep:Hx (d::z.take (i+1))=Nat.gcd (Hx (d::z.take i)) (z.getD i 0).natAbs:=by
   have:=GW (l:=d::z) (i:=i+1) (z:=z.getD i 0) (by simpa using hz);simpa using this
  have hdn:=Qjp (z:=z.getD i 0) hd;simp only[yM];generalize hL:yM z d i=L at *;generalize hD:(((z.getD i 0:Int):Rat) / (d:Rat)).den=D at *;have hLp:0<L:=by
   rcases Jw L 0 with h|h|h
   ·have:=Int.mul_nonneg (Int.neg_nonneg_of_nonpos (Int.le_of_lt h)) (Int.natCast_nonneg (Hx (d::z.take i)));rw[Vo]at this;omega
   ·rw[h,Yd]at ih;omega
   ·exact h
  obtain⟨l,rfl⟩:=Yv (Int.le_of_lt hLp);obtain⟨e,rfl⟩:=Yv (Int.le_of_lt hd);have h1:l*Hx (((e:Nat):Int)::z.take i)=e:=by exact_mod_cast ih
  have h2:D*Int.gcd (z.getD i 0) ((e:Nat):Int)=e:=by exact_mod_cast hdn
  have h3:=Qez (d:=e) (by omega) h1 h2;have h4:Nat.gcd (Hx (((e:Nat):Int)::z.take i)) (Int.gcd (z.getD i 0) ((e:Nat):Int))=Nat.gcd (Hx (((e:Nat):Int)::z.take i)) (z.getD i 0).natAbs:=by
   have hge:Hx (((e:Nat):Int)::z.take i)∣e:=⟨l,by rw[Zg];exact h1.symm⟩;show Nat.gcd _ (Nat.gcd (z.getD i 0).natAbs e)=_;rw[Wb (z.getD i 0).natAbs e,<-Nat.gcd_assoc,Nat.gcd_eq_left hge]
  rw[hstep,<-h4];rw[show Int.gcd ((l:Nat):Int) ((D:Nat):Int)=Nat.gcd l D by simp[Int.gcd]]
  exact_mod_cast h3
theorem Qkb{x y:Um}{d:Int}(hd:0<d)(hg:Hx (d::(x++y))=1):yM (x++y) d (x++y).length=d:=by
 have:=sK (z:=x++y) hd (x++y).length (Qj _);rw[Q7,hg]at this;simpa using this
theorem Qkd{z:Um}{d:Int}(hd:0<d){i:Nat}(hi:i<=z.length):Ff (yM z d i)<=Ff d:=by
 have h:=sK (z:=z) hd i hi;refine Te ?_;have h0:Hx (d::z.take i)≠0:=λe=>by rw[e]at h;simp at h;omega
 have:d.natAbs=(yM z d i).natAbs*Hx (d::z.take i):=by
  conv=>lhs;rw[<-h]
  rw[J5];simp
 rw[this];exact Jr _ (Wp h0)
end Orr
namespace Orr
open Go Go.Proofs Tryz
set_option maxRecDepth 10000
abbrev cl4(k:Crv):Ur:=[pl k.x,pl k.y,sg k.d,mg k.d]
abbrev P5(c:Crv):Ur:=[rp (Ob c.x c.d),rp (Ob c.y c.d)]++cl4 c
def Ht(p:Pt):Ur:=P5 p.c++[.int .i64 p.id]
def Fl(l:List Pt):Us:=l.map Ht
structure Rs(k:Crv):Prop where
 n:gZ k
 c:Cs 100000 16 k
theorem Rs.d0{k:Crv}(h:Rs k):0<k.d:=h.n.2.2.1
theorem VI{x:Um}{d:Int}{s:Nat}(hx:Bd s x)(hd:Ff d<=s)(h1:1<=s):Rb s (Ob x d):=λq hq=>by
 obtain⟨z,hz,rfl⟩:=Zw.1 hq;rw[Ot];exact Qs.divInt (hx z hz) hd h1
theorem DZ{x:Um}{d:Int}(tx:Uz x)(hd:d≠0):Nb (Ob x d) (d:Rat)=zp x:=by
 have hd':(d:Rat)≠0:=λe=>hd (by exact_mod_cast e)
 unfold Nb;rw[MQ (g:=λi=>x.getD i 0) _ λi _=>?_,Nq,BL,Ns,tx];rw[Qgq];grind
theorem vM{p:Up}{c:Int}(hp:Rb 40000000 p)(hc:Ff c<=40000000)(hl:p.length<=1000000):Uj 343 [.one (rp p),.agg (ri c)] [.one (rp (Nb p (c:Rat)))] :=
 Ug func343 rfl [.k (D9 (n:=1) (by decide)),.k (Nc (n:=c)),.k (Ii (p:=p) (c:=(c:Rat)) hp (D6 hc (by omega)) hl)] rfl
theorem Qlr(x y:Um)(d:Int):frow (Ob x d)++frow (Ob y d)=frow (Ob (x++y) d):=by simp[Ob,frow]
theorem UU{z:Um}{d:Int}{i:Nat}(h:i<z.length):(Ob z d)[i]? = some (((z.getD i 0:Int):Rat) / (d:Rat)):=Qls (GU h)
theorem LF(a b:Int)(hb:b≠0){s:Nat}(h:Ff b<=s):Ff ((Int.gcd a b:Nat):Int)<=s:=by
 refine Qc (Te ?_) h;simp only[Zr];exact Ka (by omega) (by simpa using Xn.2 (Vv a b))
theorem Qkc(a b:Int):(a*b) % ((Int.gcd a b:Nat):Int)=0:=J7 (V5 (Wx ..) (Vu a b))
theorem EW{k:Crv}(hs:Rs k):Uj 248 [.one (rp (Ob k.x k.d)),.one (rp (Ob k.y k.d))] [.agg (P5 k)]:=by
 have hlx:=hs.c.lx;have hly:=hs.c.ly;have hds:=hs.c.d;have hxy:Bd 100000 (k.x++k.y):=λz hz=>by rcases Qr.1 hz with h|h;exact hs.c.x z h;exact hs.c.y z h
 have hfx:(frow (Ob k.x k.d)).length=k.x.length:=by rw[To,Nq]
 have hfy:(frow (Ob k.y k.d)).length=k.y.length:=by rw[To,Nq]
 have hfl:(frow (Ob (k.x++k.y) k.d)).length=k.x.length+k.y.length:=by rw[To,Nq,Q3]
 have hd0:=hs.d0;refine Hz func248 rfl ?_;refine go tt [.k (D9 (n:=1) (by decide)),.s (sz:=4) (GX _),.s (sz:=4) (GX _)] rfl (by simp[Uw,hfx,hfy];omega) ?_;rw[Qlr];refine Ui (S:=Nat) 3 (λL1 i=>(15,.v (.oi i))::L1) (λi=>[.blk 133 [.nils,.nils,.nils,.nils,.bool false,.nils],.blk 32 (ri (yM (k.x++k.y) k.d i)),.row false 34 4 (frow (Ob (k.x++k.y) k.d))]) (λi=>k.x.length+k.y.length-i) (λi=>i<=k.x.length+k.y.length) 0 (Qg _) rfl rfl λi hi=>?_
 have hll:(k.x++k.y).length=k.x.length+k.y.length:=Q3;by_cases h:i<k.x.length+k.y.length
 ·have hlt:i<(k.x++k.y).length:=by omega
  have hqe:=VI (x:=(k.x++k.y)) (d:=k.d) (s:=100000) hxy hs.c.d (by decide);have hqi:=hqe.get (UU hlt);obtain⟨D,hD⟩:=nmE (((((k.x++k.y).getD i 0:Int):Rat) / (k.d:Rat)));have hg:=Ei (UU (d:=k.d) hlt);have es:yM (k.x++k.y) k.d (i+1)=yM (k.x++k.y) k.d i*(D.den:Int) / ((Int.gcd (yM (k.x++k.y) k.d i) (D.den:Int):Nat):Int):=by rw[hD];rfl
  rw[<-hD]at hqi hg;have hq2:=hqi.2;have hli:=Qc (Qkd (z:=(k.x++k.y)) hs.d0 (i:=i) (by omega)) hs.c.d;have hg0:((Int.gcd (yM (k.x++k.y) k.d i) (D.den:Int):Nat):Int)≠0:=by have:=Int.gcd_ne_zero_right (a:=(yM (k.x++k.y) k.d i)) (Nv D);omega
  have hmu:=Ga (yM (k.x++k.y) k.d i) (D.den:Int);refine go tt [.T,.i i,.x hg,.k (Mh (a:=yM (k.x++k.y) k.d i) (b:=(D.den:Int)) (by omega) (by omega)),.i i,.x hg,.k (MM (a:=yM (k.x++k.y) k.d i) (b:=(D.den:Int)) (by omega) (by omega)),.k (FR (by omega) (Qc (LF _ _ (Nv D) hq2) (by decide)) hg0 (Qkc _ _))] rfl (by simp[Uw,hfl];omega) ?_;exact rd (i+1) (by omega) h (by rw[es];rfl)
 have e:yM (k.x++k.y) k.d i=k.d:=by rw[show i=(k.x++k.y).length by omega];exact Qkb hs.d0 hs.n.2.2.2
 rw[e];have hx:=vM (p:=Ob k.x k.d) (c:=k.d) ((VI (s:=100000) hs.c.x hs.c.d (by decide)).mono (by omega)) (by omega) (by rw[Nq];omega);have hy:=vM (p:=Ob k.y k.d) (c:=k.d) ((VI (s:=100000) hs.c.y hs.c.d (by decide)).mono (by omega)) (by omega) (by rw[Nq];omega);rw[DZ hs.n.1 (by omega)]at hx;rw[DZ hs.n.2.1 (by omega)]at hy;exact Uf [.F,.k hx,.k (bX (p:=k.x) (Uv hs.c.x (by omega)) (by omega)),.k hy,.k (bX (p:=k.y) (Uv hs.c.y (by omega)) (by omega)),.k (Qb2 (z:=k.d) (by omega))] rfl
theorem jX(k:Crv):H4 1 k.d'=((1:Int):Rat) / (k.d':Rat):=by
 unfold H4;rw[if_neg k.d'_ne,Ot]
theorem TP{x:Um}{g d:Int}(hg:g≠0)(hd:d≠0)(hgd:g∣d)(tx:Uz x)(hx:∀z∈x,g∣z):Nb (zp x) (((1:Int):Rat) / (d:Rat))=Ob (trim (x.map (· / g))) (d / g):=by
 have ht:Uz (x.map (· / g)):=E7 tx hg hx;rw[show trim (x.map (· / g))=x.map (· / g) from ht];obtain⟨e,rfl⟩:=hgd;have he:e≠0:=λh=>hd (by rw[h,Vz])
 rw[Xp _ hg];have hgq:(g:Rat)≠0:=λh=>hg (by exact_mod_cast h)
 have heq:(e:Rat)≠0:=λh=>he (by exact_mod_cast h)
 unfold Nb;rw[Sf];have hval:∀i,i<x.length->(zp x).getD i 0*(((1:Int):Rat) / ((g*e:Int):Rat))=(((x.map (· / g)).getD i 0:Int):Rat) / (e:Rat):=λi hi=>by
  rw[FQ];have hz:=GU hi;have hm:(x.map (· / g)).getD i 0=x.getD i 0 / g:=by simp[Qd,Qe hi]
  obtain⟨w,hw⟩:=hx _ (Qa hz);rw[hm,hw,Xp _ hg,X3,X3];have:((1:Int):Rat)=1:=rfl;rw[this];grind
 have htab:QP (λi=>(zp x).getD i 0*(((1:Int):Rat) / ((g*e:Int):Rat))) x.length=Ob (x.map (· / g)) e:=by
  apply Xu;intro i;by_cases hi:i<x.length
  ·rw[UU (by simpa using hi)];simp only[QP,Ze,Jb hi,Yb];rw[hval i hi]
  ·rw[Qx (by rw[UT];omega),Qx (by rw[Nq];simp;omega)]
 rw[htab];rcases Qy x.length with h0|h0
 ·have:=Qh h0;subst this;rfl
 ·have hl:(Ob (x.map (· / g)) e).length=x.length:=by rw[Nq,Q8]
  have:=HT (l:=Ob (x.map (· / g)) e) (m:=x.length) (by omega) (λj y hj hy=>by rw[Qx (by omega)]at hy;cases hy) (λ_=>⟨_,UU (z:=x.map (· / g)) (d:=e) (i:=x.length-1) (by rw[Q8];omega),λh=>by
   have h3:(((x.map (· / g)).getD (x.length-1) 0:Int):Rat)=0:=by grind
   have h4:(x.map (· / g)).getD (x.length-1) 0=0:=by exact_mod_cast h3
   have:=Hk ht (by rw[Q8];omega);rw[Q8]at this;exact this h4⟩)
  rw[this,Qn (by omega)]
theorem Qf9{k:Crv}(hk:Cs 100000 16 k):Qs 40000000 (H4 1 k.d'):=by
 have h1:=zS hk.d (by decide);rw[jX,Ot];exact Qs.divInt (by decide) (by omega) (by decide)
theorem Crv.g_dvd'(k:Crv){z:Int}(h:z∈k.d'::(trim k.x++trim k.y)):k.g∣z:=Yu (k.g_dvd z h)
theorem Qgk(k:Crv):Nb (zp (trim k.x)) (H4 1 k.d')=Ob k.norm.x k.norm.d:=by
 rw[jX];exact TP k.g_ne k.d'_ne (k.g_dvd' (by simp)) (Hj _) (λz hz=>k.g_dvd' (by simp[hz]))
theorem Qgl(k:Crv):Nb (zp (trim k.y)) (H4 1 k.d')=Ob k.norm.y k.norm.d:=by
 rw[jX];exact TP k.g_ne k.d'_ne (k.g_dvd' (by simp)) (Hj _) (λz hz=>k.g_dvd' (by simp[hz]))
theorem eU{k:Crv}(h:Cs 100000 16 k):Rs k.norm:=⟨k.nml,h.norm (by decide)⟩
theorem Qi6{k:Crv}(hk:Cs 100000 16 k):Uj 152 [.agg (cl4 k)] [.agg (P5 (Crv.norm k))]:=by
 have hlx:=hk.lx;have hly:=hk.ly;have hkd:=hk.d;have hrq:=Qf9 hk;have hdi:Ff k.d'<=100000:=zS hk.d (by decide);have hx:=Ii (p:=zp (trim k.x)) (c:=H4 1 k.d') (QR (Uv (Si hk.x) (by omega)) (by omega)) hrq (by rw[Sf];have:=Ri k.x;omega);have hy:=Ii (p:=zp (trim k.y)) (c:=H4 1 k.d') (QR (Uv (Si hk.y) (by omega)) (by omega)) hrq (by rw[Sf];have:=Ri k.y;omega);rw[Qgk]at hx;rw[Qgl]at hy;have c1:=D9 (n:=1) (by decide);have cm:=KN (a:=1) (b:=k.d') (by decide) (by omega);by_cases h0:k.d=0
 ·have e:k.d'=1:=by unfold Crv.d';rw[if_pos h0]
  rw[e]at hx hy cm;exact Ug func152 rfl [.k (qY (z:=k.d) (by omega)),.k Nm,.t (decide_eq_true h0),.k c1,.k c1,.k cm,.k (JQ (p:=k.x) (Uv hk.x (by omega)) (by omega)),.k hx,.k (JQ (p:=k.y) (Uv hk.y (by omega)) (by omega)),.k hy,.k (EW (eU hk))] rfl
 ·have e:k.d'=k.d:=by unfold Crv.d';rw[if_neg h0]
  rw[e]at hx hy cm;exact Ug func152 rfl [.k (qY (z:=k.d) (by omega)),.k Nm,.f (decide_eq_false h0),.k c1,.k cm,.k (JQ (p:=k.x) (Uv hk.x (by omega)) (by omega)),.k hx,.k (JQ (p:=k.y) (Uv hk.y (by omega)) (by omega)),.k hy,.k (EW (eU hk))] rfl
theorem Qcq{k:Crv}{id:Int}(hk:Cs 100000 16 k):Uj 53 [.agg (cl4 k++[.int .i64 id])] [.agg (Ht ⟨Crv.norm k,id⟩)] :=
 Ug func53 rfl [.k (Qi6 hk)] rfl
theorem Nt{k:Crv}(hk:Rs k):Uj 273 [.agg (P5 k)] [.one (rp (zp k.x)),.one (rp (zp k.y)),.one (rp (zp [k.d]))]:=by
 have hlx:=hk.c.lx;have hly:=hk.c.ly;have hkd:=hk.c.d;have hx:=JQ (p:=k.x) (Uv hk.c.x (by omega)) (by omega);have hy:=JQ (p:=k.y) (Uv hk.c.y (by omega)) (by omega);rw[show trim k.x=k.x from hk.n.1]at hx;rw[show trim k.y=k.y from hk.n.2.1]at hy;exact Ug func273 rfl [.k (qY (z:=k.d) (by omega)),.k (D9 (n:=1) (by decide)),.k (Nc (n:=k.d)),.k hx,.k hy] rfl
theorem pY{p:Um}{d:Int}(tp:Uz p)(hd:d≠0):U9 p [d]=Fc p d:=by
 refine ZH (Fx _ _) (U7 _ _) λm=>?_
 unfold Fc;rw[Tz];unfold U9;by_cases h0:p.length=0
 ·rw[if_pos (.inl h0),if_neg (by omega)];rfl
 ·rw[if_neg (by simp;exact λh=>h0 (by rw[h];rfl)),Bn];show(Cc p [d] (List.replicate (p.length+1-1) 0) p.length).getD m 0=_;have key:∀i,i<=p.length->(Cc p [d] (List.replicate (p.length+1-1) 0) i).getD m 0=if m<i then p.getD m 0*d else 0:=by
   intro i
   induction i with
   |zero=>intro _;simp only[Cc];rw[Hu,if_neg (by omega)]
   |
    succ i ih =>
    intro hi;simp only[Cc];rw[GE _ _ _ _ _ _ (by rw[Cd,X1];show i+1<=_;omega),ih (by omega)];show(if i<=m/\m<i+1 then(if m<i then p.getD m 0*d else 0)+p.getD i 0*[d].getD (m-i) 0 else _)=_;by_cases e:m=i
    ·subst e;rw[if_pos ⟨Qj _,by omega⟩,if_neg (by omega),if_pos (by omega),J4];show 0+p.getD m 0*d=_;omega
    ·rw[if_neg (by omega)];by_cases h1:m<i
     ·rw[if_pos h1,if_pos (by omega)]
     ·rw[if_neg h1,if_neg (by omega)]
  rw[key _ (Qj _)]
theorem Qbe{s:Nat}{d:Int}(h:Ff d<=s):Bd s [d]:=λz hz=>by simp at hz;subst hz;exact h
theorem VY{p:Um}{d:Int}(tp:Uz p)(hd:d≠0)(hp:Bd 9000000 p)(hs:Ff d<=9000000)(hl:p.length<=1000):Uj 259 [.one (rp (zp p)),.one (rp (zp [d]))] [.one (rp (zp (Fc p d)))]:=by
 have h:=Au (p:=p) (q:=[d]) (by omega) (by show 1<=1000000;decide) hp (Qbe hs) (by decide);rwa[pY tp hd]at h
theorem Rs.dn{k:Crv}(h:Rs k):k.d≠0:=by have:=h.d0;omega
theorem qH{p q:Um}(hp:Bd 19000000 p)(hq:Bd 19000000 q)(hlp:p.length<=1000000)(hlq:q.length<=1000000):Uj 276 [.one (rp (zp p)),.one (rp (zp q))] [.one (rp (zp (Su p q)))]:=by
 have h:=rC (QR hp (by decide)) (QR hq (by decide)) (by rw[Sf];exact hlp) (by rw[Sf];exact hlq);rwa[eR]at h
theorem vG{a b:Crv}(ha:Rs a)(hb:Rs b):Uj 270 [.agg (P5 a),.agg (P5 b)] [.one (rp (zp (Gu a b)))] :=
 Ug func270 rfl [.k (Nt ha),.k (Nt hb),.k (VY (p:=b.x) (d:=a.d) hb.n.1 ha.dn (Uv hb.c.x (by decide)) (Qc ha.c.d (by decide)) (by have:=hb.c.lx;omega)),.k (VY (p:=a.x) (d:=b.d) ha.n.1 hb.dn (Uv ha.c.x (by decide)) (Qc hb.c.d (by decide)) (by have:=ha.c.lx;omega)),.k (qH (p:=Fc b.x a.d) (q:=Fc a.x b.d) (Uv (Fw hb.c.x ha.c.d) (by decide)) (Uv (Fw ha.c.x hb.c.d) (by decide)) (by have:=Ft b.x a.d;have:=hb.c.lx;omega) (by have:=Ft a.x b.d;have:=ha.c.lx;omega))] rfl
theorem vW{a b:Crv}(ha:Rs a)(hb:Rs b):Uj 271 [.agg (P5 a),.agg (P5 b)] [.one (rp (zp (Gt a b)))] :=
 Ug func271 rfl [.k (Nt ha),.k (Nt hb),.k (VY (p:=b.y) (d:=a.d) hb.n.2.1 ha.dn (Uv hb.c.y (by decide)) (Qc ha.c.d (by decide)) (by have:=hb.c.ly;omega)),.k (VY (p:=a.y) (d:=b.d) ha.n.2.1 hb.dn (Uv ha.c.y (by decide)) (Qc hb.c.d (by decide)) (by have:=ha.c.ly;omega)),.k (qH (p:=Fc b.y a.d) (q:=Fc a.y b.d) (Uv (Fw hb.c.y ha.c.d) (by decide)) (Uv (Fw ha.c.y hb.c.d) (by decide)) (by have:=Ft b.y a.d;have:=hb.c.ly;omega) (by have:=Ft a.y b.d;have:=ha.c.ly;omega))] rfl
theorem ID{a b:Crv}(ha:Rs a)(hb:Rs b):Bd 200001 (Gu a b)/\(Gu a b).length<=16:=by
 refine⟨Uv (Db (Fw hb.c.x ha.c.d) (Fw ha.c.x hb.c.d)) (by omega),Qc (Px _ _) ?_⟩;have:=Ft b.x a.d;have:=Ft a.x b.d;have:=ha.c.lx;have:=hb.c.lx;omega
theorem IK{a b:Crv}(ha:Rs a)(hb:Rs b):Bd 200001 (Gt a b)/\(Gt a b).length<=16:=by
 refine⟨Uv (Db (Fw hb.c.y ha.c.d) (Fw ha.c.y hb.c.d)) (by omega),Qc (Px _ _) ?_⟩;have:=Ft b.y a.d;have:=Ft a.y b.d;have:=ha.c.ly;have:=hb.c.ly;omega
theorem nU{s:Nat}{p:Um}(h:Bd s p)(hl:p.length<=16):Bd (2*s+5) (U9 p p):=Uv (Tc (u:=5) h h (by omega)) (by omega)
theorem zB{p:Um}(hl:p.length<=16):(U9 p p).length<=31:=Qc (Re p p) (by omega)
theorem Qj7{α:Type}{f:α->Ur}{lt:α->α->Bool}{O:List α}{c:α}{k:Nat}(hp:Mb lt O c O.length=k):(O.map f).take k++(f c::(O.map f).drop k)=(E9 lt O c).map f:=by
 simp[E9,hp,V8,Ku]
theorem wZ{α:Type}{f:α->Ur}{lt:α->α->Bool}{O:List α}{c:α}{k:Nat}(hp:Mb lt O c O.length=k):(O.map f).take k++([f c]++((O.map f).drop k).take ((O.map f).length-k))=(E9 lt O c).map f:=by
 rw[Qn (l:=(O.map f).drop k) (by simp)];exact Qj7 hp
theorem WH{lt:Pt->Pt->Bool}{O:List Pt}{c:Pt}{k:Nat}(hp:Mb lt O c O.length=k):(Fl O).take k++([Ht c]++((Fl O).drop k).take ((Fl O).length-k))=Fl (E9 lt O c):=wZ hp
theorem Gk(l:List Pt):(Fl l).length=l.length:=by simp[Fl]
theorem O8(l:List Pt):∀c∈Fl l,c.length=7:=λc hc=>by obtain⟨x,_,rfl⟩:=Zw.1 hc;rfl
theorem U4{l:List Pt}{i:Nat}{c:Pt}(h:l[i]? = some c):(Fl l)[i]? = some (Ht c):=He h
theorem KE{l:List Pt}(hn:l.length<=1000000):Uj 69 [.one (.row (Fl l))] [.one (.row (Fl (Fg Hf l)))]:=by
 have hcl:=Gk l;refine Hz func69 rfl ?_;refine Ud [.o 3 135 7] rfl ?_;refine Ui (S:=Nat) 1 (λL1 i=>(8,.v (.oi i))::(3,.v (.one (.orow 0 7 none)))::L1) (λi=>[.row false 135 7 (Fl (Fg Hf (l.take i)))]) (λi=>l.length-i) (λi=>i<=l.length) 0 (Qg _) rfl rfl λi hi=>?_
 by_cases hlt:i<l.length
 ·obtain⟨c,hc⟩:=gxE (l:=l) (i:=i) hlt;have hst:Fg Hf (l.take (i+1))=E9 Hf (Fg Hf (l.take i)) c:=E6 hc;obtain⟨O,hO⟩:=nmE (Fg Hf (l.take i));have hOl:O.length=i:=by rw[hO,Gq,Qq];omega
  have hrl:=Gk O;rw[<-hO]at hst ⊢;refine Ud [.T] rfl ?_;refine Ui (S:=Nat) 1 (λL1 k=>(5,.v (.oi k))::L1) (λ_=>[.row false 135 7 (Fl O)]) id (λk=>k<=O.length/\Mb Hf O c k=Mb Hf O c O.length) (Fl O).length ⟨by omega,by rw[hrl]⟩ rfl rfl λk ⟨hk,hp⟩=>?_
  have h7:=O8 O;have h7z:∀y∈[Ht c],y.length=7:=λy hy=>by rw[Qo.1 hy];rfl
  cases k with
  |
   zero =>
   have hp:Mb Hf O c O.length=0:=by rw[<-hp];rfl
   refine Ue [.g 15 false (by simp),.f rfl,.i 0,.x (U4 hc),.lo,.i 0,.s (sz:=7) (λy hy=>h7 y (Ql hy)),.s (sz:=7) (λy hy=>(Qr.1 hy).elim (h7z y) λhy=>h7 y (Ql hy))] rfl ?_;exact rd (i+1) (by omega) hlt (by rw[hst,<-WH hp];rfl)
  |
   succ k =>
   obtain⟨x,hx⟩:=gxE (l:=O) (i:=k) (by omega);by_cases hlc:Hf c x=true
   ·refine Ue [.g 15 true (by simp),.x (U4 hc),.r 23 (eI (b:=(k:Int)) (by simp)),.i k,.x (U4 hx),.t hlc,.r 30 (eI (b:=(k:Int)) (by simp))] rfl ?_;exact rd k (by simp) ⟨by omega,by rw[<-hp,WE hx hlc]⟩ rfl
   ·have hlc:Hf c x=false:=by simpa using hlc
    have hp:Mb Hf O c O.length=k+1:=by rw[<-hp,XT hx hlc]
    refine Ue [.g 15 true (by simp),.x (U4 hc),.r 23 (eI (b:=(k:Int)) (by simp)),.i k,.x (U4 hx),.f hlc,.i (k+1),.x (U4 hc),.lo,.i (k+1),.s (sz:=7) (λy hy=>h7 y (Q5 (Ql hy))),.s (sz:=7) (λy hy=>(Qr.1 hy).elim (h7z y) λhy=>h7 y (Q5 (Ql hy)))] rfl ?_;exact rd (i+1) (by omega) hlt (by rw[hst,<-WH hp];rfl)
 ·obtain rfl:i=l.length:=by omega
  rw[Q7];exact Uf [.F] rfl
def YE(c:Ct):Ur:=[.int .i64 c.kind,.int .i64 c.i0,.int .i64 c.i1,.int .i64 c.i2,.int .i64 c.i3,rp (zp c.p),.int .i64 c.want,.row [],.bool false]
def Fp(l:List Ct):Us:=l.map YE
theorem Rt(l:List Ct):(Fp l).length=l.length:=by simp[Fp]
theorem TS(l:List Ct):∀c∈Fp l,c.length=9:=λc hc=>by obtain⟨x,_,rfl⟩:=Zw.1 hc;rfl
theorem Sw{l:List Ct}{i:Nat}{c:Ct}(h:l[i]? = some c):(Fp l)[i]? = some (YE c):=He h
theorem WG{lt:Ct->Ct->Bool}{O:List Ct}{c:Ct}{k:Nat}(hp:Mb lt O c O.length=k):(Fp O).take k++([YE c]++((Fp O).drop k).take ((Fp O).length-k))=Fp (E9 lt O c):=wZ hp
theorem bV{k i0 i1 i2 i3 l j0 j1 j2 j3:Int}:Uj 330 [.agg [.int .i64 k,.int .i64 i0,.int .i64 i1,.int .i64 i2,.int .i64 i3],.agg [.int .i64 l,.int .i64 j0,.int .i64 j1,.int .i64 j2,.int .i64 j3]] [.one (.bool (Cv [k,i0,i1,i2,i3] [l,j0,j1,j2,j3]))]:=by
 by_cases hk:k=l
 ·subst hk;rw[show Cv [k,i0,i1,i2,i3] [k,j0,j1,j2,j3]=Cv [i0,i1,i2,i3] [j0,j1,j2,j3] from by simp[Cv]];refine Hz func330 rfl ?_;refine Ud [.f (by simp)] rfl ?_;refine Ui (S:=Nat) 2 (λL1 i=>(5,.v (.oi i))::L1) (λ_=>[.blk 44 [.int .i64 k,.int .i64 i0,.int .i64 i1,.int .i64 i2,.int .i64 i3],.blk 44 [.int .i64 k,.int .i64 j0,.int .i64 j1,.int .i64 j2,.int .i64 j3]]) (λi=>4-i) (λi=>i<=4/\Cv ([i0,i1,i2,i3].drop i) ([j0,j1,j2,j3].drop i)=Cv [i0,i1,i2,i3] [j0,j1,j2,j3]) 0 ⟨by omega,rfl⟩ rfl rfl λi ⟨hi,he⟩=>?_
  rw[<-he];rcases(show i=0\/i=1\/i=2\/i=3\/i=4 by omega)with rfl|rfl|rfl|rfl|rfl
  ·by_cases h:i0=j0
   ·exact go tt [.t rfl,.i 0,.i 0,.f (by simpa using h)] rfl (by simp[Uw]) (rd 1 (by omega) ⟨by omega,by simp[Cv,h]⟩ rfl)
   ·exact Uf [.t rfl,.i 0,.i 0,.t (by simpa using h),.i 0,.i 0] rfl (by simp[Cv,h]) trivial
  ·by_cases h:i1=j1
   ·exact go tt [.t rfl,.i 1,.i 1,.f (by simpa using h)] rfl (by simp[Uw]) (rd 2 (by omega) ⟨by omega,by simp[Cv,h]⟩ rfl)
   ·exact Uf [.t rfl,.i 1,.i 1,.t (by simpa using h),.i 1,.i 1] rfl (by simp[Cv,h]) trivial
  ·by_cases h:i2=j2
   ·exact go tt [.t rfl,.i 2,.i 2,.f (by simpa using h)] rfl (by simp[Uw]) (rd 3 (by omega) ⟨by omega,by simp[Cv,h]⟩ rfl)
   ·exact Uf [.t rfl,.i 2,.i 2,.t (by simpa using h),.i 2,.i 2] rfl (by simp[Cv,h]) trivial
  ·by_cases h:i3=j3
   ·exact go tt [.t rfl,.i 3,.i 3,.f (by simpa using h)] rfl (by simp[Uw]) (rd 4 (by omega) ⟨by omega,by simp[Cv,h]⟩ rfl)
   ·exact Uf [.t rfl,.i 3,.i 3,.t (by simpa using h),.i 3,.i 3] rfl (by simp[Cv,h]) trivial
  ·exact Uf [.f rfl] rfl (by simp[Cv]) trivial
 ·exact Ug func330 rfl [.t (by simpa using hk)] rfl (by simp[Cv,hk]) trivial
theorem KA{l:List Ct}(hn:l.length<=1000000):Uj 225 [.one (.row (Fp l))] [.one (.row (Fp (Fg Tr l)))]:=by
 have hcl:=Rt l;refine Hz func225 rfl ?_;refine Ud [.o 3 47 9] rfl ?_;refine Ui (S:=Nat) 1 (λL1 i=>(8,.v (.oi i))::(3,.v (.one (.orow 0 9 none)))::L1) (λi=>[.row false 47 9 (Fp (Fg Tr (l.take i)))]) (λi=>l.length-i) (λi=>i<=l.length) 0 (Qg _) rfl rfl λi hi=>?_
 by_cases hlt:i<l.length
 ·obtain⟨c,hc⟩:=gxE (l:=l) (i:=i) hlt;have hst:Fg Tr (l.take (i+1))=E9 Tr (Fg Tr (l.take i)) c:=E6 hc;obtain⟨O,hO⟩:=nmE (Fg Tr (l.take i));have hOl:O.length=i:=by rw[hO,Gq,Qq];omega
  have hrl:=Rt O;rw[<-hO]at hst ⊢;refine Ud [.T] rfl ?_;refine Ui (S:=Nat) 1 (λL1 k=>(5,.v (.oi k))::L1) (λ_=>[.row false 47 9 (Fp O)]) id (λk=>k<=O.length/\Mb Tr O c k=Mb Tr O c O.length) (Fp O).length ⟨by omega,by rw[hrl]⟩ rfl rfl λk ⟨hk,hp⟩=>?_
  have h7:=TS O;have h7z:∀y∈[YE c],y.length=9:=λy hy=>by rw[Qo.1 hy];rfl
  cases k with
  |
   zero =>
   have hp:Mb Tr O c O.length=0:=by rw[<-hp];rfl
   refine Ue [.g 15 false (by simp),.f rfl,.i 0,.x (Sw hc),.lo,.i 0,.s (sz:=9) (λy hy=>h7 y (Ql hy)),.s (sz:=9) (λy hy=>(Qr.1 hy).elim (h7z y) λhy=>h7 y (Ql hy))] rfl ?_;exact rd (i+1) (by omega) hlt (by rw[hst,<-WG hp];rfl)
  |
   succ k =>
   obtain⟨x,hx⟩:=gxE (l:=O) (i:=k) (by omega);have cb:=bV (k:=c.kind) (i0:=c.i0) (i1:=c.i1) (i2:=c.i2) (i3:=c.i3) (l:=x.kind) (j0:=x.i0) (j1:=x.i1) (j2:=x.i2) (j3:=x.i3);by_cases hlc:Tr c x=true
   ·refine Ue [.g 15 true (by simp),.x (Sw hc),.r 23 (eI (b:=(k:Int)) (by simp)),.i k,.x (Sw hx),.k cb,.t hlc,.r 30 (eI (b:=(k:Int)) (by simp))] rfl ?_;exact rd k (by simp) ⟨by omega,by rw[<-hp,WE hx hlc]⟩ rfl
   ·have hlc:Tr c x=false:=by simpa using hlc
    have hp:Mb Tr O c O.length=k+1:=by rw[<-hp,XT hx hlc]
    refine Ue [.g 15 true (by simp),.x (Sw hc),.r 23 (eI (b:=(k:Int)) (by simp)),.i k,.x (Sw hx),.k cb,.f hlc,.i (k+1),.x (Sw hc),.lo,.i (k+1),.s (sz:=9) (λy hy=>h7 y (Q5 (Ql hy))),.s (sz:=9) (λy hy=>(Qr.1 hy).elim (h7z y) λhy=>h7 y (Q5 (Ql hy)))] rfl ?_;exact rd (i+1) (by omega) hlt (by rw[hst,<-WG hp];rfl)
 ·obtain rfl:i=l.length:=by omega
  rw[Q7];exact Uf [.F] rfl
abbrev rzc:Ur:=[.int .i64 0,.int .i64 0,.int .i64 0,.int .i64 0,.int .i64 0,.nils,.int .i64 0,.nils,.bool false]
end Orr
