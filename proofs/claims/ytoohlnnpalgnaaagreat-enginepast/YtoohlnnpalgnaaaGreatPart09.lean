/- TW1 TW2 R3 R4 RefPL R5 R6 RefGL R7 RatOkL R8 R9 RefCL R10 R11 R12 R13 R14 R15 R16 R17 R18 SC1 W1 W2 WR18 WS18 X19 MeshK H2 H3 MD1 MD2 -/
import Derived.Test.YtoohlnnpalgnaaaGreatPart08
import Derived.Test.YtoohlnnpalgnaaaGreatPart00
import Derived.Test.YtoohlnnpalgnaaaGreatPart07
import Derived.Test.YtoohlnnpalgnaaaGreatPart04
import Derived.Test.YtoohlnnpalgnaaaGreatPart05
set_option linter.all false
namespace Orr
open Go Go.Proofs Tryz Orq
set_option maxRecDepth 10000
def I9(l:List (Pt×Pt)):Ut:=l.map Qcu
theorem Qog{l m:Ut}(h:l=m):TV.one (LV.row l)=.one (.row m):=h ▸ rfl
theorem oz{P:Program}[Mo P]{n:Nat}{Q:Exit->Sg->Uu->Prop}{L L':Sg}{B B':Uu}(d off T sz:Nat){it:List It}(hs:Ri it=true)(h:cZ (P:=P) d L B [.oc d off T sz]=some (L',B',[],[]))(k:AK P n Q it L' B'):AK P n Q it L B:=AK.sub (EU h EqOk.nil) hs k
theorem Qm1{a b:Pt}{t:Tm}(ha:Sc a.c)(hb:Sc b.c)(ht:Va t):Uk 255 [.oi 2,.agg (ta t),.one (.row [Fa a,Fa b])] [.agg (Lu (Dx (Fp t) a b)),.oi 0]:=by
 have h1:=M6 hb ha;have h2:=M7 hb ha;refine Fu func255 rfl ?_;refine Ue [.k Qbp,.f rfl] rfl ?_;refine Uj (S:=Nat) 3 (λL1 i=>(22,.v (.oi i))::L1) (λi=>[.blk 105 (ta t),.blk 99 zCt,.blk 99 [.int .i64 2,.int .i64 (if 1<=i then a.id else 0),.int .i64 (if 2<=i then b.id else 0),.int .i64 0,.int .i64 0,.nils,.int .i64 0]]) (λi=>2-i) (λi=>i<=2) 0 (Qh _) rfl rfl λi hi=>?_
 rcases(show i=0\/i=1\/i=2 by omega)with rfl|rfl|rfl
 ·refine Ue [.t rfl,.x (i:=0) (xs:=Fa a) rfl,.i 0] rfl ?_ (by simp[U0]);exact rd 1 (by omega) (by omega) rfl
 ·refine Ue [.t rfl,.x (i:=1) (xs:=Fa b) rfl,.i 1] rfl ?_ (by simp[U0]);exact rd 2 (by omega) (by omega) rfl
 ·exact Ug [.f rfl,.f rfl,.t rfl,.x (i:=1) (xs:=Fa b) rfl,.x (i:=0) (xs:=Fa a) rfl,.k (UJ hb.n ha.n hb.cb ha.cb),.x (i:=1) (xs:=Fa b) rfl,.x (i:=0) (xs:=Fa a) rfl,.k (UV hb.n ha.n hb.cb ha.cb),.k wP,.k (SQ (YG h1 h2).dp ht)] rfl
theorem Qfg{a:Tm}(ha:Va a){c:Cr}{r0 r1:Ut}:∀(k:Nat) (l:List Pt) (ms:List (Pt×Pt)),l.length≤k->l.length≤1000->ms.length+l.length≤1000000->(∀p∈l,Sc p.c)->U5 prog 254 [.one (.ow 0 0),.agg (ta a),.one (pts l)] [.blk 223 [.bool true,pl c.now.p,sg c.now.lo.num,mg c.now.lo.num,sg (c.now.lo.den:Int),mg (c.now.lo.den:Int),sg c.now.hi.num,mg c.now.hi.num,sg (c.now.hi.den:Int),mg (c.now.hi.den:Int),.row (C6 c.l),.int .i64 c.ev,.row r0,.row r1,.orow 1 10 none],.row false 323 10 (I9 ms)] [.one (.row (Uz (Bh (Fp a) l).1))] [.blk 223 [.bool true,pl c.now.p,sg c.now.lo.num,mg c.now.lo.num,sg (c.now.lo.den:Int),mg (c.now.lo.den:Int),sg c.now.hi.num,mg c.now.hi.num,sg (c.now.hi.den:Int),mg (c.now.hi.den:Int),.row (C6 c.l),.int .i64 c.ev,.row r0,.row r1,.orow 1 10 none],.row false 323 10 (I9 (ms++(Bh (Fp a) l).2))]
 := by
  intro k
  induction k with
  |zero=>?_
  |succ k ih=>?_
  all_goals
   intro l ms hk hn hms hl;have hcl:=G0 l;show U5 prog 254 [.one (.ow 0 0),.agg (ta a),.one (.row (Uz l))] _ _ _;by_cases hs:l.length<2
   ·rw[Cn _ hs,Zv];refine Fu func254 rfl ?_;exact Ui [] [0,1] [.t (by simp[hcl];omega)] rfl
   first
    |(exfalso;omega)
    |
     skip
     obtain⟨k1,k2,k3,k4⟩:=Qh2 hs hk;obtain⟨h,hh⟩:=nmE ((l.length+1) / 2);obtain⟨u,hu,hul,_⟩:=Nh (Fp a) k (l.take ((l.length+1) / 2)) k1 k3;obtain⟨v,hv,hvl,_⟩:=Nh (Fp a) k (l.drop ((l.length+1) / 2)) k2 k4;have g1:=Dm (Fp a) _ (l.take ((l.length+1) / 2)) (Ql _);have g2:=Dm (Fp a) _ (l.drop ((l.length+1) / 2)) (Ql _);have hlt:(l.take ((l.length+1) / 2)).length+(l.drop ((l.length+1) / 2)).length=l.length:=by rw[Qq,Q7];omega
     have c1:=ih (l.take ((l.length+1) / 2)) ms k1 (by omega) (by omega) λp hp=>hl p (Qn hp)
     have c2:=ih (l.drop ((l.length+1) / 2)) (ms++(Bh (Fp a) (l.take ((l.length+1) / 2))).2) k2 (by omega) (by rw[Qy];omega) λp hp=>hl p (Qz hp)
     have hpl:=Oo (Fp a) hs hu hv;rw[hpl];rw[hu]at c1;rw[hv]at c2;generalize (Bh (Fp a) (l.take ((l.length+1) / 2))).2=G1 at *;generalize (Bh (Fp a) (l.drop ((l.length+1) / 2))).2=G2 at *;have hsu:=hl u (Qn hul);have hsv:=hl v (Qz hvl);have cb:=Qmo (t:=a) hsu hsv ha;have htd:((l.length:Int)+1).tdiv 2=(((l.length+1) / 2:Nat):Int):=rfl;have hg:∀m,I9 (ms++(G1++G2++[m]))=I9 ((ms++G1)++G2)++[Qcu m]:=λm=>by simp[I9]
     have hml:(I9 ((ms++G1)++G2)).length=ms.length+G1.length+G2.length:=by simp[I9];omega
     have hml2:(I9 (ms++(G1++G2))).length=ms.length+G1.length+G2.length:=by simp[I9];omega
     have h5:=eq_true (p:=∀z,z∈Uz l->z.length=ti40.sz) (YO l);have e1:(Uz l).take ((l.length+1) / 2)=Uz (l.take ((l.length+1) / 2)):=by simp[Uz,Jw]
     have e2:(Uz l).drop ((l.length+1) / 2)=Uz (l.drop ((l.length+1) / 2)):=by simp[Uz,Vh]
     unfold PP;refine Fu func254 rfl ?_;by_cases hb:B9 (Fp a) u v=true
     ·rw[if_pos hb,hg];exact Ui [] [0,1] [.f (by simp[hcl];omega),.r 17 (eI (b:=(((l.length+1) / 2:Nat):Int)) (by rw[hcl];rfl)),.i ((l.length+1) / 2),.r 22 (Qog e1),.c [0,1] c1,.i ((l.length+1) / 2),.r 28 (Qog e2),.c [0,1] c2,.x (i:=0) (l:=Uz [u]) (xs:=Fa u) rfl,.x (i:=0) (l:=Uz [v]) (xs:=Fa v) rfl,.k cb,.f (by rw[hb];rfl),.x (i:=0) (l:=Uz [u]) (xs:=Fa u) rfl,.x (i:=0) (l:=Uz [v]) (xs:=Fa v) rfl,.s (sz:=10) (l:=[Qcu (u,v)]) (λc hc=>by rw[Qk.1 hc];rfl),.i 1] rfl (by simp[U0,G0,hml2,h5];omega)
     ·have hb:B9 (Fp a) u v=false:=by simpa using hb
      rw[if_neg (by simp[hb]),hg];exact Ui [] [0,1] [.f (by simp[hcl];omega),.r 17 (eI (b:=(((l.length+1) / 2:Nat):Int)) (by rw[hcl];rfl)),.i ((l.length+1) / 2),.r 22 (Qog e1),.c [0,1] c1,.i ((l.length+1) / 2),.r 28 (Qog e2),.c [0,1] c2,.x (i:=0) (l:=Uz [u]) (xs:=Fa u) rfl,.x (i:=0) (l:=Uz [v]) (xs:=Fa v) rfl,.k cb,.t (by rw[hb];rfl),.x (i:=0) (l:=Uz [v]) (xs:=Fa v) rfl,.x (i:=0) (l:=Uz [u]) (xs:=Fa u) rfl,.s (sz:=10) (l:=[Qcu (v,u)]) (λc hc=>by rw[Qk.1 hc];rfl),.i 1] rfl (by simp[U0,G0,hml2,h5];omega)
theorem IP{l:List Pt}{a:Tm}{c:Cr}{r1:Ut×Ut}(hl:∀p∈l,Sc p.c)(hn:l.length≤1000)(ha:Va a):U5 prog 196 [.one (.ow 0 0),.agg (ta a)] [.blk 223 (Tr c (Uz l) r1)] [.one (.row (Fj (IW l a)))] [.blk 223 (Tr c (Uz l) (pN l a))]:=by
 have cp:=Qfg (r0:=Uz l) (c:=c) (r1:=r1.1) ha l.length l [] (Ql _) hn (by show 0+l.length≤1000000;omega) hl;have hms:=Dm (Fp a) l.length l (Ql _);unfold IW pN;obtain⟨M,hM⟩:=nmE ((Bh (Fp a) l).2);have hmm:∀m∈M,Sc m.1.c/\Sc m.2.c:=λm hm=>by
  rw[hM]at hm;exact⟨hl _ (JK m hm).1,hl _ (JK m hm).2⟩
 rw[<-hM]at cp hms ⊢;rw[Yj]at cp;have hgl:(I9 M).length=M.length:=by simp[I9]
 refine Fu func196 rfl ?_;refine Ue [] rfl ?_;refine oz 0 14 323 10 rfl rfl ?_;refine Ue [.k Il,.c [0,2] cp,.o 5 99 7] rfl ?_;refine Uj (S:=Nat) 4 (λL1 i=>(29,.v (.oi i))::(5,.v (.one (.orow 3 7 none)))::L1) (λi=>[.blk 223 [.bool true,pl c.now.p,sg c.now.lo.num,mg c.now.lo.num,sg (c.now.lo.den:Int),mg (c.now.lo.den:Int),sg c.now.hi.num,mg c.now.hi.num,sg (c.now.hi.den:Int),mg (c.now.hi.den:Int),.row (C6 c.l),.int .i64 c.ev,.row (Uz l),.row (Uz (Bh (Fp a) l).1),.orow 2 10 none],.blk 105 (ta a),.row false 323 10 (I9 M),.row false 99 7 (Fj ((M.map λm=>Dx (Fp a) m.1 m.2).take i))]) (λi=>M.length-i) (λi=>i<=M.length) 0 (Qh _) rfl rfl λi hi=>?_
 by_cases hlt:i<M.length
 ·obtain⟨m,hm⟩:=gxE (l:=M) (i:=i) hlt;obtain⟨s1,s2⟩:=hmm m (Qc hm);have hg:(I9 M)[i]? = some (Qcu m):=G6 hm;have hq:∀y∈[Lu (Dx (Fp a) m.1 m.2)],y.length=7:=λy hy=>by rw[Qk.1 hy];rfl
  have ht:(M.map λm=>Dx (Fp a) m.1 m.2).take (i+1)=(M.map λm=>Dx (Fp a) m.1 m.2).take i++[Dx (Fp a) m.1 m.2]:=by
   rw[Z2,Q9,hm];rfl
  refine go tt [.T,.i i,.x hg,.i 0,.i 1,.k (Qm1 s1 s2 ha),.s (sz:=7) hq] rfl (by simp[U0,hgl,Nx];omega) ?_;exact rd (i+1) (by omega) hlt (by rw[ht];simp[Fj];rfl)
 ·obtain rfl:i=M.length:=by omega
  rw[Qo (by simp)];exact Ui [2,3] [0] [.F] rfl
def Qxl(l:List Pt)(a:Tm):Cr:=⟨a,(Fv (IW l a)).map fresh,0⟩
theorem Qng{t:Rat}{l:List Pt}{K:Nat}{c c':Cr}{r1 r1':Ut×Ut}{n:Int}(ht:Qs 1640000 t)(hl:∀p∈l,Sc p.c)(hn:l.length≤1000)(hc:CrOk c)(hev:0≤c.ev/\c.ev+K≤1000000000000000000)(h:Fl c.now t≤0)(hg:WI (IW l) (pN l) t K c r1 0=some (c',r1',n)) :
 U5 prog 417 [.one (.ow 0 0),.agg (rl t)] [.blk 223 (Tr c (Uz l) r1)] [.oi n,.oi 0] [.blk 223 (Tr c' (Uz l) r1')]:=by
 have cg:=Qxx (T:=223) (r0:=Uz l) ht (pW hl hn) (λa c r1 ha _=>IP (c:=c) (r1:=r1) hl hn ha) hc hev h hg;refine Fu func417 rfl ?_;exact Ui [] [0] [.k (Ns (ht.mono (by decide))),.c [0] cg] rfl
theorem Qni{c:Cr}{r0 r2:Ut}{w:Pt}:U5 prog 84 [.one (.ow 0 0)] [.blk 223 (Tr c r0 ([Fa w],r2))] [.oi w.id,.one (.bool true)] [.blk 223 (Tr c r0 ([Fa w],r2))]:=by
 refine Fu func84 rfl ?_;exact Ui [] [0] [.f rfl,.x (i:=0) (xs:=Fa w) rfl] rfl
theorem Qfj{c:Cr}{r0 r2:Ut}:U5 prog 84 [.one (.ow 0 0)] [.blk 223 (Tr c r0 ([],r2))] [.oi 0,.one (.bool false)] [.blk 223 (Tr c r0 ([],r2))]:=by
 refine Fu func84 rfl ?_;exact Ui [] [0] [.t rfl] rfl
end Orr
namespace Orr
open Go Go.Proofs Tryz
set_option maxRecDepth 10000
theorem UN(x:Nat):(Bs (Gh x)).length=(Gh x).length:=Tx _
theorem Qcv(z:Int):∀c∈[[LV.int .i64 z]],c.length=1:=λc hc=>by rw[Qk.1 hc];rfl
theorem Qx5{x:Nat}(h:x<=1000000000):(Gh x).length<=3:=Qb2 (by omega)
theorem tdn(n:Nat):((n:Nat):Int).tdiv 10000=((n / 10000:Nat):Int):=rfl
theorem WN(n:Nat):((n:Nat):Int).tdiv 2=((n / 2:Nat):Int):=rfl
theorem UH{x mu c0:Nat}(hx:sz x<=100000000)(hmu:mu<=65536)(hc:c0<=1000000000):Uk 180 [.one (nd x),.oi mu,.oi c0] [.one (nd (x*mu+c0))]:=by
 have hxl:=Qa (Mm x) hx;have hll:=UN x;show Uk 180 [.one (.row (Bs (Gh x))),.oi mu,.oi c0] _;refine Fu func180 rfl ?_;refine Uf [.r 11 (eI (b:=(((Gh x).length+2:Nat):Int)) (by rw[hll];omega)),.i 0,.i ((Gh x).length+2)] rfl ?_;refine Uj (S:=Nat×Nat×Up) 1 (λL1 s=>(8,.v (.oi (s.1:Int)))::(7,.v (.one (.orow 0 1 none)))::(2,.v (.oi (s.2.1:Int)))::L1.filter (λx=>x.1 != 12)) (λs=>[.row false 3 1 (Bs s.2.2)]) (λs=>((Gh x).length-s.1)*4+(Gh s.2.1).length) (λs=>Dg s.2.2/\s.2.2.length=s.1/\Tg s.2.2+s.2.1*10000^s.1=Tg ((Gh x).take s.1)*mu+c0/\(s.1<=(Gh x).length\/s.1+(Gh s.2.1).length<=(Gh x).length+3)/\s.2.1<=1000000000) (0,c0,[]) ⟨Dg.nil,rfl,by simp[Tg],.inl (Qh _),hc⟩ rfl rfl λs hs=>?_
 obtain⟨i,c,o⟩:=s;obtain⟨hp0,hp1,hp2,hp3,hp4⟩:=hs;dsimp only at hp0 hp1 hp2 hp3 hp4 ⊢;have hcl:=Qx5 (x:=c) hp4;by_cases h1:i<(Gh x).length
 ·obtain⟨d,hd⟩:=gxE (l:=(Gh x)) (i:=i) h1;have hd9:=Cf x d (Qc hd);have hdm:d*mu<=9999*65536:=Zc (by omega) hmu;have hc3:=Qx5 (x:=(c+d*mu) / 10000) (by omega);have hol:(Bs o).length=i:=by rw[Tx,hp1]
  refine go tt [.g 17 true Um,.t rfl,.T,.x (Gx hd),.r 33 (eI (b:=((d*mu:Nat):Int)) (by simp)),.r 34 (eI (b:=((c+d*mu:Nat):Int)) (by omega)),.r 37 (eI (b:=(((c+d*mu) % 10000:Nat):Int)) (by rfl)),.s (sz:=1) (Qcv _),.r 41 (eI (b:=(((c+d*mu) / 10000:Nat):Int)) (by rfl))] rfl (by simp[U0,hol,tdn,WN,-Int.natCast_add,-Int.natCast_mul];omega) ?_;exact rd (i+1,(c+d*mu) / 10000,o++[(c+d*mu) % 10000]) (by dsimp only;omega) ⟨hp0.snoc (Nat.mod_lt _ (by decide)),by dsimp only;rw[List.length_append];show o.length+1=_;omega,by
   dsimp only;rw[Pi,Tt hd,hp1,Nat.pow_succ];simp only[Tg,Nat.mul_zero,Nat.add_zero];have:=II (d:=d) (m:=mu) rfl hp2;rw[this];grind,.inl (by dsimp only;omega),by dsimp only;omega⟩ (by rw[Ic];rfl)
 ·by_cases h2:0<c
  ·have hdc:=Ia (x:=c) (by omega);have hol:(Bs o).length=i:=by rw[Tx,hp1]
   refine go tt [.g 17 false Ul,.T,.F,.r 37 (eI (b:=((c % 10000:Nat):Int)) (by rfl)),.s (sz:=1) (Qcv _),.r 41 (eI (b:=((c / 10000:Nat):Int)) (by rfl))] rfl (by simp[U0,hol,tdn,WN,-Int.natCast_add];omega) ?_;exact rd (i+1,c / 10000,o++[c % 10000]) (by dsimp only;omega) ⟨hp0.snoc (Nat.mod_lt _ (by decide)),by dsimp only;rw[List.length_append];show o.length+1=_;omega,by
    dsimp only;rw[Pi,hp1,Nat.pow_succ];simp only[Tg,Nat.mul_zero,Nat.add_zero];have:=II (d:=0) (m:=mu) rfl hp2;simp only[Nat.zero_mul,Nat.mul_zero,Nat.add_zero]at this;rw[this,List.take_of_length_le (by omega),List.take_of_length_le (by omega)],.inr (by dsimp only;omega),by dsimp only;omega⟩ (by rw[Ic];rfl)
  ·have cc:=HT hp0;rw[show Tg o=x*mu+c0 from by
    have h:=hp2;rw[Qo (by omega),Ra,show c=0 by omega]at h;omega]at cc
   exact Ug [.g 17 false Ul,.F,.k cc] rfl
theorem Qdm{l:Up}{j d:Nat}(h:l[j]? = some d):val (l.drop j)=d+4294967296*val (l.drop (j+1)):=by
 have hi:=(Qf.1 h).1;rw[Zp hi,(Qf.1 h).2];rfl
theorem PG:∀(l:Up) (j:Nat),val (l.drop j)<=val l
 |l,0=>Ql _
 | [],j+1=>by simp
 |
  x::l,j+1=>by
  have:=PG l j;rw[Wi];simp only[val];omega
theorem Qmu{l:Up}(hu:∀u∈l,u<4294967296)(hl:l.length≤1099511627776)(hx:sz (val l)≤100000000):Uk 146 [lr l] [.one (nd (val l))]:=by
 have hll:=U6 l;show Uk 146 [.one (.row (lm l))] _;refine Fu func146 rfl ?_;refine Uf [.z 3,.r 7 (eI (b:=((l.length:Nat):Int)-1) (by rw[hll]))] rfl ?_;refine Uj (S:=Nat×Up) 0 (λL1 s=>(4,.v (.oi ((s.1:Int)-1)))::(3,.v (.one (.row (Bs s.2))))::L1) (λ_=>[]) (λs=>s.1) (λs=>s.1<=l.length/\s.2=Gh (val (l.drop s.1))) (l.length,[]) ⟨Nat.le_refl _,by dsimp only;rw[List.drop_eq_nil_of_le (Nat.le_refl _)];show []=Gh 0;rw[Hu]⟩ rfl rfl λs hs=>?_
 obtain⟨j,o⟩:=s;obtain⟨hj,ho⟩:=hs;dsimp only at hj ho ⊢;subst ho;cases j with
 |zero=>exact Ug [.f (by simp)] rfl (by rw[Xx];rfl) trivial
 |
  succ j =>
  obtain⟨d,hd⟩:=gxE (l:=l) (i:=j) (by omega);have hd9:=hu d (Qc hd);have hdd:=Qdm hd;have hle:=PG l j;have hs2:sz (val (l.drop (j+1))*65536+d / 65536)<=100000000:=Qa (Rf (by omega)) hx;have hs1:sz (val (l.drop (j+1)))<=100000000:=Qa (Rf (by omega)) hx;have c1:=UH (x:=val (l.drop (j+1))) (mu:=65536) (c0:=d / 65536) hs1 (by omega) (by omega);have c2:=UH (x:=val (l.drop (j+1))*65536+d / 65536) (mu:=65536) (c0:=d % 65536) hs2 (by omega) (by omega);have ej:((j+1:Nat):Int)-1=(j:Int):=by omega
  have e2:(val (l.drop (j+1))*65536+d / 65536)*65536+d % 65536=val (l.drop j):=by rw[hdd];omega
  rw[e2]at c2;rw[ej];refine go tt [.T,.x (Gz hd),.r 17 (Ei (b:=((d / 65536:Nat):Int)) (by rfl)),.k c1,.x (Gz hd),.r 25 (Ei (b:=((d % 65536:Nat):Int)) (by rfl)),.k c2] rfl (by simp[U0,IntKind.bits];omega) ?_;exact rd (j,Gh (val (l.drop j))) (by dsimp only;omega) ⟨by dsimp only;omega,rfl⟩ rfl
theorem pD{x y:Nat}(hx:sz x<=200000000)(hy:sz y<=200000000):Uk 187 [.one (nd x),.one (nd y)] [.oi (ZF x y)]:=by
 have hxl:=Qa (Mm x) hx;have hyl:=Qa (Mm y) hy;have lx:=UN x;have ly:=UN y;show Uk 187 [.one (.row (Bs (Gh x))),.one (.row (Bs (Gh y)))] _;refine Fu func187 rfl ?_;by_cases hl:(Gh x).length=(Gh y).length
 ·refine Uf [.f (by simp;omega),.r 18 (eI (b:=((Gh x).length:Int)-1) (by rw[lx]))] rfl ?_;refine Uj (S:=Nat) 0 (λL1 j=>(5,.v (.oi ((j:Int)-1)))::L1) (λ_=>[]) (λj=>j) (λj=>j<=(Gh x).length/\(Gh x).drop j=(Gh y).drop j) (Gh x).length ⟨Ql _,by rw[Yv (Ql _),Yv (by omega)]⟩ rfl rfl λj hs=>?_
  obtain⟨hj,hp⟩:=hs;cases j with
  |
   zero =>
   have hxy:x=y:=by rw[Xx,Xx]at hp;rw[<-Ra x,<-Ra y,hp]
   exact Ug [.f (by simp)] rfl (by rw[eH hxy]) trivial
  |
   succ j =>
   obtain⟨d,hd⟩:=gxE (l:=(Gh x)) (i:=j) (by omega);obtain⟨e,he⟩:=gxE (l:=(Gh y)) (i:=j) (by omega);have ej:((j+1:Nat):Int)-1=(j:Int):=by omega
   rw[ej];by_cases h2:d=e
   ·refine Uf [.T,.x (Gx hd),.x (Gx he),.f (by simp[h2])] rfl ?_;exact rd j (by omega) ⟨by omega,by rw[Zp (by omega:j<(Gh x).length),Zp (by omega:j<(Gh y).length),hp,(Qf.1 hd).2,(Qf.1 he).2,h2]⟩ rfl
   ·by_cases h3:d<e
    ·have hxy:=CH (Cf x) hd he hp h3;rw[Ra,Ra]at hxy;exact Ug [.T,.x (Gx hd),.x (Gx he),.t (by simp;omega),.x (Gx hd),.x (Gx he),.T] rfl (by rw[MF hxy]) trivial
    ·have hxy:=CH (Cf y) he hd hp.symm (by omega);rw[Ra,Ra]at hxy;exact Ug [.T,.x (Gx hd),.x (Gx he),.t (by simp;omega),.x (Gx hd),.x (Gx he),.F] rfl (by rw[MU hxy]) trivial
 ·by_cases hlt:(Gh x).length<(Gh y).length
  ·exact Ug [.t (by simp;omega),.T] rfl (by rw[MF (uF hlt)]) trivial
  ·exact Ug [.t (by simp;omega),.F] rfl (by rw[MU (uF (by omega))]) trivial
theorem YU{o c s P V:Nat}(h:o+c*P=V):o+P*((c+s) % 10000)+(c+s) / 10000*(P*10000)=V+P*s:=by
 have e:=Xe (c+s) 10000;generalize (c+s) / 10000=q at *;generalize (c+s) % 10000=r at *;have e2:P*(c+s)=P*(10000*q+r):=by rw[e]
 grind
theorem I2{l:Up}{i:Nat}(h:l.length<=i):Tg (l.take (i+1))=Tg (l.take i):=by rw[Qo (by omega),Qo h]
theorem aX{l:Up}{p v u:Nat}(h:l[p]? = some v):Tg (l.set p u)+10000^p*v=Tg l+10000^p*u:=by
 have hp:=(Qf.1 h).1;rw[MS (l.set p u) p (by rw[Xd];omega),MS l p (by omega),XJ h,HL hp,List.take_set_of_le (Ql _)];simp only[Tg];generalize 10000^p=P;grind
theorem Ie{l:Up}{p u:Nat}(h:p<l.length):Tg ((l.set p u).take (p+1))=Tg (l.take p)+10000^p*u:=by
 rw[Tt (l:=l.set p u) (i:=p) (x:=u) (by simp[h]),List.take_set_of_le (Ql _)]
structure AddI(x y:Nat)(s:Nat×Nat×List Nat):Prop where
 d:Dg s.2.2
 l:s.2.2.length=s.1
 v:Tg s.2.2+s.2.1*10000^s.1=Tg ((Gh x).take s.1)+Tg ((Gh y).take s.1)
 c:s.2.1<=1
 b:s.1<=max (Gh x).length (Gh y).length\/s.1=max (Gh x).length (Gh y).length+1/\10000^(max (Gh x).length (Gh y).length)<=x+y/\s.2.1=0
theorem Qtb{x y:Nat}(hx:sz x<=200000000)(hy:sz y<=200000000):Uk 186 [.one (nd x),.one (nd y)] [.one (nd (x+y))]:=by
 have hxl:=Qa (Mm x) hx;have hyl:=Qa (Mm y) hy;have lx:=UN x;have ly:=UN y;show Uk 186 [.one (.row (Bs (Gh x))),.one (.row (Bs (Gh y)))] _;refine Fu func186 rfl ?_;refine Ue [.o 5 3 1] rfl ?_;refine Uj (S:=Nat×Nat×Up) 1 (λL1 s=>(7,.v (.oi (s.1:Int)))::(6,.v (.oi (s.2.1:Int)))::(5,.v (.one (.orow 0 1 none)))::L1) (λs=>[.row false 3 1 (Bs s.2.2)]) (λs=>(max (Gh x).length (Gh y).length-s.1)*2+s.2.1) (AddI x y) (0,0,[]) ⟨Dg.nil,rfl,by simp[Tg],by decide,.inl (Qh _)⟩ rfl rfl λs hs=>?_
 obtain⟨i,c,o⟩:=s;obtain⟨hp0,hp1,hp2,hp3,hp4⟩:=hs;dsimp only at hp0 hp1 hp2 hp3 hp4 ⊢;have hol:(Bs o).length=i:=by rw[Tx,hp1]
 by_cases h1:i<(Gh x).length
 ·obtain⟨d,hd⟩:=gxE (l:=(Gh x)) (i:=i) h1;have hd9:=Cf x d (Qc hd);by_cases h2:i<(Gh y).length
  ·obtain⟨e,he⟩:=gxE (l:=(Gh y)) (i:=i) h2;have he9:=Cf y e (Qc he);refine go tt [.g 12 true Um,.g 18 true rfl,.t rfl,.T,.x (Gx hd),.r 33 (eI (b:=((c+d:Nat):Int)) (by omega)),.T,.x (Gx he),.r 43 (eI (b:=((c+(d+e):Nat):Int)) (by omega)),.r 46 (eI (b:=(((c+(d+e)) % 10000:Nat):Int)) (by rfl)),.s (sz:=1) (Qcv _),.r 50 (eI (b:=(((c+(d+e)) / 10000:Nat):Int)) (by rfl))] rfl (by simp[U0,hol,tdn,WN,-Int.natCast_add];omega) ?_;exact rd (i+1,(c+(d+e)) / 10000,o++[(c+(d+e)) % 10000]) (by dsimp only;omega) ⟨hp0.snoc (Nat.mod_lt _ (by decide)),by dsimp only;rw[List.length_append];show o.length+1=_;omega,by
    dsimp only;rw[Pi,hp1,Nat.pow_succ];simp only[Tg,Nat.mul_zero,Nat.add_zero];have:=YU (s:=d+e) hp2;rw[this,Tt hd,Tt he];grind,by dsimp only;omega,.inl (by dsimp only;omega)⟩ (by rw[Ic];rfl)
  ·refine go tt [.g 12 true Um,.g 18 true rfl,.t rfl,.T,.x (Gx hd),.r 33 (eI (b:=((c+d:Nat):Int)) (by omega)),.F,.r 46 (eI (b:=(((c+d) % 10000:Nat):Int)) (by rfl)),.s (sz:=1) (Qcv _),.r 50 (eI (b:=(((c+d) / 10000:Nat):Int)) (by rfl))] rfl (by simp[U0,hol,tdn,WN,-Int.natCast_add];omega) ?_;exact rd (i+1,(c+d) / 10000,o++[(c+d) % 10000]) (by dsimp only;omega) ⟨hp0.snoc (Nat.mod_lt _ (by decide)),by dsimp only;rw[List.length_append];show o.length+1=_;omega,by
    dsimp only;rw[Pi,hp1,Nat.pow_succ];simp only[Tg,Nat.mul_zero,Nat.add_zero];have:=YU (s:=d) hp2;rw[this,Tt hd,I2 (l:=Gh y) (by omega)];grind,by dsimp only;omega,.inl (by dsimp only;omega)⟩ (by rw[Ic];rfl)
 ·by_cases h2:i<(Gh y).length
  ·obtain⟨e,he⟩:=gxE (l:=(Gh y)) (i:=i) h2;have he9:=Cf y e (Qc he);refine go tt [.g 12 false Ul,.g 18 true Um,.t rfl,.F,.T,.x (Gx he),.r 43 (eI (b:=((c+e:Nat):Int)) (by omega)),.r 46 (eI (b:=(((c+e) % 10000:Nat):Int)) (by rfl)),.s (sz:=1) (Qcv _),.r 50 (eI (b:=(((c+e) / 10000:Nat):Int)) (by rfl))] rfl (by simp[U0,hol,tdn,WN,-Int.natCast_add];omega) ?_;exact rd (i+1,(c+e) / 10000,o++[(c+e) % 10000]) (by dsimp only;omega) ⟨hp0.snoc (Nat.mod_lt _ (by decide)),by dsimp only;rw[List.length_append];show o.length+1=_;omega,by
    dsimp only;rw[Pi,hp1,Nat.pow_succ];simp only[Tg,Nat.mul_zero,Nat.add_zero];have:=YU (s:=e) hp2;rw[this,Tt he,I2 (l:=Gh x) (by omega)];grind,by dsimp only;omega,.inl (by dsimp only;omega)⟩ (by rw[Ic];rfl)
  ·by_cases h3:0<c
   ·refine go tt [.g 12 false Ul,.g 18 false Ul,.T,.F,.F,.r 46 (eI (b:=((c % 10000:Nat):Int)) (by rfl)),.s (sz:=1) (Qcv _),.r 50 (eI (b:=((c / 10000:Nat):Int)) (by rfl))] rfl (by simp[U0,hol,tdn,WN,-Int.natCast_add];omega) ?_;exact rd (i+1,c / 10000,o++[c % 10000]) (by dsimp only;omega) ⟨hp0.snoc (Nat.mod_lt _ (by decide)),by dsimp only;rw[List.length_append];show o.length+1=_;omega,by
     dsimp only;rw[Pi,hp1,Nat.pow_succ];simp only[Tg,Nat.mul_zero,Nat.add_zero];have:=YU (s:=0) hp2;rw[Nat.add_zero,Nat.mul_zero,Nat.add_zero]at this;rw[this,I2 (l:=Gh y) (by omega),I2 (l:=Gh x) (by omega)],by dsimp only;omega,.inr ⟨by dsimp only;omega,by
      have h:=hp2;rw[List.take_of_length_le (by omega),List.take_of_length_le (by omega),Ra,Ra,show c=1 by omega,Nat.one_mul,show i=(max (Gh x).length (Gh y).length) by omega]at h;omega,by dsimp only;omega⟩⟩ (by rw[Ic];rfl)
   ·have hv:Tg o=x+y:=by
     have h:=hp2;rw[Qo (by omega),Qo (by omega),Ra,Ra,show c=0 by omega]at h;omega
    have hfin:o=Gh (x+y):=by
     have h:=Qgt (o:=o) hp0;rw[hv]at h;refine h ?_;have m1:=XQ (x:=x) (y:=x+y) (by omega);have m2:=XQ (x:=y) (y:=x+y) (by omega);rcases hp4 with hb|⟨_,hb,_⟩
     ·omega
     ·have:=Qb1 hb;omega
    exact Ug [.g 12 false Ul,.g 18 false Ul,.F] rfl (by rw[hfin];rfl) trivial
theorem YH{o b a c P u d e c':Nat}(h:o+b=a+c*P)(hs:u+e+c=d+10000*c'):(o+P*u)+(b+P*e)=(a+P*d)+c'*(P*10000):=by
 have e2:P*(u+e+c)=P*(d+10000*c'):=by rw[hs]
 grind
theorem QU(o:Up)(i u:Nat):Bs (o.set i u)=(Bs o).set i [.int .i64 (u:Int)]:=by simp[Bs,Vs]
theorem mQ{x y:Nat}(hx:sz x<=200000000)(hy:sz y<=200000000)(hyx:y<=x):Uk 188 [.one (nd x),.one (nd y)] [.one (nd (x-y))]:=by
 have hxl:=Qa (Mm x) hx;have hyl:=Qa (Mm y) hy;have lx:=UN x;have ly:=UN y;have hmy:=XQ hyx;show Uk 188 [.one (.row (Bs (Gh x))),.one (.row (Bs (Gh y)))] _;refine Fu func188 rfl ?_;refine Uf [.i (Bs (Gh x)).length,.i (Bs (Gh x)).length] rfl ?_;rw[lx,show List.replicate (Gh x).length [LV.int .i64 0]=Bs (List.replicate (Gh x).length 0) from by simp[Bs]];refine Uj (S:=Nat×Nat×Up) 1 (λL1 s=>(14,.v (.oi (s.1:Int)))::(6,.v (.oi (s.2.1:Int)))::L1) (λs=>[.row false 3 1 (Bs s.2.2)]) (λs=>(Gh x).length-s.1) (λs=>s.1<=(Gh x).length/\s.2.2.length=(Gh x).length/\Dg s.2.2/\Tg (s.2.2.take s.1)+Tg ((Gh y).take s.1)=Tg ((Gh x).take s.1)+s.2.1*10000^s.1/\s.2.1<=1) (0,0,List.replicate (Gh x).length 0) ⟨Qh _,Jd ..,Dg.zeros _,by simp[Tg],Qh _⟩ rfl rfl λs hs=>?_
 obtain⟨i,c,o⟩:=s;obtain⟨hp0,hp1,hp2,hp3,hp4⟩:=hs;dsimp only at hp0 hp1 hp2 hp3 hp4 ⊢;have hol:(Bs o).length=(Gh x).length:=by rw[Tx,hp1]
 by_cases h1:i<(Gh x).length
 ·obtain⟨d,hd⟩:=gxE (l:=(Gh x)) (i:=i) h1;have hd9:=Cf x d (Qc hd);by_cases h2:i<(Gh y).length
  ·obtain⟨e,he⟩:=gxE (l:=(Gh y)) (i:=i) h2;have he9:=Cf y e (Qc he);by_cases h3:d<c+e
   ·refine go tt [.T,.x (Gx hd),.T,.x (Gx he),.T,.r 36 (eI (b:=((d+10000-c-e:Nat):Int)) (by omega)),.i i] rfl (by simp[U0,hol,tdn,WN,-Int.natCast_add];omega) ?_;exact rd (i+1,1,o.set i (d+10000-c-e)) (by dsimp only;omega) ⟨by dsimp only;omega,by dsimp only;rw[List.length_set];exact hp1,hp2.set (by omega),by
     dsimp only;rw[Ie (by omega),Tt hd,Tt he,Nat.pow_succ];exact YH hp3 (u:=d+10000-c-e) (d:=d) (e:=e) (c':=1) (by omega),by dsimp only;omega⟩ (by rw[QU];rfl)
   ·refine go tt [.T,.x (Gx hd),.T,.x (Gx he),.r 32 (eI (b:=((d-c-e:Nat):Int)) (by omega)),.F,.i i] rfl (by simp[U0,hol,tdn,WN,-Int.natCast_add];omega) ?_;exact rd (i+1,0,o.set i (d-c-e)) (by dsimp only;omega) ⟨by dsimp only;omega,by dsimp only;rw[List.length_set];exact hp1,hp2.set (by omega),by
     dsimp only;rw[Ie (by omega),Tt hd,Tt he,Nat.pow_succ];exact YH hp3 (u:=d-c-e) (d:=d) (e:=e) (c':=0) (by omega),by dsimp only;omega⟩ (by rw[QU];rfl)
  ·have hy0:Tg ((Gh y).take (i+1))=Tg ((Gh y).take i)+10000^i*0:=by rw[I2 (by omega),Yz,Xm]
   by_cases h3:d<c
   ·refine go tt [.T,.x (Gx hd),.F,.T,.r 36 (eI (b:=((d+10000-c:Nat):Int)) (by omega)),.i i] rfl (by simp[U0,hol,tdn,WN,-Int.natCast_add];omega) ?_;exact rd (i+1,1,o.set i (d+10000-c)) (by dsimp only;omega) ⟨by dsimp only;omega,by dsimp only;rw[List.length_set];exact hp1,hp2.set (by omega),by
     dsimp only;rw[Ie (by omega),Tt hd,hy0,Nat.pow_succ];exact YH hp3 (u:=d+10000-c) (d:=d) (e:=0) (c':=1) (by omega),by dsimp only;omega⟩ (by rw[QU];rfl)
   ·refine go tt [.T,.x (Gx hd),.r 22 (eI (b:=((d-c:Nat):Int)) (by omega)),.F,.F,.i i] rfl (by simp[U0,hol,tdn,WN,-Int.natCast_add];omega) ?_;exact rd (i+1,0,o.set i (d-c)) (by dsimp only;omega) ⟨by dsimp only;omega,by dsimp only;rw[List.length_set];exact hp1,hp2.set (by omega),by
     dsimp only;rw[Ie (by omega),Tt hd,hy0,Nat.pow_succ];exact YH hp3 (u:=d-c) (d:=d) (e:=0) (c':=0) (by omega),by dsimp only;omega⟩ (by rw[QU];rfl)
 ·have hi:i=(Gh x).length:=by omega
  have hv:Tg o=x-y:=by
   have h:=hp3;rw[Qo (by omega),Qo (by omega),Qo (by omega),Ra,Ra]at h;have hlt:=CB hp2;rw[hp1,<-hi]at hlt;have hc0:c=0:=by
    rcases Q3 c with h0|h0
    ·exact h0
    ·exfalso;have:c=1:=by omega
     rw[this,Wo]at h;omega
   rw[hc0]at h;omega
  have cc:=HT hp2;rw[hv]at cc;exact Ug [.F,.k cc] rfl
theorem CM{o o2 c P u v s V:Nat}(h:o+c*P=V)(hs:o2+P*v=o+P*u){q:Nat}(hu:u+10000*q=v+c+s):o2+q*(P*10000)=V+P*s:=by
 have e2:P*(u+10000*q)=P*(v+c+s):=by rw[hu]
 grind
theorem Qx6(S:Nat):S % 10000+10000*(S / 10000)=S:=Wg S 10000
structure MulI(x y i d:Nat)(s:Nat×Nat×List Nat):Prop where
 l:s.2.2.length=(Gh x).length+(Gh y).length
 dg:Dg s.2.2
 v:Tg s.2.2+s.2.1*10000^(i+s.1)=Tg ((Gh x).take i)*y+10000^i*d*Tg ((Gh y).take s.1)
 c:s.2.1<10000
 b:s.1<=(Gh y).length/\(∀j v,i+(Gh y).length<=j->s.2.2[j]? = some v->v=0)\/s.1=(Gh y).length+1/\s.2.1=0/\∀j v,i+(Gh y).length+1<=j->s.2.2[j]? = some v->v=0
theorem Qtm{x y:Nat}(hx:sz x<=200000000)(hy:sz y<=200000000):Uk 145 [.one (nd x),.one (nd y)] [.one (nd (x*y))]:=by
 have hxl:=Qa (Mm x) hx;have hyl:=Qa (Mm y) hy;have lx:=UN x;have ly:=UN y;show Uk 145 [.one (.row (Bs (Gh x))),.one (.row (Bs (Gh y)))] _;refine Fu func145 rfl ?_;refine Uf [.r 14 (eI (b:=(((Gh x).length+(Gh y).length:Nat):Int)) (by rw[lx,ly];omega)),.i ((Gh x).length+(Gh y).length),.i ((Gh x).length+(Gh y).length)] rfl ?_;rw[show List.replicate ((Gh x).length+(Gh y).length) [LV.int .i64 0]=Bs (List.replicate ((Gh x).length+(Gh y).length) 0) from by simp[Bs]];refine Uj (S:=Nat×Up) 1 (λL1 s=>(18,.v (.oi (s.1:Int)))::L1) (λs=>[.row false 3 1 (Bs s.2)]) (λs=>(Gh x).length-s.1) (λs=>s.1<=(Gh x).length/\s.2.length=(Gh x).length+(Gh y).length/\Dg s.2/\Tg s.2=Tg ((Gh x).take s.1)*y/\∀j v,s.1+(Gh y).length<=j->s.2[j]? = some v->v=0) (0,List.replicate ((Gh x).length+(Gh y).length) 0) ⟨Qh _,Jd ..,Dg.zeros _,by rw[CC (λx hx=>Zw hx)];simp[Tg],λj v _ hv=>Zw (Qc hv)⟩ rfl rfl λs hs=>?_
 obtain⟨i,o⟩:=s;obtain⟨hp0,hp1,hp2,hp3,hp4⟩:=hs;dsimp only at hp0 hp1 hp2 hp3 hp4 ⊢;by_cases h1:i<(Gh x).length
 ·obtain⟨d,hd⟩:=gxE (l:=(Gh x)) (i:=i) h1;have hd9:=Cf x d (Qc hd);refine Ue [.T] rfl ?_;refine Uj (S:=Nat×Nat×Up) 1 (λL1 s=>(8,.v (.oi (s.1:Int)))::(7,.v (.oi (s.2.1:Int)))::L1) (λs=>[.row false 3 1 (Bs s.2.2)]) (λs=>((Gh y).length-s.1)*2+min s.2.1 1) (MulI x y i d) (0,0,o) ⟨hp1,hp2,by dsimp only;rw[hp3];simp[Tg],by show 0<10000;decide,.inl ⟨Nat.zero_le _,hp4⟩⟩ rfl rfl λs hs=>?_
  obtain⟨k,c,o2⟩:=s;obtain⟨hq0,hq1,hq2,hq3,hq4⟩:=hs;dsimp only at hq0 hq1 hq2 hq3 hq4 ⊢;have hol:(Bs o2).length=(Gh x).length+(Gh y).length:=by rw[Tx,hq0]
  by_cases h2:k<(Gh y).length
  ·obtain⟨e,he⟩:=gxE (l:=(Gh y)) (i:=k) h2;have he9:=Cf y e (Qc he);have hde:d*e<=9999*9999:=Zc (by omega) (by omega);obtain⟨v,hoi⟩:=gxE (l:=o2) (i:=i+k) (by omega);have hv9:=hq1 v (Qc hoi);refine go tt [.g 25 true Um,.t rfl,.r 34 (eI (b:=((i+k:Nat):Int)) (by omega)),.i (i+k),.x (Gx hoi),.r 38 (eI (b:=((v+c:Nat):Int)) (by omega)),.T,.x (Gx hd),.x (Gx he),.r 52 (eI (b:=((d*e:Nat):Int)) (by simp)),.r 53 (eI (b:=((v+c+d*e:Nat):Int)) (by omega)),.r 57 (eI (b:=((i+k:Nat):Int)) (by omega)),.r 59 (eI (b:=(((v+c+d*e) % 10000:Nat):Int)) (by rfl)),.i (i+k),.r 62 (eI (b:=(((v+c+d*e) / 10000:Nat):Int)) (by rfl))] rfl (by simp[U0,hol,tdn,WN,-Int.natCast_add,-Int.natCast_mul];omega) ?_;exact rd (k+1,(v+c+d*e) / 10000,o2.set (i+k) ((v+c+d*e) % 10000)) (by dsimp only;omega) ⟨by dsimp only;rw[List.length_set];exact hq0,hq1.set (Nat.mod_lt _ (by decide)),by
    dsimp only;rw[<-Nat.add_assoc i k 1,Nat.pow_succ];have:=CM hq2 (aX hoi (u:=((v+c)+(d*e)) % 10000)) (s:=d*e) (q:=((v+c)+(d*e)) / 10000) (by rw[Qx6]);rw[this,Tt he,Nat.pow_add];grind,by dsimp only;omega,.inl ⟨by dsimp only;omega,λj w hj hw=>(by
     dsimp only at hw;rcases hq4 with⟨_,h⟩|⟨_,_,h⟩ <;> (rw[Yg (by omega)]at hw;exact h j w (by omega) hw))⟩⟩ (by rw[QU];rfl)
  ·by_cases h3:0<c
   ·have hk:k=(Gh y).length:=by omega
    have hz:∀j v,i+(Gh y).length<=j->o2[j]? = some v->v=0:=by
     rcases hq4 with⟨_,h⟩|⟨_,h,_⟩
     ·exact h
     ·omega
    obtain⟨v,hoi⟩:=gxE (l:=o2) (i:=i+k) (by omega);have hv0:v=0:=hz (i+k) v (by omega) hoi;have hv9:=hq1 v (Qc hoi);refine go tt [.g 25 false Ul,.T,.r 34 (eI (b:=((i+k:Nat):Int)) (by omega)),.i (i+k),.x (Gx hoi),.r 38 (eI (b:=((v+c:Nat):Int)) (by omega)),.F,.r 57 (eI (b:=((i+k:Nat):Int)) (by omega)),.r 59 (eI (b:=(((v+c) % 10000:Nat):Int)) (by rfl)),.i (i+k),.r 62 (eI (b:=(((v+c) / 10000:Nat):Int)) (by rfl))] rfl (by simp[U0,hol,tdn,WN,-Int.natCast_add];omega) ?_;exact rd (k+1,(v+c) / 10000,o2.set (i+k) ((v+c) % 10000)) (by dsimp only;omega) ⟨by dsimp only;rw[List.length_set];exact hq0,hq1.set (Nat.mod_lt _ (by decide)),by
     dsimp only;rw[<-Nat.add_assoc i k 1,Nat.pow_succ];have:=CM hq2 (aX hoi (u:=(v+c) % 10000)) (s:=0) (q:=(v+c) / 10000) (by rw[Qx6];rfl);rw[this,Nat.mul_zero,Nat.add_zero,I2 (by omega)],by dsimp only;omega,.inr ⟨by dsimp only;omega,by dsimp only;omega,λj w hj hw=>(by
      dsimp only at hw;rw[Yg (by omega)]at hw;exact hz j w (by omega) hw)⟩⟩ (by rw[QU];rfl)
   ·refine Uf [.g 25 false Ul,.F] rfl ?_;exact rd (i+1,o2) (by dsimp only;omega) ⟨by dsimp only;omega,hq0,hq1,by
     dsimp only;rw[Tt hd,X3];have h:=hq2;rw[show c=0 by omega,Qo (l:=Gh y) (i:=k) (by omega),Ra]at h;rw[Yl,Xm]at h;exact h,by
     dsimp only;rcases hq4 with⟨_,h⟩|⟨_,_,h⟩
     ·exact λj w hj hw=>h j w (by omega) hw
     ·exact λj w hj hw=>h j w (by omega) hw⟩ rfl
 ·have hv:Tg o=x*y:=by rw[hp3,Qo (by omega),Ra]
  have cc:=HT hp2;rw[hv]at cc;exact Ug [.F,.k cc] rfl
theorem eP{x y:Nat}:ZF x y<=0↔x<=y:=by
 unfold ZF;constructor
 ·intro h;split at h
  ·omega
  ·split at h <;> omega
 ·intro h;split
  ·omega
  ·split <;> omega
theorem Qb4{R y lo:Nat}(h1:y*lo<=R)(h2:R<y*(lo+1)):R / y=lo/\R % y=R-y*lo:=by
 have hy:0<y:=by
  rcases Q3 y with h|h
  ·subst h;simp at h2
  ·exact h
 have e:R / y=lo:=Nat.div_eq_of_lt_le (by rw[Zq];exact h1) (by rw[Zq];exact h2);refine⟨e,?_⟩;have:=Xe R y;rw[e]at this;omega
theorem Qk6{R y:Nat}(h:R<y*10000):sz R<=sz y+14:=by
 refine Nl.2 (Z6 h ?_);have:=FG y;rw[Xf];have e:(2:Nat)^14=16384:=by decide
 rw[e];exact Zc (by omega) (by decide)
theorem Qdg(y:Nat):sz (y*10000)<=sz y+14:=by
 refine Nl.2 ?_;have:=FG y;rw[Xf];have e:(2:Nat)^14=16384:=by decide
 rw[e];omega
theorem pA{x y:Nat}(hx:sz x<=90000000)(hy:sz y<=90000000)(hy0:0<y):Uk 210 [.one (nd x),.one (nd y)] [.one (nd (x / y)),.one (nd (x % y))]:=by
 have hxl:=Qa (Mm x) hx;have hyl:=Qa (Mm y) hy;have lx:=UN x;show Uk 210 [.one (.row (Bs (Gh x))),.one (nd y)] _;refine Fu func210 rfl ?_;refine Uf [.i (Bs (Gh x)).length,.i (Bs (Gh x)).length,.z 7,.r 17 (eI (b:=((Gh x).length:Int)-1) (by rw[lx]))] rfl ?_;rw[lx,show List.replicate (Gh x).length [LV.int .i64 0]=Bs (List.replicate (Gh x).length 0) from by simp[Bs]];refine Uj (S:=Nat×Up×Up) 1 (λL1 s=>(8,.v (.oi ((s.1:Int)-1)))::(7,.v (.one (.row (Bs s.2.1))))::L1) (λs=>[.row false 3 1 (Bs s.2.2)]) (λs=>s.1) (λs=>s.1<=(Gh x).length/\s.2.2.length=(Gh x).length/\Dg s.2.2/\Tg (s.2.2.drop s.1)=Tg ((Gh x).drop s.1) / y/\s.2.1=Gh (Tg ((Gh x).drop s.1) % y)) ((Gh x).length,[],List.replicate (Gh x).length 0) ⟨Nat.le_refl _,List.length_replicate ..,Dg.zeros _,by dsimp only;rw[List.drop_eq_nil_of_le (by simp),List.drop_eq_nil_of_le (Nat.le_refl _)];simp[Tg],by dsimp only;rw[List.drop_eq_nil_of_le (Nat.le_refl _)];simp[Tg,Hu]⟩ rfl rfl λs hs=>?_
 obtain⟨j,R,o⟩:=s;obtain⟨hp0,hp1,hp2,hp3,hp4⟩:=hs;dsimp only at hp0 hp1 hp2 hp3 hp4 ⊢;cases j with
 |
  zero =>
  have cc:=HT hp2;rw[Xx,Xx,Ra]at hp3;rw[Xx,Ra]at hp4;rw[hp3]at cc;exact Ug [.f (by simp),.k cc] rfl (by rw[hp4];rfl) trivial
 |
  succ j =>
  obtain⟨d,hd⟩:=gxE (l:=(Gh x)) (i:=j) (by omega);have hd9:=Cf x d (Qc hd);have hdd:=XJ hd;obtain⟨hq1,hq2,hq3⟩:=uT (V:=Tg ((Gh x).drop (j+1))) (kd:=y) (d:=d) hy0;rw[<-hdd]at hq1 hq2;have hq3:=hq3 hd9;obtain⟨rr,hrr0⟩:=nmE (Tg ((Gh x).drop (j+1)) % y);have hrr:rr<y:=by rw[hrr0];exact Z5 _ hy0
  rw[<-hrr0]at hp4 hq1 hq2 hq3;subst hp4;have hrl:(Gh rr).length<=(Gh y).length:=XQ (by omega);have hR:rr*10000+d<y*10000:=by omega
  have hRs:=Qk6 hR;have hdv:Dg (d::Gh rr):=λz hz=>by
   rcases Qm.1 hz with rfl|hz
   ·exact hd9
   ·exact Cf rr z hz
  have cc:=HT hdv;rw[show Tg (d::Gh rr)=rr*10000+d from by simp only[Tg];rw[Ra];omega]at cc;have hol:(Bs o).length=(Gh x).length:=by rw[Tx,hp1]
  have hrrl:=Tx (Gh rr);have ej:((j+1:Nat):Int)-1=(j:Int):=by omega
  rw[ej];refine go tt [.T,.x (Gx hd),.lo,.s (sz:=1) (Qug (Gh rr)),.k cc] rfl (by simp[U0,UN];omega) ?_;refine Uj (S:=Nat×Nat) 2 (λL1 s=>(9,.v (.oi (s.1:Int)))::(10,.v (.oi (s.2:Int)))::L1) (λ_=>[.row false 3 1 (Bs o),.gone]) (λs=>s.2-s.1) (λs=>s.1<=s.2/\s.2<=9999/\y*s.1<=rr*10000+d/\rr*10000+d<y*(s.2+1)) (0,9999) ⟨by decide,by decide,by dsimp only;omega,by dsimp only;omega⟩ rfl rfl λs hs=>?_
  obtain⟨lo,hi⟩:=s;obtain⟨hb0,hb1,hb2,hb3⟩:=hs;dsimp only at hb0 hb1 hb2 hb3 ⊢;by_cases h2:lo<hi
  ·obtain⟨m,hm⟩:=nmE ((lo+hi+1) / 2);have hym:y*m<=y*10000:=Zu y (by omega);have c1:=UH (x:=y) (mu:=m) (c0:=0) (by omega) (by omega) (by omega);have c2:=pD (x:=y*m+0) (y:=rr*10000+d) (Qa (Rf (show _<=y*10000 by omega)) (Qa (Qdg y) (by omega))) (by omega);by_cases h3:y*m+0<=rr*10000+d
   ·refine go tt [.T,.r 35 (eI (b:=((lo+hi:Nat):Int)) (by omega)),.r 36 (eI (b:=((lo+hi+1:Nat):Int)) (by omega)),.r 37 (eI (b:=(m:Int)) (by rw[hm];rfl)),.k c1,.k c2,.t (decide_eq_true (eP.2 h3))] rfl (by simp[U0,WN,-Int.natCast_add];omega) ?_;exact rd (m,hi) (by dsimp only;omega) ⟨by dsimp only;omega,hb1,by dsimp only;omega,hb3⟩ rfl
   ·refine go tt [.T,.r 35 (eI (b:=((lo+hi:Nat):Int)) (by omega)),.r 36 (eI (b:=((lo+hi+1:Nat):Int)) (by omega)),.r 37 (eI (b:=(m:Int)) (by rw[hm];rfl)),.k c1,.k c2,.f (decide_eq_false λh=>h3 (eP.1 h)),.r 46 (eI (b:=((m-1:Nat):Int)) (by omega))] rfl (by simp[U0,WN,-Int.natCast_add];omega) ?_;exact rd (lo,m-1) (by dsimp only;omega) ⟨by dsimp only;omega,by dsimp only;omega,hb2,by dsimp only;rw[show m-1+1=m by omega];omega⟩ rfl
  ·have hlh:lo=hi:=by omega
   have hfd:=Qb4 hb2 (by rw[hlh];exact hb3);have c1:=UH (x:=y) (mu:=lo) (c0:=0) (by omega) (by omega) (by omega);have c2:=mQ (x:=rr*10000+d) (y:=y*lo+0) (by omega) (Qa (Rf (show _<=rr*10000+d by omega)) (by omega)) (by omega);rw[show rr*10000+d-(y*lo+0)=Tg ((Gh x).drop j) % y from by rw[hq2,hfd.2];omega]at c2;refine go tt [.F,.i j,.k c1,.k c2] rfl (by simp[U0,hol,tdn,WN,-Int.natCast_add];omega) ?_;exact rd (j,Gh (Tg ((Gh x).drop j) % y),o.set j lo) (by dsimp only;omega) ⟨by dsimp only;omega,by dsimp only;rw[List.length_set];exact hp1,hp2.set (by omega),by
    dsimp only;rw[HL (by omega)];simp only[Tg];rw[hp3,hq1,hfd.1],rfl⟩ (by rw[QU];rfl)
theorem Qql{a b:Int}(h:(decide (a<0) == decide (b<0))=true):U9 (decide (a<0)) (a.natAbs+b.natAbs)=a+b:=by
 unfold U9;by_cases h1:a<0 <;> by_cases h2:b<0 <;> simp[h1,h2]at h ⊢ <;> omega
theorem Qqo{a b:Int}(h:¬(decide (a<0) == decide (b<0))=true)(hl:b.natAbs<=a.natAbs):U9 (decide (a<0)) (a.natAbs-b.natAbs)=a+b:=by
 unfold U9;by_cases h1:a<0 <;> by_cases h2:b<0 <;> simp[h1,h2]at h ⊢ <;> omega
theorem Qko{a b:Int}(h:¬(decide (a<0) == decide (b<0))=true)(hl:¬b.natAbs<=a.natAbs):U9 (decide (b<0)) (b.natAbs-a.natAbs)=a+b:=by
 unfold U9;by_cases h1:a<0 <;> by_cases h2:b<0 <;> simp[h1,h2]at h ⊢ <;> omega
theorem VQ(a:Int):(∃m:Nat,a=(m:Int))\/∃m:Nat,a=-(m:Int)/\0<m:=by
 rcases Kd a 0 with h|h
 ·exact .inr ⟨a.natAbs,by omega,by omega⟩
 ·exact .inl ⟨a.natAbs,by omega⟩
theorem Qqn(a b:Int):U9 (!(decide (a<0) == decide (b<0))) (a.natAbs*b.natAbs)=a*b:=by
 rcases VQ a with⟨m,rfl⟩|⟨m,rfl,hm⟩ <;> rcases VQ b with⟨n,rfl⟩|⟨n,rfl,hn⟩
 ·simp[U9,show ¬((m:Int)<0) by omega,show ¬((n:Int)<0) by omega]
 ·simp[U9,show ¬((m:Int)<0) by omega,show(-(n:Int)<0) by omega,hn,V7]
 ·simp[U9,show(-(m:Int)<0) by omega,show ¬((n:Int)<0) by omega,hm,Ko]
 ·simp[U9,show(-(m:Int)<0) by omega,show(-(n:Int)<0) by omega,hm,hn,W9]
theorem Qqm{a b:Int}(h:a % b=0):U9 (!(decide (a<0) == decide (b<0))) (a.natAbs / b.natAbs)=a / b:=by
 by_cases hb:b=0
 ·subst hb;simp[U9]
 obtain⟨c,rfl⟩:=Vf h;rw[Jc _ hb,J9,Nat.mul_div_cancel_left _ (by omega)];rcases VQ b with⟨n,rfl⟩|⟨n,rfl,hn⟩ <;> rcases VQ c with⟨m,rfl⟩|⟨m,rfl,hm⟩
 ·have:¬((n:Int)*(m:Int)<0):=by rw[<-Vi];omega
  simp[U9,this,show ¬((n:Int)<0) by omega]
 ·have h1:0<n*m:=J6 (by omega) hm;have:((n:Int)*-(m:Int)<0):=by rw[V7,<-Vi];omega
  simp only[this,show ¬((n:Int)<0) by omega];simp[U9]
 ·by_cases h0:m=0
  ·subst h0;simp[U9]
  ·have h1:0<n*m:=J6 hn (by omega);have:(-(n:Int)*(m:Int)<0):=by rw[Ko,<-Vi];omega
   simp only[this,show(-(n:Int)<0) by omega];simp[U9]
 ·have:¬(-(n:Int)*-(m:Int)<0):=by rw[W9,<-Vi];omega
  simp only[this,show(-(n:Int)<0) by omega];simp[U9]
theorem eS{x y:Nat}:0<=ZF x y↔y<=x:=by
 unfold ZF;constructor
 ·intro h;split at h
  ·omega
  ·omega
 ·intro h;split
  ·omega
  ·split <;> omega
theorem CU{x e:Nat}(h:(Gh x).length=1)(he:(Gh x)[0]? = some e):x=e:=by
 rcases hd:Gh x with _|⟨u,l⟩
 ·rw[hd]at h;cases h
 ·rcases l with _|⟨w,l⟩
  ·rw[hd]at he;simp at he;have:=Ra x;rw[hd]at this;simp[Tg]at this;omega
  ·rw[hd]at h;simp at h
theorem nV{a b:Int}(hb:0<b):ri (a / ((Int.gcd a b:Nat):Int))++ri (b / ((Int.gcd a b:Nat):Int))=fr (Rat.divInt a b):=by
 obtain⟨h1,h2⟩:=iV (n:=a) hb;rw[D8,Int.gcd_comm]at h1 h2;rw[h1,h2]
theorem nK(a:Int):ri a++ri 1=fr (Rat.divInt a 1):=by
 have h:=nV (a:=a) (b:=1) (by decide);rw[show((Int.gcd a 1:Nat):Int)=1 by simp]at h;simpa using h
theorem OA{a b:Int}(hb:b≠0)(ha2:Fb a<=90000000)(hb2:Fb b<=90000000):Fb ((Int.gcd a b:Nat):Int)<=90000000/\((Int.gcd a b:Nat):Int)≠0/\a % ((Int.gcd a b:Nat):Int)=0/\b % ((Int.gcd a b:Nat):Int)=0:=by
 have h1:=aB (n:=a) hb hb2;have h2:=fK (n:=a) hb;have h3:=DN a b;have h4:=DC a b;rw[D8,Int.gcd_comm]at h1 h2 h3 h4;exact⟨h1,by omega,h3,h4⟩
theorem zV{a b:Int}(h:b<0):Gd a b=Rat.divInt (-a) (-b):=by
 unfold Gd;rw[if_neg (by omega)];exact(Rat.neg_divInt_neg a b).symm
theorem TX{a b:Int}(h:0<b):Gd a b=Rat.divInt a b:=by
 unfold Gd;rw[if_neg (by omega)]
theorem IK(a b:Rat):Gd (a.num*(b.den:Int)+b.num*(a.den:Int)) ((a.den:Int)*(b.den:Int))=a+b:=by
 unfold Gd;rw[if_neg (Jf (Dh a) (Dh b)),<-Rat.divInt_add_divInt _ _ (Dh a) (Dh b),Z1,Z1]
theorem qR(a b:Rat):Gd (a.num*b.num) ((a.den:Int)*(b.den:Int))=a*b:=by
 unfold Gd;rw[if_neg (Jf (Dh a) (Dh b)),<-K0,Z1,Z1]
theorem zY{a b:Rat}(h:b≠0):Gd (a.num*(b.den:Int)) ((a.den:Int)*b.num)=a / b:=by
 have hn:b.num≠0:=λe=>h (Rat.num_eq_zero.1 e)
 unfold Gd;rw[if_neg (Jf (Dh a) hn),<-K0,Z1,Jn];congr 1
 conv=>rhs;rw[<-Z1 b,Rat.inv_divInt]
theorem Qjz{s:Nat}{a b:Rat}(ha:Qs s a)(hb:Qs s b):Qs (2*s+1) (a+b):=by
 rw[<-IK];unfold Gd;rw[if_neg (Jf (Dh a) (Dh b))];refine Qs.divInt (Qa (QS _ _) ?_) (Qa (Fz _ _) (by have:=ha.2;have:=hb.2;omega)) (by omega);have h1:=Fz a.num (b.den:Int);have h2:=Fz b.num (a.den:Int);have:=ha.1;have:=ha.2;have:=hb.1;have:=hb.2;omega
theorem mJ{a b:Int}(ha:Fb a<=200000000)(hb:Fb b<=200000000):Uk 115 [.agg (ri a),.agg (ri b)] [.agg (ri (a+b))]:=by
 by_cases hs:(decide (a<0) == decide (b<0))=true
 ·have cm:=Nq (decide (a<0)) (a.natAbs+b.natAbs);rw[Qql hs]at cm;exact Uh func115 rfl [.t hs,.k (Qtb ha hb),.k cm] rfl
 ·have hs':(decide (a<0) == decide (b<0))=false:=by simpa using hs
  by_cases hl:b.natAbs<=a.natAbs
  ·have cm:=Nq (decide (a<0)) (a.natAbs-b.natAbs);rw[Qqo hs hl]at cm;exact Uh func115 rfl [.f hs',.k (pD ha hb),.t (decide_eq_true (eS.2 hl)),.k (mQ ha hb hl),.k cm] rfl
  ·have cm:=Nq (decide (b<0)) (b.natAbs-a.natAbs);rw[Qko hs hl]at cm;exact Uh func115 rfl [.f hs',.k (pD ha hb),.f (decide_eq_false λh=>hl (eS.1 h)),.k (mQ hb ha (by omega)),.k cm] rfl
theorem Qfs{a b:Int}(ha:Fb a<=200000000)(hb:Fb b<=200000000):Uk 144 [.agg (ri a),.agg (ri b)] [.agg (ri (a-b))]:=by
 have ca:=mJ (a:=a) (b:=-b) ha (by rw[Hj];exact hb);rw[show a+-b=a-b from by omega]at ca;exact Uh func144 rfl [.k (QX (z:=b)),.k ca] rfl
theorem Ab{a b:Int}(ha:Fb a<=200000000)(hb:Fb b<=200000000):Uk 73 [.agg (ri a),.agg (ri b)] [.agg (ri (a*b))]:=by
 have cm:=Nq (!(decide (a<0) == decide (b<0))) (a.natAbs*b.natAbs);rw[Qqn]at cm;exact Uh func73 rfl [.k (Qtm ha hb),.k cm] rfl
theorem BC{a b:Int}(ha:Fb a<=90000000)(hb:Fb b<=90000000)(h0:b≠0)(hd:a % b=0):Uk 139 [.agg (ri a),.agg (ri b)] [.agg (ri (a / b))]:=by
 have cm:=Nq (!(decide (a<0) == decide (b<0))) (a.natAbs / b.natAbs);rw[Qqm hd]at cm;exact Uh func139 rfl [.k (pA ha hb (by omega)),.k cm] rfl
theorem Qv0(x:Nat):ri ((x:Nat):Int)=[nd x,.bool false]:=by
 unfold ri sg;rw[Xh,decide_eq_false (by omega)]
theorem xI{a b:Int}(ha:Fb a<=90000000)(hb:Fb b<=90000000):Uk 138 [.agg (ri a),.agg (ri b)] [.agg (ri ((Int.gcd a b:Nat):Int))]:=by
 rw[Qv0];refine Fu func138 rfl ?_;refine Ue [] rfl ?_;refine Uj (S:=Nat×Nat) 3 (λL1 s=>(5,.v (.one (nd s.1)))::(6,.v (.one (nd s.2)))::L1) (λ_=>[.blk 49 (ri a),.blk 49 (ri b),.blk 49 [.nils,.bool false]]) (λs=>s.2) (λs=>Nat.gcd s.1 s.2=Int.gcd a b/\sz s.1<=90000000/\sz s.2<=90000000) (a.natAbs,b.natAbs) ⟨rfl,ha,hb⟩ rfl rfl λs hs=>?_
 obtain⟨x,y⟩:=s;obtain⟨hp0,hp1,hp2⟩:=hs;dsimp only at hp0 hp1 hp2 ⊢;have hyn:=MR (x:=y);have hyl:=UN y;by_cases h1:y=0
 ·have e:Int.gcd a b=x:=by rw[<-hp0,h1,Nat.gcd_zero_right]
  rw[e];exact Ug [.f (by simp only[Tx];exact decide_eq_false (by omega))] rfl
 ·have hlt:=Z5 x (show 0<y by omega);refine Ue [.t (by simp only[Tx];exact decide_eq_true (by omega)),.k (pA hp1 hp2 (by omega))] rfl ?_;exact rd (y,x % y) (by dsimp only;omega) ⟨by dsimp only;rw[<-hp0,Nat.gcd_comm x y,Nat.gcd_rec y x,Nat.gcd_comm],hp2,Nat.le_trans (Rf (by dsimp only;omega)) hp2⟩ rfl
theorem YY{a b:Int}(ha:Fb a<=90000000)(hb:Fb b<=90000000):Uk 68 [.agg (ri a),.agg (ri b)] [.agg (fr (Gd a b))]:=by
 rcases Km b 0 with hs|hs|hs
 ·skip
  by_cases h1:-b=1
  ·have h0:(Bs (Gh (-b).natAbs))[0]? = some [LV.int .i64 1]:=by rw[h1,show(1:Int).natAbs=1 from rfl,Ib];rfl
   have hl1:decide (((Bs (Gh (-b).natAbs)).length:Int)=1)=true:=by rw[h1,show(1:Int).natAbs=1 from rfl,Ib];rfl
   have e:fr (Gd a b)=ri (-a)++ri (-b):=by rw[zV hs,h1];exact(nK _).symm
   rw[e];exact Uh func68 rfl [.k (Ds (z:=b)),.F,.t (decide_eq_true hs),.k (QX (z:=a)),.k (QX (z:=b)),.g 19 true hl1,.x h0,.t rfl] rfl
  ·have hgf:=OA (a:=-a) (b:=-b) (by omega) (by first|exact ha|(rw[Hj];exact ha)) (by first|exact hb|(rw[Hj];exact hb));have cg:=xI (a:=-a) (b:=-b) (by first|exact ha|(rw[Hj];exact ha)) (by first|exact hb|(rw[Hj];exact hb));have q1:=BC (a:=-a) (b:=((Int.gcd (-a) (-b):Nat):Int)) (by first|exact ha|(rw[Hj];exact ha)) hgf.1 hgf.2.1 hgf.2.2.1;have q2:=BC (a:=-b) (b:=((Int.gcd (-a) (-b):Nat):Int)) (by first|exact hb|(rw[Hj];exact hb)) hgf.1 hgf.2.1 hgf.2.2.2;have e:fr (Gd a b)=ri ((-a) / ((Int.gcd (-a) (-b):Nat):Int))++ri ((-b) / ((Int.gcd (-a) (-b):Nat):Int)):=by rw[zV hs];exact(nV (by omega)).symm
   rw[e];have hl:=UN (-b).natAbs;by_cases hl1:(Gh (-b).natAbs).length=1
   ·obtain⟨u,hu⟩:=gxE (l:=(Gh (-b).natAbs)) (i:=0) (by omega);have hue:=CU hl1 hu;exact Uh func68 rfl [.k (Ds (z:=b)),.F,.t (decide_eq_true hs),.k (QX (z:=a)),.k (QX (z:=b)),.g 19 true (by simp only[Tx];exact decide_eq_true (by omega)),.x (Gx hu),.F,.k cg,.k q1,.k q2] rfl
   ·exact Uh func68 rfl [.k (Ds (z:=b)),.F,.t (decide_eq_true hs),.k (QX (z:=a)),.k (QX (z:=b)),.g 19 false (by simp only[Tx];exact decide_eq_false (by omega)),.f rfl,.k cg,.k q1,.k q2] rfl
 ·subst hs;have h0:(Bs (Gh (1:Int).natAbs))[0]? = some [LV.int .i64 1]:=by rw[show(1:Int).natAbs=1 from rfl,Ib];rfl
  have h1:decide (((Bs (Gh (1:Int).natAbs)).length:Int)=1)=true:=by rw[show(1:Int).natAbs=1 from rfl,Ib];rfl
  have e:fr (Gd a 0)=ri a++ri 1:=(nK a).symm;rw[e];exact Uh func68 rfl [.k (Ds (z:=0)),.t rfl,.k (ZD (n:=1) (by decide)),.f rfl,.g 19 true h1,.x h0,.t rfl] rfl
 ·skip
  by_cases h1:b=1
  ·have h0:(Bs (Gh (b).natAbs))[0]? = some [LV.int .i64 1]:=by rw[h1,show(1:Int).natAbs=1 from rfl,Ib];rfl
   have hl1:decide (((Bs (Gh (b).natAbs)).length:Int)=1)=true:=by rw[h1,show(1:Int).natAbs=1 from rfl,Ib];rfl
   have e:fr (Gd a b)=ri (a)++ri (b):=by rw[TX hs,h1];exact(nK _).symm
   rw[e];exact Uh func68 rfl [.k (Ds (z:=b)),.F,.F,.g 19 true hl1,.x h0,.t rfl] rfl
  ·have hgf:=OA (a:=a) (b:=b) (by omega) (by first|exact ha|(rw[Hj];exact ha)) (by first|exact hb|(rw[Hj];exact hb));have cg:=xI (a:=a) (b:=b) (by first|exact ha|(rw[Hj];exact ha)) (by first|exact hb|(rw[Hj];exact hb));have q1:=BC (a:=a) (b:=((Int.gcd (a) (b):Nat):Int)) (by first|exact ha|(rw[Hj];exact ha)) hgf.1 hgf.2.1 hgf.2.2.1;have q2:=BC (a:=b) (b:=((Int.gcd (a) (b):Nat):Int)) (by first|exact hb|(rw[Hj];exact hb)) hgf.1 hgf.2.1 hgf.2.2.2;have e:fr (Gd a b)=ri ((a) / ((Int.gcd (a) (b):Nat):Int))++ri ((b) / ((Int.gcd (a) (b):Nat):Int)):=by rw[TX hs];exact(nV (by omega)).symm
   rw[e];have hl:=UN (b).natAbs;by_cases hl1:(Gh (b).natAbs).length=1
   ·obtain⟨u,hu⟩:=gxE (l:=(Gh (b).natAbs)) (i:=0) (by omega);have hue:=CU hl1 hu;exact Uh func68 rfl [.k (Ds (z:=b)),.F,.F,.g 19 true (by simp only[Tx];exact decide_eq_true (by omega)),.x (Gx hu),.F,.k cg,.k q1,.k q2] rfl
   ·exact Uh func68 rfl [.k (Ds (z:=b)),.F,.F,.g 19 false (by simp only[Tx];exact decide_eq_false (by omega)),.f rfl,.k cg,.k q1,.k q2] rfl
theorem Qrq{n d:Int}(hn:-1000000000<=n/\n<=1000000000)(hd:-1000000000<=d/\d<=1000000000):Uk 15 [.oi n,.oi d] [.agg (fr (Gd n d))]:=by
 have b1:Fb n<=90000000:=Qa (T0.2 (show n.natAbs<2^40 by omega)) (by decide);have b2:Fb d<=90000000:=Qa (T0.2 (show d.natAbs<2^40 by omega)) (by decide);exact Uh func15 rfl [.k (ZD (by omega)),.k (ZD (by omega)),.k (YY b1 b2)] rfl
theorem Qev{a:Rat}:Uk 87 [.agg (fr a)] [.agg (fr (-a))]:=by
 have e:fr (-a)=ri (-a.num)++ri (a.den:Int):=rfl;rw[e];exact Uh func87 rfl [.k (QX (z:=a.num))] rfl
theorem xF{a b:Rat}(ha:Qs 20000000 a)(hb:Qs 20000000 b):Uk 50 [.agg (fr a),.agg (fr b)] [.agg (fr (a+b))]:=by
 have k1:=Fz a.num (b.den:Int);have k2:=Fz b.num (a.den:Int);have k3:=Fz (a.den:Int) (b.den:Int);have k4:=QS (a.num*(b.den:Int)) (b.num*(a.den:Int));have h1:=ha.1;have h2:=ha.2;have h3:=hb.1;have h4:=hb.2;have cm:=YY (a:=a.num*(b.den:Int)+b.num*(a.den:Int)) (b:=(a.den:Int)*(b.den:Int)) (by omega) (by omega);rw[IK]at cm;exact Uh func50 rfl [.k (Ab (a:=a.num) (b:=(b.den:Int)) (by omega) (by omega)),.k (Ab (a:=b.num) (b:=(a.den:Int)) (by omega) (by omega)),.k (mJ (by omega) (by omega)),.k (Ab (a:=(a.den:Int)) (b:=(b.den:Int)) (by omega) (by omega)),.k cm] rfl
theorem Qet{a b:Rat}(ha:Qs 40000000 a)(hb:Qs 40000000 b):Uk 120 [.agg (fr a),.agg (fr b)] [.agg (fr (a*b))]:=by
 have k1:=Fz a.num b.num;have k3:=Fz (a.den:Int) (b.den:Int);have h1:=ha.1;have h2:=ha.2;have h3:=hb.1;have h4:=hb.2;have cm:=YY (a:=a.num*b.num) (b:=(a.den:Int)*(b.den:Int)) (by omega) (by omega);rw[qR]at cm;exact Uh func120 rfl [.k (Ab (a:=a.num) (b:=b.num) (by omega) (by omega)),.k (Ab (a:=(a.den:Int)) (b:=(b.den:Int)) (by omega) (by omega)),.k cm] rfl
theorem pI{a b:Rat}(ha:Qs 40000000 a)(hb:Qs 40000000 b)(h0:b≠0):Uk 247 [.agg (fr a),.agg (fr b)] [.agg (fr (a / b))]:=by
 have k1:=Fz a.num (b.den:Int);have k3:=Fz (a.den:Int) b.num;have h1:=ha.1;have h2:=ha.2;have h3:=hb.1;have h4:=hb.2;have cm:=YY (a:=a.num*(b.den:Int)) (b:=(a.den:Int)*b.num) (by omega) (by omega);rw[zY h0]at cm;exact Uh func247 rfl [.k (Ab (a:=a.num) (b:=(b.den:Int)) (by omega) (by omega)),.k (Ab (a:=(a.den:Int)) (b:=b.num) (by omega) (by omega)),.k cm] rfl
end Orr
namespace Orr
def Db:Uq->Uq
 | []=>[]
 |
  x::l=>match Db l with
  | []=>if x=0 then []else [x]
  |y::k=>x::y::k
theorem JR:∀{l:Uq},(∀x∈l,x=0)->Db l=[]
 | [],_=>rfl
 |
  x::l,h=>by
  have ih:=JR (l:=l) (λy hy=>h y (Qg _ hy));simp[Db,ih,h x (Qx ..)]
theorem EM:∀{l:Uq} {m:Nat} {y:Rat},(∀j x,m<j->l[j]? = some x->x=0)->l[m]? = some y->y≠0->Db l=l.take (m+1)
 | [],m,y,_,h,_=>by simp at h
 |
  x::l,0,y,h1,h2,h3=>by
  have h0:Db l=[]:=JR λz hz=>by
   obtain⟨j,hj⟩:=Zk.1 hz;exact h1 (j+1) z (by omega) (by simpa using hj)
  simp at h2;subst h2;simp[Db,h0,h3]
 |
  x::l,m+1,y,h1,h2,h3=>by
  have ih:=EM (l:=l) (m:=m) (y:=y) (λj z hj hz=>h1 (j+1) z (by omega) (by simpa using hz)) (by simpa using h2) h3;cases hl:l with
  |nil=>subst hl;simp at h2
  |
   cons u k =>
   subst hl;rw[Ve]at ih;simp only[Db]at ih ⊢;rw[ih];simp
theorem zH{l:Uq}{m:Nat}(hm:m<=l.length)(h1:∀j x,m<=j->l[j]? = some x->x=0)(h2:0<m->∃y,l[m-1]? = some y/\y≠0):Db l=l.take m:=by
 rcases Q3 m with h0|h0
 ·subst h0;rw[JR λz hz=>?_];rfl;obtain⟨j,hj⟩:=Zk.1 hz;exact h1 j z (by omega) hj
 ·obtain⟨y,hy,hy0⟩:=h2 h0;have:=EM (l:=l) (m:=m-1) (y:=y) (λj x hj hx=>h1 j x (by omega) hx) hy hy0;rwa[show m-1+1=m from by omega]at this
theorem zP:∀(l:Uq),∀z∈Db l,z∈l
 | [],z,h=>h
 |
  x::l,z,h=>by
  simp only[Db]at h;have ih:=zP l
  split at h
  ·split at h
   ·cases h
   ·simp at h;simp[h]
  ·rename_i y k e;rw[e]at ih;rcases Qm.1 h with h|h
   ·simp[h]
   ·exact Qg _ (ih z h)
theorem zS:∀(l:Uq),(Db l).length<=l.length
 | []=>Ql _
 |
  x::l=>by
  have ih:=zS l;simp only[Db]
  split
  ·split <;> simp
  ·rename_i y k e;rw[e]at ih;simp at ih ⊢;omega
def zp(p:Un):Uq:=p.map λ(z:Int)=>(z:Rat)
theorem Ev:∀(p:Un),Db (zp p)=zp (trim p)
 | []=>rfl
 |
  x::l=>by
  have ih:=Ev l;unfold zp at ih ⊢;simp only[Zz,Db,trim,ih];cases h:trim l with
  |
   nil =>
   simp only[X6];by_cases hx:x=0
   ·subst hx;simp
   ·have:(x:Rat)≠0:=λe=>hx (by exact_mod_cast e)
    simp[hx,this]
  |cons y k=>simp
theorem Ay(p:Un):(zp p).length=p.length:=Q8 _
theorem Qw2{p:Un}{i:Nat}{z:Int}(h:p[i]? = some z):(zp p)[i]? = some (z:Rat):=by simp[zp,h]
theorem NP(p:Un)(i:Nat):(zp p).getD i 0=((p.getD i 0:Int):Rat):=by
 simp only[Qi,zp,Q9];cases p[i]? <;> rfl
def Rb(s:Nat)(p:Uq):Prop:=∀q∈p,Qs s q
theorem Rb.mono{s t:Nat}{p:Uq}(h:Rb s p)(ht:s<=t):Rb t p:=λq hq=>(h q hq).mono ht
theorem Rb.get{s:Nat}{p:Uq}(h:Rb s p){i:Nat}{q:Rat}(hq:p[i]? = some q):Qs s q:=h q (Qc hq)
theorem Ar{s:Nat}{z:Int}(h:Fb z<=s)(h1:1<=s):Qs s (z:Rat):=⟨by simpa using h,Qa (show Fb ((1:Nat):Int)<=1 by decide) h1⟩
theorem zK{s:Nat}{p:Un}(h:Bd s p)(h1:1<=s):Rb s (zp p):=λq hq=>by
 obtain⟨z,hz,rfl⟩:=Za.1 hq;exact Ar (h z hz) h1
theorem Qp3{s:Nat}(h1:1<=s):Qs s 0:=Ar (z:=0) (by simp[M9]) h1
theorem Rb.getD{s:Nat}{p:Uq}(h:Rb s p)(h1:1<=s)(i:Nat):Qs s (p.getD i 0):=by
 rw[Qi];cases e:p[i]? with
 |none=>exact Qp3 h1
 |some q=>exact h.get e
theorem Rb.trim{s:Nat}{p:Uq}(h:Rb s p):Rb s (Db p):=λq hq=>h q (zP p q hq)
def VN(f:Nat->Rat)(n:Nat):Uq:=(List.range n).map f
theorem EI(f:Nat->Rat)(n:Nat):(VN f n).length=n:=by simp[VN]
theorem zL(f:Nat->Rat)(n:Nat):VN f (n+1)=VN f n++[f n]:=by simp[VN,Wc]
theorem Qqw{s n:Nat}{f:Nat->Rat}(h:∀i,i<n->Qs s (f i)):Rb s (VN f n):=λq hq=>by
 obtain⟨i,hi,rfl⟩:=Za.1 hq;exact h i (Kj.1 hi)
theorem vP{f:Nat->Rat}{g:Nat->Int}(n:Nat)(h:∀i,i<n->f i=(g i:Rat)):VN f n=zp ((List.range n).map g):=by
 simp only[VN,zp,List.map_map];exact Xq λi hi=>h i (Kj.1 hi)
def Qc6(p q:Uq):Uq:=Db (VN (λi=>p.getD i 0+q.getD i 0) (max p.length q.length))
def QE(p:Uq)(c:Rat):Uq:=Db (VN (λi=>p.getD i 0*c) p.length)
def vU(p:Uq):Uq:=QE p (-1)
def Qsn(p q:Uq):Uq:=Qc6 p (vU q)
theorem Qp5(p q:Un):Qc6 (zp p) (zp q)=zp (A0 p q):=by
 unfold Qc6 A0 Az;rw[vP (g:=λk=>p.getD k 0+q.getD k 0) _ λi _=>by rw[NP,NP,Kc],Ev,Ay,Ay]
theorem zF(p:Un)(c:Int):QE (zp p) (c:Rat)=zp (Ft p c):=by
 unfold QE Ft Az;rw[vP (g:=λk=>p.getD k 0*c) _ λi _=>by rw[NP,Xz],Ev,Ay]
theorem cQ(p:Un):Ft p (-1)=Mr p:=by
 unfold Ft Mr Az;congr 2;funext k;omega
theorem oI(p:Un):vU (zp p)=zp (Mr p):=by
 rw[<-cQ,<-zF];rfl
theorem uA{p q:Un}(hp:Fc p)(hq:Fc q)(h:∀k,p.getD k 0=q.getD k 0):p=q:=by
 have key:∀{p q:Un},Fc q->(∀k,p.getD k 0=q.getD k 0)->q.length<=p.length:=by
  intro p q hq h;rcases Zb p.length q.length with h1|h1
  ·have h2:=H7 hq (by omega);rw[<-h,Qi,Qu (by omega)]at h2;exact(h2 rfl).elim
  ·exact h1
 exact DZ (Kb (key hp λk=>(h k).symm) (key hq h)) λj _=>h j
theorem mA{n m:Nat}{f g:Nat->Int}(hn:n<=m)(h:∀k,k<n->f k=g k)(h0:∀k,n<=k->k<m->g k=0):Az n f=Az m g:=by
 refine uA (Fx _ _) (Fx _ _) λk=>?_
 rw[S8,S8];by_cases h1:k<n
 ·rw[if_pos h1,if_pos (by omega),h k h1]
 ·rw[if_neg h1];by_cases h2:k<m
  ·rw[if_pos h2,h0 k (by omega) h2]
  ·rw[if_neg h2]
theorem Qqd(p q:Un):Qsn (zp p) (zp q)=zp (M4 p q):=by
 unfold Qsn;rw[oI,Qp5];congr 1;have hl:=XB q;unfold A0 M4;refine mA (by omega) (λk _=>?_) λk h1 h2=>?_
 ·unfold Mr;rw[S8]
  split
  ·omega
  ·rename_i h;have:q.getD k 0=0:=by rw[Qi,Qu (by omega)];rfl
   omega
 ·have h3:p.getD k 0=0:=by rw[Qi,Qu (by omega)];rfl
  have h4:(Mr q).getD k 0=0:=by rw[Qi,Qu (by omega)];rfl
  unfold Mr at h4;rw[S8]at h4
  split at h4
  ·omega
  ·have:q.getD k 0=0:=by rw[Qi,Qu (by omega)];rfl
   omega
end Orr
namespace Orr
open Go Go.Proofs Tryz
set_option maxRecDepth 10000
def frow(p:Uq):Ut:=p.map fr
theorem Cg(p:Uq):(frow p).length=p.length:=by simp[frow]
theorem XK{p:Uq}{i:Nat}{q:Rat}(h:p[i]? = some q):(frow p)[i]? = some (fr q):=G6 h
theorem OL(p:Uq)(q:Rat):frow (p++[q])=frow p++[fr q]:=by simp[frow]
theorem Qcd(p:Uq):∀c∈frow p,c.length=4:=λc hc=>by obtain⟨x,_,rfl⟩:=Za.1 hc;rfl
abbrev rp(p:Uq):LV:=.row (frow p)
theorem Qcw(q:Rat):∀c∈[fr q],c.length=4:=λc hc=>by rw[Qk.1 hc];rfl
theorem Qfr:Uk 246 [] [.agg (fr 0)]:=Uh func246 rfl [.k (KF (n:=0) (by decide))] rfl
theorem KR{p:Uq}:Uk 89 [.one (rp p)] [.one (rp (Db p))]:=by
 refine Fu func89 rfl (ln 0 rfl rfl λhl=>?_);rw[Cg]at hl;have hpl:=Cg p;refine Ue [] rfl ?_;refine lp (S:=Nat) 0 (λL1 n=>(3,.v (.oi n))::L1) (λ_=>[]) id (λn=>n<=p.length/\∀j x,n<=j->p[j]? = some x->x=0) (frow p).length ⟨by rw[hpl];exact Ql _,λj x h1 h2=>by
  have:=(Qf.1 h2).1;rw[hpl]at h1;omega⟩ rfl (λ_ _=>rfl) rfl λn hs=>?_
 obtain⟨h1,h2⟩:=hs;cases n with
 |
  zero =>
  have e:=zH h1 (λj x h=>h2 j x h) (λh=>absurd h (by decide));exact Ug [.g 8 false (by simp),.f rfl,.i 0] rfl (by rw[e];rfl) (by simp[U0])
 |
  succ n =>
  obtain⟨x,hx⟩:=gxE (l:=p) (i:=n) (by omega);have hn:=Rat.num_eq_zero (q:=x);by_cases h0:x=0
  ·refine Uf [.g 8 true (by simp),.r 11 (eI (b:=(n:Int)) (by simp)),.x (XK hx),.k (Ds (z:=x.num)),.t (decide_eq_true (hn.2 h0)),.r 18 (eI (b:=(n:Int)) (by simp))] rfl ?_;exact rd n (by simp) ⟨by omega,λj y h3 h4=>by
    rcases Vk h3 with rfl|h3
    ·rw[hx]at h4;injection h4 with h4;rw[<-h4,h0]
    ·exact h2 j y h3 h4⟩ rfl
  ·have e:=zH h1 (λj x h=>h2 j x h) (λ_=>⟨x,hx,h0⟩);exact Ug [.g 8 true (by simp),.r 11 (eI (b:=(n:Int)) (by simp)),.x (XK hx),.k (Ds (z:=x.num)),.f (decide_eq_false λh=>h0 (hn.1 h)),.i (n+1)] rfl (by rw[e];simp[rp,frow,Jw]) (by simp[U0,hpl] <;> omega)
theorem Qru{p:Uq}{i:Nat}(hi:i<1099511627776):Uk 323 [.one (rp p),.oi i] [.agg (fr (p.getD i 0))]:=by
 have hpl:=Cg p;by_cases h:i<p.length
 ·have e:p.getD i 0=p[i]:=by rw[Qi,Qe h];rfl
  rw[e];exact Uh func323 rfl [.g 7 false Ul,.F,.x (XK (Qe h))] rfl
 ·have e:p.getD i 0=0:=by rw[Qi,Qu (by omega)];rfl
  rw[e];exact Uh func323 rfl [.g 7 false Ul,.T,.k Qfr] rfl
theorem Qf5:Uk 178 [.one (ids [1])] [.one (rp (zp [1]))]:=by
 have cc:=KR (p:=zp [1]);rw[Ev,show trim [1]=[1] from rfl]at cc;refine Fu func178 rfl ?_;refine Ue [.o 3 51 4] rfl ?_;refine Uj (S:=Nat) 1 (λL1 i=>(7,.v (.oi i))::(3,.v (.one (.orow 0 4 none)))::L1) (λi=>[.row false 51 4 (frow ((zp [1]).take i))]) (λi=>1-i) (λi=>i<=1) 0 (by decide) rfl rfl λi hi=>?_
 rcases(show i=0\/i=1 by omega)with rfl|rfl
 ·refine go tt [.t rfl,.x (l:=idl [1]) (i:=0) (xs:=[.int .i64 1]) rfl,.k (KF (n:=1) (by decide)),.s (sz:=4) (Qcw _)] rfl (by simp[U0,frow]) ?_;exact rd 1 (by omega) (by omega) rfl
 ·exact Ug [.f rfl,.k cc] rfl
theorem Qt2{p q:Uq}(hp:Rb 20000000 p)(hq:Rb 20000000 q)(hlp:p.length<=1000000)(hlq:q.length<=1000000):Uk 293 [.one (rp p),.one (rp q)] [.one (rp (Qc6 p q))]:=by
 have h1:=Cg p;have h2:=Cg q;obtain⟨M,hM⟩:=nmE (max p.length q.length);have cc:=KR (p:=VN (λi=>p.getD i 0+q.getD i 0) M);unfold Qc6;rw[<-hM];refine Fu func293 rfl ?_;refine Ue [.o 5 51 4] rfl ?_;refine Uj (S:=Nat) 1 (λL1 i=>(6,.v (.oi i))::(5,.v (.one (.orow 0 4 none)))::L1) (λi=>[.row false 51 4 (frow (VN (λi=>p.getD i 0+q.getD i 0) i))]) (λi=>M-i) (λi=>i<=M) 0 (Qh _) rfl rfl λi hi=>?_
 have hol:(frow (VN (λi=>p.getD i 0+q.getD i 0) i)).length=i:=by rw[Cg,EI]
 by_cases h:i<M
 ·refine go tt [.r 12 (eI (b:=(M:Int)) (by omega)),.T,.k (Qru (p:=p) (i:=i) (by omega)),.k (Qru (p:=q) (i:=i) (by omega)),.k (xF (hp.getD (by decide) i) (hq.getD (by decide) i)),.s (sz:=4) (Qcw _)] rfl (by simp[U0,hol,-List.getD_eq_getElem?_getD];omega) ?_;exact rd (i+1) (by omega) h (by rw[zL,OL];rfl)
 ·have e:i=M:=by omega
  rw[e];exact Ug [.r 12 (eI (b:=(M:Int)) (by omega)),.F,.k cc] rfl
theorem BE{p:Uq}{c:Rat}(hp:Rb 40000000 p)(hc:Qs 40000000 c)(hlp:p.length<=1000000):Uk 221 [.one (rp p),.agg (fr c)] [.one (rp (QE p c))]:=by
 have h1:=Cg p;have cc:=KR (p:=VN (λi=>p.getD i 0*c) p.length);unfold QE;refine Fu func221 rfl ?_;refine Ue [.o 5 51 4] rfl ?_;refine Uj (S:=Nat) 2 (λL1 i=>(9,.v (.oi i))::(5,.v (.one (.orow 1 4 none)))::L1) (λi=>[.blk 51 (fr c),.row false 51 4 (frow (VN (λi=>p.getD i 0*c) i))]) (λi=>p.length-i) (λi=>i<=p.length) 0 (Qh _) rfl rfl λi hi=>?_
 have hol:(frow (VN (λi=>p.getD i 0*c) i)).length=i:=by rw[Cg,EI]
 by_cases h:i<p.length
 ·have hg:p[i]? = some (p.getD i 0):=by rw[Qi,Qe h];rfl
  refine go tt [.T,.x (XK hg),.k (Qet (hp.getD (by decide) i) hc),.s (sz:=4) (Qcw _)] rfl (by simp[U0,hol,-List.getD_eq_getElem?_getD];omega) ?_;exact rd (i+1) (by omega) h (by rw[zL,OL];rfl)
 ·have e:i=p.length:=by omega
  rw[e];exact Ug [.F,.k cc] rfl
theorem Qf4{p:Uq}(hp:Rb 40000000 p)(hlp:p.length<=1000000):Uk 157 [.one (rp p)] [.one (rp (vU p))]:=by
 have cs:=BE (p:=p) (c:=-1) hp ⟨by decide,by decide⟩ hlp;have co:=KF (n:=-1) (by decide);rw[show((-1:Int):Rat)=-1 from rfl]at co;exact Uh func157 rfl [.k co,.k cs] rfl
theorem Qp1{s t:Nat}{a b:Rat}(ha:Qs s a)(hb:Qs t b):Qs (s+t+1) (a*b):=by
 rw[<-qR];unfold Gd;rw[if_neg (Jf (Dh a) (Dh b))];have h1:=Fz a.num b.num;have h2:=Fz (a.den:Int) (b.den:Int);have:=ha.1;have:=ha.2;have:=hb.1;have:=hb.2;exact Qs.divInt (by omega) (by omega) (by omega)
theorem Qvz{s:Nat}{p:Uq}(hp:Rb s p):Rb (s+2) (vU p):=by
 unfold vU QE;refine Rb.trim (Qqw λi hi=>?_);have h1:Qs (s+0) (p.getD i 0):=by
  have hi:i<p.length:=hi;rw[Qi,Qe hi];exact hp _ (Xs hi)
 have:=Qp1 h1 (show Qs 1 (-1:Rat) from⟨by decide,by decide⟩);exact this.mono (by omega)
theorem Qj9(p:Uq):(vU p).length<=p.length:=by
 unfold vU QE;exact Qa (zS _) (by rw[EI];exact Ql _)
theorem Qeu{a b:Int}(ha:Fb a<=40000000)(hb:Fb b<=40000000):Uk 120 [.agg (fr (a:Rat)),.agg (fr (b:Rat))] [.agg (fr ((a*b:Int):Rat))]:=by
 have h:=Qet (Ar ha (by decide)) (Ar hb (by decide));rw[<-Xz]at h;exact h
theorem Qtc{a b:Int}(ha:Fb a<=20000000)(hb:Fb b<=20000000):Uk 50 [.agg (fr (a:Rat)),.agg (fr (b:Rat))] [.agg (fr ((a+b:Int):Rat))]:=by
 have h:=xF (Ar ha (by decide)) (Ar hb (by decide));rw[<-Kc]at h;exact h
theorem fY(l:Un)(i:Nat)(z:Int):(frow (zp l)).set i (fr (z:Rat))=frow (zp (l.set i z)):=by simp[frow,zp,Vs]
theorem Qlw{p:Un}{i:Nat}(h:i<p.length):(zp p)[i]? = some ((p.getD i 0:Int):Rat):=Qw2 (Ru h)
theorem Sl{p:Un}{i:Nat}(h:i<p.length):(frow (zp p))[i]? = some (fr ((p.getD i 0:Int):Rat)):=XK (Qlw h)
theorem OE(p:Un):(frow (zp p)).length=p.length:=by rw[Cg,Ay]
abbrev zR:Us:=[.nils,.bool false,.nils,.bool false]
theorem jP{n i:Nat}(h:i<n):(List.replicate i (fr 0)++List.replicate (n-i) zR).set i (fr 0)=List.replicate (i+1) (fr 0)++List.replicate (n-(i+1)) zR:=by
 rw[List.set_append_right _ _ (by simp),Jd,Ki,show n-i=n-(i+1)+1 by omega,J5 (n:=n-(i+1)),List.set_cons_zero,List.replicate_succ' (n:=i),Zd];rfl
theorem AY(n:Nat):List.replicate n (fr 0)++List.replicate (n-n) zR=frow (zp (List.replicate n 0)):=by simp[zp,frow]
theorem Qt4{p q:Un}{s t:Nat}(hlp:p.length<=1000000)(hlq:q.length<=1000000)(hp:Bd s p)(hq:Bd t q)(hst:s+t<=19000000):Uk 220 [.one (rp (zp p)),.one (rp (zp q))] [.one (rp (zp (Gj p q)))]:=by
 have hpl:=OE p;have hql:=OE q;rcases Q3 p.length with h0|h0
 ·have e:Gj p q=[]:=by unfold Gj;rw[if_pos (.inl h0)]
  rw[e];exact Uh func220 rfl [.g 12 true Um,.t rfl] rfl
 rcases Q3 q.length with h1|h1
 ·have e:Gj p q=[]:=by unfold Gj;rw[if_pos (.inr h1)]
  rw[e];exact Uh func220 rfl [.g 12 false Ul,.T] rfl
 have e:Gj p q=trim (Ap p q (List.replicate (p.length+q.length-1) 0) p.length):=by unfold Gj;rw[if_neg (by omega)]
 rw[e];obtain⟨N,hN⟩:=nmE (p.length+q.length-1);rw[<-hN];obtain⟨o,ho⟩:=nmE (List.replicate N (0:Int));rw[<-ho];have hol:o.length=N:=by rw[ho];simp
 have ho0:∀m,o.getD m 0=0:=λm=>by rw[ho];exact Ch N m
 have cc:=KR (p:=zp (Ap p q o p.length));rw[Ev]at cc;refine Fu func220 rfl ?_;refine Uf [.g 12 false Ul,.F,.r 22 (eI (b:=(N:Int)) (by omega)),.i N,.i N,.r 25 (eI (b:=(N:Int)) (by simp))] rfl ?_;refine Uj (S:=Nat) 1 (λL1 i=>(26,.v (.oi i))::L1) (λi=>[.row false 51 4 (List.replicate i (fr 0)++List.replicate (N-i) zR)]) (λi=>N-i) (λi=>i<=N) 0 (Qh _) rfl rfl λi hi=>?_
 by_cases hlt:i<N
 ·refine Uf [.T,.k Qfr,.i i] rfl ?_;rw[jP hlt];exact rd (i+1) (by omega) hlt rfl
 have hiN:i=N:=by omega
 rw[hiN,AY,<-ho];clear hiN hlt hi;refine Ue [.F] rfl ?_;refine Uj (S:=Nat) 1 (λL1 i=>(36,.v (.oi i))::L1) (λi=>[.row false 51 4 (frow (zp (Ap p q o i)))]) (λi=>p.length-i) (λi=>i<=p.length) 0 (Qh _) rfl rfl λi hi=>?_
 by_cases hlt:i<p.length
 ·refine Ue [.T] rfl ?_;refine Uj (S:=Nat) 1 (λL1 k=>(41,.v (.oi k))::L1) (λk=>[.row false 51 4 (frow (zp (Oe (p.getD i 0) q i (Ap p q o i) k)))]) (λk=>q.length-k) (λk=>k<=q.length) 0 (Qh _) rfl rfl λk hk=>?_
  by_cases hk2:k<q.length
  ·have hm1:Fb ((Oe (p.getD i 0) q i (Ap p q o i) k).getD (i+k) 0)<=20000000:=Qa (Ip (t:=39) (yU (by rw[Lc];omega) (yW (λj hj=>by omega) ho0 (λi j=>Nc (Fq hp i) (Fq hq j))) (λj=>Nc (Fq hp i) (Fq hq j)) (i+k)) (Kh (show i+1<549755813888 by omega) (by decide))) (by omega);have hm2:Fb (p.getD i 0*q.getD k 0)<=20000000:=Qa (Fz _ _) (by have:=Fq hp i;have:=Fq hq k;omega);have hml:(Oe (p.getD i 0) q i (Ap p q o i) k).length=N:=by rw[Of,Lc,hol]
   have cm:=Qeu (a:=p.getD i 0) (b:=q.getD k 0) (Qa (Fq hp i) (by omega)) (Qa (Fq hq k) (by omega));have hfl:=OE (Oe (p.getD i 0) q i (Ap p q o i) k);refine go tt [.T,.i (i+k),.x (Sl (p:=Oe (p.getD i 0) q i (Ap p q o i) k) (i:=i+k) (by omega)),.x (Sl hlt),.x (Sl hk2),.k cm,.k (Qtc hm1 hm2),.i (i+k)] rfl (by simp[U0,hfl,-List.getD_eq_getElem?_getD] <;> omega) ?_;rw[fY];exact rd (k+1) (by omega) hk2 rfl
  ·obtain rfl:k=q.length:=by omega
   exact go tt [.F] rfl (by simp[U0];omega) (rd (i+1) (by omega) hlt rfl)
 ·obtain rfl:i=p.length:=by omega
  exact Ug [.F,.k cc] rfl
def uM(p:Un)(n:Nat):Un:=(List.range n).map λk=>p.getD (k+1) 0*((k+1:Nat):Int)
theorem Qg2(p:Un)(n:Nat):(uM p n).length=n:=by simp[uM]
theorem Qb7(p:Un)(n:Nat):uM p (n+1)=uM p n++[p.getD (n+1) 0*((n+1:Nat):Int)]:=by simp[uM,Wc]
theorem kW(p:Un)(z:Int):frow (zp (p++[z]))=frow (zp p)++[fr (z:Rat)]:=by simp[frow,zp]
theorem Qf3{p:Un}(hp:Bd 40000000 p)(hl:p.length<=1000000):Uk 91 [.one (rp (zp p))] [.one (rp (zp (Gv p)))]:=by
 have hpl:=OE p;have cc:=KR (p:=zp (uM p (p.length-1)));rw[Ev]at cc;refine Fu func91 rfl ?_;refine Ue [.o 3 51 4] rfl ?_;refine Uj (S:=Nat) 1 (λL1 j=>(4,.v (.oi ((j+1:Nat):Int)))::(3,.v (.one (.orow 0 4 none)))::L1) (λj=>[.row false 51 4 (frow (zp (uM p j)))]) (λj=>p.length-j) (λj=>j<=p.length-1) 0 (Qh _) rfl rfl λj hj=>?_
 have hfl:=OE (uM p j);rw[Qg2]at hfl;by_cases h:j+1<p.length
 ·have hk:Fb ((j+1:Nat):Int)<=40000000:=Qa (jE (t:=38) (k:=j+1) (Kh (show j+1<274877906944 by omega) (by decide))) (by decide);refine go tt [.T,.x (Sl h),.k (KF (n:=((j+1:Nat):Int)) (by omega)),.k (Qeu (Fq hp (j+1)) hk),.s (sz:=4) (Qcw _)] rfl (by simp[U0,hfl,-List.getD_eq_getElem?_getD] <;> omega) ?_;exact rd (j+1) (by omega) (by omega) (by rw[Qb7,kW];rfl)
 ·have e:j=p.length-1:=by omega
  rw[e];exact Ug [.F,.k cc] rfl
theorem Qp9:[LV.nils,LV.bool false].map FT=ri 0:=by
 show _=[nd 0,sg 0];unfold nd dl;rw[Hu];rfl
end Orr
namespace Orr
def Hf(p:Un):Int:=p.getD (p.length-1) 0
def EP(a b:Un):Int:=if Hf b<0 then -(Hf a)else Hf a
def WP(a b:Un)(i:Nat):Int:=a.getD i 0*((Hf b).natAbs:Int)-(if a.length-b.length<=i then EP a b*b.getD (i-(a.length-b.length)) 0 else 0)
def tH(a b:Un):Un:=Az a.length (WP a b)
inductive RRun (b:List Int):Nat->List Int->List Int->Prop
 |stop {a:List Int}:a.length<b.length->RRun b 0 a a
 |step {k:Nat} {a r:List Int}:b.length<=a.length->a.length<=1000->Bd 9000000 a->Bd 9000000 b->RRun b k (tH a b) r->RRun b (k+1) a r
def I0(p:Un):Nat->Nat
 | 0=>0
 |i+1=>Int.gcd (I0 p i:Nat) (p.getD i 0)
def US(p:Un):Nat:=I0 p p.length
theorem HB(p:Un):∀{i j:Nat},j<i->((I0 p i:Nat):Int)∣p.getD j 0
 | 0,_,h=>absurd h (Nat.not_lt_zero _)
 |
  i+1,j,h=>by
  simp only[I0];rcases Zb j i with h1|h1
  ·exact V5 (Int.gcd_dvd_left ..) (HB p h1)
  ·rw[show j=i by omega];exact Ww ..
theorem uJ(p:Un)(j:Nat):((US p:Nat):Int)∣p.getD j 0:=by
 rcases Zb j p.length with h|h
 ·exact HB p h
 ·rw[Qi,Qu h];exact Int.dvd_zero _
theorem ZI{s:Nat}{p:Un}(h:Bd s p):∀i,Fb ((I0 p i:Nat):Int)<=s
 | 0=>by simp[I0,M9]
 |
  i+1=>by
  simp only[I0];by_cases h0:p.getD i 0=0
  ·rw[h0,Int.gcd_zero_right];exact ZI h i
  ·have h1:=Ww (I0 p i:Nat) (p.getD i 0);have h2:(Int.gcd (I0 p i:Nat) (p.getD i 0))<=(p.getD i 0).natAbs:=Kv (by omega) (by simpa using X2.2 h1);have h3:=Fq h i;rw[T0]at h3 ⊢;simp only[Xh];omega
theorem Qby{p:Un}{j i:Nat}(hj:j<i)(h:p.getD j 0≠0):0<I0 p i:=by
 have:=HB p hj;rcases Q3 (I0 p i)with h0|h0
 ·rw[h0]at this;exact absurd (Int.zero_dvd.1 this) h
 ·exact h0
theorem uY{p:Un}(ht:Fc p)(h:0<p.length):0<US p:=Qby (j:=p.length-1) (by omega) (H7 ht h)
def Eb(p:Un):Int:=if Hf p<0 then -((US p:Nat):Int)else((US p:Nat):Int)
def Tl(p:Un):Un:=Az p.length λi=>p.getD i 0 / Eb p
def Bi(p:Un):Un:=if Hf p<0 then Mr (Tl p)else Tl p
theorem Qcb(p:Un)(j:Nat):Eb p∣p.getD j 0:=by
 unfold Eb
 split
 ·exact Ud.2 (uJ p j)
 ·exact uJ p j
theorem Qhg{p:Un}(ht:Fc p)(h:0<p.length):Eb p≠0:=by
 have:=uY ht h;unfold Eb
 split <;> omega
theorem OW{s:Nat}{p:Un}(h:Bd s p):Fb (Eb p)<=s:=by
 unfold Eb
 split
 ·rw[Hj];exact ZI h _
 ·exact ZI h _
theorem cM{p:Un}{c:Int}(hc:c≠0)(hd:∀j,c∣p.getD j 0):QE (zp p) (1 / (c:Rat))=zp (Az p.length λi=>p.getD i 0 / c):=by
 unfold QE Az;rw[vP (g:=λi=>p.getD i 0 / c) _ λi _=>?_,Ev,Ay];obtain⟨k,hk⟩:=hd i;have hc':(c:Rat)≠0:=λe=>hc (by exact_mod_cast e)
 rw[NP,hk,Jc _ hc,Xz];grind
theorem BQ{s:Nat}{p:Un}(h:Bd s p):Bd s (Tl p):=JO λi _=>Qa (XS _ _) (Fq h i)
theorem RR(p:Un):(Tl p).length<=p.length:=I4 _ _
theorem Qay{s:Nat}{p:Un}(h:Bd s p):Bd s (Bi p):=by
 unfold Bi
 split
 ·exact MZ (BQ h)
 ·exact BQ h
theorem nC(p:Un):(Bi p).length<=p.length:=by
 unfold Bi
 split
 ·exact Qa (XB _) (RR p)
 ·exact RR p
inductive GRun:Nat->List Int->List Int->List Int->Prop
 |stop (a:List Int):GRun 0 a [] a
 |step {k m:Nat} {a b r g:List Int}:0<b.length->b.length<=1000->Bd 9000000 b->RRun b m a r->r.length<=1000->Bd 9000000 r->Fc r->GRun k b (Tl r) g->GRun (k+1) a b g
theorem GRun.inv{k:Nat}{a b g:Un}(h:GRun k a b g):(k=0/\b.length=0/\a=g)\/∃j m r,k=j+1/\0<b.length/\b.length<=1000/\Bd 9000000 b/\RRun b m a r/\r.length<=1000/\Bd 9000000 r/\Fc r/\GRun j b (Tl r) g:=by
 cases h with
 |stop=>exact .inl ⟨rfl,rfl,rfl⟩
 |step h1 h2 h3 h4 h5 h6 h7 h8=>exact .inr ⟨_,_,_,rfl,h1,h2,h3,h4,h5,h6,h7,h8⟩
def QA(k:Nat)(p:Un):Un:=List.replicate k 0++p
theorem cA(k:Nat)(p:Un):(QA k p).length=k+p.length:=by simp[QA]
theorem Qaz{s k:Nat}{p:Un}(h:Bd s p):Bd s (QA k p):=λz hz=>by
 rcases Qr.1 hz with h1|h1
 ·rw[Zw h1,M9];exact Qh _
 ·exact h z h1
inductive DRun (b:List Int):Nat->List Int->List Int->List Int->List Int->Prop
 |stop {a q:List Int}:a.length<b.length->DRun b 0 a q q a
 |step {k:Nat} {a q qf r:List Int}:b.length<=a.length->a.length<=1000->Bd 9000000 a->Hf b≠0->Hf b∣Hf a->a.length-b.length<q.length ->
  DRun b k (M4 a (QA (a.length-b.length) (Ft b (Hf a / Hf b)))) (q.set (a.length-b.length) (Hf a / Hf b)) qf r->DRun b (k+1) a q qf r
theorem DRun.inv{b a q qf r:Un}{k:Nat}(h:DRun b k a q qf r):(k=0/\q=qf/\a=r/\a.length<b.length)\/∃j,k=j+1/\b.length<=a.length/\a.length<=1000/\Bd 9000000 a/\Hf b≠0/\Hf b∣Hf a/\a.length-b.length<q.length /\
 DRun b j (M4 a (QA (a.length-b.length) (Ft b (Hf a / Hf b)))) (q.set (a.length-b.length) (Hf a / Hf b)) qf r:=by
 cases h with
 |stop h=>exact .inl ⟨rfl,rfl,rfl,h⟩
 |step h1 h2 h3 h4 h5 h6 h7=>exact .inr ⟨_,rfl,h1,h2,h3,h4,h5,h6,h7⟩
def My(l:Uo):Un:=l.getD (l.length-1) []
inductive LRun:Nat->List (List Int)->List (List Int)->Prop
 |stop {l:List (List Int)}:(My l).length<=1->LRun 0 l l
 |step {k m:Nat} {l f:List (List Int)} {g:List Int}:1<(My l).length->(My l).length<=1000->Fc (My l)->Bd 9000000 (My l)->Bd 9000000 (Gv (My l))->GRun m (Tl (My l)) (Tl (Gv (My l))) g->l.length<=1000->LRun k (l++[g]) f->LRun (k+1) l f
theorem LRun.inv{k:Nat}{l f:Uo}(h:LRun k l f):(k=0/\l=f/\(My l).length<=1)\/∃j m g,k=j+1/\1<(My l).length/\(My l).length<=1000/\Fc (My l)/\Bd 9000000 (My l)/\Bd 9000000 (Gv (My l))/\GRun m (Tl (My l)) (Tl (Gv (My l))) g/\l.length<=1000/\LRun j (l++[g]) f:=by
 cases h with
 |stop h=>exact .inl ⟨rfl,rfl,h⟩
 |step h1 h2 h3 h4 h5 h6 h7 h8=>exact .inr ⟨_,_,_,rfl,h1,h2,h3,h4,h5,h6,h7,h8⟩
def DOk(a b q:Un):Prop:=0<b.length/\b.length<=1000/\a.length<=1000/\Bd 9000000 b/\∃qf r n,Bd 9000000 qf/\qf.length<=1000/\DRun b n a (List.replicate (a.length+1-b.length) 0) qf r/\q=trim qf
theorem DOk.bd{a b q:Un}(h:DOk a b q):Bd 9000000 q:=by
 obtain⟨_,_,_,_,qf,r,n,h1,_,_,rfl⟩:=h;exact Tw h1
theorem DOk.len{a b q:Un}(h:DOk a b q):q.length<=1000:=by
 obtain⟨_,_,_,_,qf,r,n,_,h1,_,rfl⟩:=h;exact Qa (H6 _) h1
theorem DOk.trim{a b q:Un}(h:DOk a b q):Fc q:=by
 obtain⟨_,_,_,_,qf,r,n,_,_,_,rfl⟩:=h;exact Rm _
def Qxd(a b c f:Un):Prop:=∃x y z,DOk a b x/\DOk b c y/\DOk (Tl x) (Tl y) z/\f=Tl z
structure FRun(a:List Int)(m:Nat)(f:Nat->List Int):Prop where
 run:∃n l,LRun n [Tl a] l/\l.length=m+1/\∀k,k<m->Qxd ((l++[[1]]).getD k []) ((l++[[1]]).getD (k+1) []) ((l++[[1]]).getD (k+2) []) (f k)
 small:m<=1000
def EA(f:Nat->Un)(n:Nat):Uo:=(List.range n).map f
theorem sJ(f:Nat->Un)(n:Nat):(EA f n).length=n:=by simp[EA]
theorem Qdh(f:Nat->Un)(n:Nat):EA f (n+1)=EA f n++[f n]:=by simp[EA,Wc]
theorem Qk8{f:Nat->Un}{n i:Nat}(h:i<n):(EA f n)[i]? = some (f i):=by simp[EA,X1 h]
theorem nF{l:Uo}{i:Nat}(h:i<l.length):l[i]? = some (l.getD i []):=by
 rw[Qi,Qe h];rfl
def Oq(f:Nat->Un):Nat->Un
 | 0=>[1]
 |i+1=>Gj (Oq f i) (f i)
def Qxc(m:Nat)(f:Nat->Un):Prop:=∀i,i<m->Bd 9000000 (Oq f i)/\(Oq f i).length<=1000/\Bd 9000000 (f i)/\(f i).length<=1000
inductive CRun:Nat->List (List Int)->List Int->List (List Int)->Prop
 |stop {l:List (List Int)} {g:List Int}:g.length=0->CRun 0 l g l
 |step {k m:Nat} {l f:List (List Int)} {g r:List Int}:0<g.length->g.length<=1000->Bd 9000000 g->RRun g m (My l) r->Fc r->Bd 9000000 r->r.length<=1000->0<l.length->l.length<=1000->CRun k (l++[g]) (Mr (Bi r)) f->CRun (k+1) l g f
theorem CRun.inv{k:Nat}{l f:Uo}{g:Un}(h:CRun k l g f):(k=0/\l=f/\g.length=0)\/∃j m r,k=j+1/\0<g.length/\g.length<=1000/\Bd 9000000 g/\RRun g m (My l) r/\Fc r/\Bd 9000000 r/\r.length<=1000/\0<l.length/\l.length<=1000/\CRun j (l++[g]) (Mr (Bi r)) f:=by
 cases h with
 |stop h=>exact .inl ⟨rfl,rfl,h⟩
 |step h1 h2 h3 h4 h5 h6 h7 h8 h9 h10=>exact .inr ⟨_,_,_,rfl,h1,h2,h3,h4,h5,h6,h7,h8,h9,h10⟩
structure ChRun(a:List Int)(sq:List Int)(c:List (List Int)):Prop where
 fac:∃m f,FRun a m f/\Qxc m f/\sq=Oq f m
 L9:∃n,CRun n [sq] (Bi (Gv sq)) c
 bd:Bd 8000000 sq
 len:sq.length<=1000
 small:c.length<=1000
def Qdz(q:Rat)(c:Uo):Prop:=∃sq,ChRun [-q.num,(q.den:Int)] sq c
end Orr
namespace Orr
open Go Go.Proofs Tryz
set_option maxRecDepth 10000
theorem RRun.inv{b a r:Un}{k:Nat}(h:RRun b k a r):(k=0/\a=r/\a.length<b.length)\/(∃j,k=j+1/\b.length<=a.length/\a.length<=1000/\Bd 9000000 a/\Bd 9000000 b/\RRun b j (tH a b) r):=by
 cases h with
 |stop h=>exact .inl ⟨rfl,rfl,h⟩
 |step h1 h2 h3 h4 h5=>exact .inr ⟨_,rfl,h1,h2,h3,h4,h5⟩
theorem Qqe{a b:Un}(ha:Bd 9000000 a):Fb (EP a b)<=9000000:=by
 unfold EP;split
 ·rw[Hj];exact Fq ha _
 ·exact Fq ha _
theorem Qp8(n:Nat):ri (n:Int)=[nd n,.bool false]:=by
 show [nd n,sg (n:Int)]=_;unfold sg;rw[decide_eq_false (by omega)]
def vG(a b:Un)(n:Nat):Un:=(List.range n).map (WP a b)
theorem Qkg(a b:Un)(n:Nat):(vG a b n).length=n:=by simp[vG]
theorem zG(a b:Un)(n:Nat):vG a b (n+1)=vG a b n++[WP a b n]:=by simp[vG,Wc]
theorem lE{a0 b res:Un}{n:Nat}(hb0:0<b.length)(hb1:b.length<=1000)(hbb0:Bd 9000000 b)(hrun:RRun b n a0 res):Uk 158 [.one (rp (zp a0)),.one (rp (zp b))] [.one (rp (zp res))]:=by
 have hbl:=OE b;have hle:Fb (((Hf b).natAbs:Nat):Int)<=9000000:=Fq hbb0 _;refine Fu func158 rfl ?_;refine Uf [.r 15 (eI (b:=((b.length-1:Nat):Int)) (by omega)),.x (Sl (p:=b) (i:=b.length-1) (by omega))] rfl ?_;refine sb [(0,.v (.one (rp (zp a0)))),(1,.v (.one (rp (zp b)))),(5,.v (.one (.ow 0 0))),(6,.v (.one (.ow 1 0)))] [.blk 49 (ri (Hf b)),.blk 49 [nd (Hf b).natAbs,.bool false]] rfl rfl ?_;refine Uj (S:=Nat×Un) 2 (λL1 s=>(0,.v (.one (rp (zp s.2))))::L1) (λ_=>[.blk 49 (ri (Hf b)),.blk 49 [nd (Hf b).natAbs,.bool false]]) (λs=>s.1) (λs=>RRun b s.1 s.2 res) (n,a0) hrun rfl rfl λ⟨k,a⟩ hs=>?_
 have hal:=OE a;have hs:RRun b k a res:=hs;rcases RRun.inv hs with⟨rfl,rfl,h1⟩|⟨j,rfl,h1,h2,ha,hb,hr⟩
 ·exact Ug [.f (decide_eq_false (by dsimp only;omega))] rfl
 obtain⟨K,hK⟩:=nmE (a.length-b.length);have htb:=Qqe (b:=b) ha;have cc:=KR (p:=zp (vG a b a.length));rw[Ev,show trim (vG a b a.length)=tH a b from rfl]at cc;refine Uf [.t (decide_eq_true (by dsimp only;omega)),.r 30 (eI (b:=(K:Int)) (by dsimp only;omega)),.r 34 (eI (b:=((a.length-1:Nat):Int)) (by dsimp only;omega)),.x (Sl (p:=a) (i:=a.length-1) (by omega))] rfl ?_;refine ct 1 (S:=Unit) (λ_=>[(0,.v (.one (rp (zp a)))),(1,.v (.one (rp (zp b)))),(5,.v (.one (.ow 0 0))),(6,.v (.one (.ow 1 0))),(7,.v (.oi K)),(8,.v (.one (.ow 2 0)))]) (λ_=>[.blk 49 (ri (Hf b)),.blk 49 [nd (Hf b).natAbs,.bool false],.blk 49 (ri (EP a b))]) (λ_=>True) rfl ?_ (λ_ _=>?_)
 ·by_cases hn:Hf b<0
  ·have e:EP a b=-(Hf a):=if_pos hn;rw[e];exact go tt [.t (decide_eq_true hn),.k (QX (z:=Hf a))] rfl trivial (rc () trivial rfl)
  ·have e:EP a b=Hf a:=if_neg hn;rw[e];exact go tt [.f (decide_eq_false hn)] rfl trivial (rc () trivial rfl)
 refine Ue [.o 9 51 4] rfl ?_;refine Uj (S:=Nat) 4 (λL1 i=>(44,.v (.oi i))::(9,.v (.one (.orow 3 4 none)))::L1) (λi=>[.blk 49 (ri (Hf b)),.blk 49 [nd (Hf b).natAbs,.bool false],.blk 49 (ri (EP a b)),.row false 51 4 (frow (zp (vG a b i)))]) (λi=>a.length-i) (λi=>i<=a.length) 0 (Qh _) rfl rfl λi hi=>?_
 have hfl:=OE (vG a b i);rw[Qkg]at hfl;by_cases h:i<a.length
 ·have cm:=Ab (a:=a.getD i 0) (b:=(((Hf b).natAbs:Nat):Int)) (Qa (Fq ha i) (by decide)) (by omega);have hm:=Fz (a.getD i 0) (((Hf b).natAbs:Nat):Int);have hai:=Fq ha i;rw[Qp8 (Hf b).natAbs]at cm;by_cases hk:K<=i
  ·have hbi:=Fq hb (i-K);have hm2:=Fz (EP a b) (b.getD (i-K) 0);have e:WP a b i=a.getD i 0*(((Hf b).natAbs:Nat):Int)-EP a b*b.getD (i-K) 0:=by unfold WP;rw[if_pos (by omega),hK]
   refine go tt [.T,.x (Sl h),.k cm,.T,.r 62 (eI (b:=((i-K:Nat):Int)) (by omega)),.x (Sl (p:=b) (i:=i-K) (by omega)),.k (Ab (a:=EP a b) (b:=b.getD (i-K) 0) (by omega) (by omega)),.k (Qfs (by omega) (by omega)),.k (ZD (n:=1) (by decide)),.k (Aa (n:=a.getD i 0*(((Hf b).natAbs:Nat):Int)-EP a b*b.getD (i-K) 0)),.s (sz:=4) (Qcw _)] rfl (by simp[U0,hfl,-List.getD_eq_getElem?_getD] <;> omega) ?_;exact rd (i+1) (by omega) h (by rw[zG,kW,e];rfl)
  ·have e:WP a b i=a.getD i 0*(((Hf b).natAbs:Nat):Int):=by unfold WP;rw[if_neg (by omega),Int.sub_zero]
   refine go tt [.T,.x (Sl h),.k cm,.F,.k (ZD (n:=1) (by decide)),.k (Aa (n:=a.getD i 0*(((Hf b).natAbs:Nat):Int))),.s (sz:=4) (Qcw _)] rfl (by simp[U0,hfl,-List.getD_eq_getElem?_getD] <;> omega) ?_;exact rd (i+1) (by omega) h (by rw[zG,kW,e];rfl)
 ·have e:i=a.length:=by omega
  rw[e];exact go tt [.F,.k cc] rfl trivial (rd (j,tH a b) (by omega) hr rfl)
theorem Qt1:Uk 73 [.agg (ri 1),.agg (ri 1)] [.agg (ri 1)]:=Ab (a:=1) (b:=1) (by decide) (by decide)
theorem Qnl:Uk 138 [.agg (ri 1),.agg (ri 1)] [.agg (ri 1)]:=xI (a:=1) (b:=1) (by decide) (by decide)
theorem Qm2{z:Int}(hz:Fb z<=90000000):Uk 73 [.agg (ri z),.agg (ri 1)] [.agg (ri z)]:=by
 have h:=Ab (a:=z) (b:=1) (by omega) (by decide);rwa[Uc]at h
theorem lR{z:Int}(hz:Fb z<=90000000):Uk 139 [.agg (ri z),.agg (ri 1)] [.agg (ri z)]:=by
 have h:=BC (a:=z) (b:=1) hz (by decide) (by decide) (Int.emod_one z);rwa[Int.ediv_one]at h
theorem Qew{z:Int}:Uk 87 [.agg (fr (z:Rat))] [.agg (fr ((-z:Int):Rat))]:=by
 have h:=Qev (a:=(z:Rat));rwa[<-Vm]at h
theorem Qvx{c:Int}(hc:c≠0)(hs:Fb c<=9000000):Qs 40000000 (((1:Int):Rat) / (c:Rat)):=by
 have h0:(c:Rat)≠0:=λe=>hc (by exact_mod_cast e)
 rw[<-zY h0];unfold Gd;rw[if_neg (Jf (Dh _) (λe=>hc (by simpa using e)))];refine Qs.divInt (by show Fb (1*1)<=_;decide) ?_ (by decide);show Fb (1*c)<=_;rw[Kq];omega
theorem pO{p:Un}{c:Int}(hc:c≠0)(hs:Fb c<=9000000)(hd:∀j,c∣p.getD j 0)(hp:Bd 9000000 p)(hl:p.length<=1000):Uk 221 [.one (rp (zp p)),.agg (fr (((1:Int):Rat) / (c:Rat)))] [.one (rp (zp (Az p.length λi=>p.getD i 0 / c)))]:=by
 have h:=BE ((zK hp (by omega)).mono (by omega)) (Qvx hc hs) (by rw[Ay];omega);rwa[show((1:Int):Rat)=1 from rfl,cM hc hd]at h
theorem QY{p:Un}(tp:Fc p)(hp:Bd 9000000 p)(hl:p.length<=1000):Uk 189 [.one (rp (zp p))] [.agg (fr ((Eb p:Int):Rat)),.one (rp (zp (Tl p)))]:=by
 have hpl:=OE p;rcases Q3 p.length with h0|h0
 ·have e:=Qj h0;subst e;exact Uh func189 rfl [.t rfl,.k Qfr] rfl
 have hc:=Qhg tp h0;refine Fu func189 rfl ?_;refine Ue [.F,.k (ZD (n:=1) (by decide))] rfl ?_;refine Uj (S:=Nat) 2 (λL1 i=>(16,.v (.oi i))::L1) (λi=>[.blk 51 [.nils,.bool false,.nils,.bool false],.blk 49 (ri 1)]) (λi=>p.length-i) (λi=>i<=p.length) 0 (Qh _) rfl rfl λi hi=>?_
 by_cases h:i<p.length
 ·refine Uf [.T,.x (Sl h),.k Qt1,.x (Sl h),.k Qnl,.k (lR (z:=1) (by decide))] rfl ?_;exact rd (i+1) (by omega) h rfl
 refine Ue [.F] rfl ?_;clear h hi;refine nlb 2 rfl rfl rfl ?_;rw[Qp9];refine Uj (S:=Nat) 3 (λL1 i=>(37,.v (.oi i))::L1) (λi=>[.blk 51 [.nils,.bool false,.nils,.bool false],.blk 49 (ri 1),.blk 49 (ri ((I0 p i:Nat):Int))]) (λi=>p.length-i) (λi=>i<=p.length) 0 (Qh _) rfl rfl λi hi=>?_
 by_cases h:i<p.length
 ·have hb:=Fq hp i;have hg:=ZI hp i;refine Uf [.T,.x (Sl h),.k (Qm2 (z:=p.getD i 0) (by omega)),.x (Sl h),.k (lR (z:=p.getD i 0) (by omega)),.k (xI (a:=((I0 p i:Nat):Int)) (b:=p.getD i 0) (by omega) (by omega))] rfl ?_;exact rd (i+1) (by omega) h rfl
 have e:i=p.length:=by omega
 rw[e];have co:=KF (n:=1) (by decide);have cs:=pO hc (OW hp) (Qcb p) hp hl;by_cases hn:Hf p<0
 ·have e2:Eb p=-((US p:Nat):Int):=if_pos hn;rw[show(λi=>p.getD i 0 / Eb p)=λi=>p.getD i 0 / Eb p from rfl]at cs;have cn:=Qew (z:=((US p:Nat):Int));rw[<-e2]at cn;exact Ug [.F,.k (Aa (n:=((US p:Nat):Int))),.r 62 (eI (b:=((p.length-1:Nat):Int)) (by omega)),.x (Sl (p:=p) (i:=p.length-1) (by omega)),.t (decide_eq_true hn),.k cn,.k co,.k (pI (a:=((1:Int):Rat)) (b:=((Eb p:Int):Rat)) ⟨by decide,by decide⟩ (Ar (by have:=OW hp;omega) (by decide)) (λe=>hc (by exact_mod_cast e))),.k cs] rfl rfl (by simp[U0];omega)
 ·have e2:Eb p=((US p:Nat):Int):=if_neg hn;have cm:=Aa (n:=Eb p);rw[e2]at cm cs hc ⊢;exact Ug [.F,.k cm,.r 62 (eI (b:=((p.length-1:Nat):Int)) (by omega)),.x (Sl (p:=p) (i:=p.length-1) (by omega)),.f (decide_eq_false hn),.k co,.k (pI (a:=((1:Int):Rat)) (b:=((((US p:Nat):Int):Int):Rat)) ⟨by decide,by decide⟩ (Ar (by have:=ZI hp p.length;unfold US;omega) (by decide)) (λe=>hc (by exact_mod_cast e))),.k cs] rfl (by unfold Tl;rw[e2];rfl) (by simp[U0];omega)
theorem QJ{p:Un}(tp:Fc p)(hp:Bd 9000000 p)(hl:p.length<=1000):Uk 116 [.one (rp (zp p))] [.one (rp (zp (Tl p)))] :=
 Uh func116 rfl [.k (QY tp hp hl)] rfl
theorem OU{p:Un}(tp:Fc p):Eb p<0↔Hf p<0:=by
 unfold Eb;rcases Q3 p.length with h0|h0
 ·have:=Qj h0;subst this;decide
 ·have:=uY tp h0
  split <;> omega
theorem Qf0{p:Un}(hp:Bd 9000000 p)(hl:p.length<=1000000):Uk 157 [.one (rp (zp p))] [.one (rp (zp (Mr p)))]:=by
 have h:=Qf4 ((zK hp (by decide)).mono (by decide)) (by rw[Ay];exact hl);rwa[oI]at h
theorem wL{p:Un}(tp:Fc p)(hp:Bd 9000000 p)(hl:p.length<=1000):Uk 156 [.one (rp (zp p))] [.one (rp (zp (Bi p)))]:=by
 by_cases hn:Hf p<0
 ·have e:Bi p=Mr (Tl p):=if_pos hn;rw[e];exact Uh func156 rfl [.k (QY tp hp hl),.t (decide_eq_true ((OU tp).2 hn)),.k (Qf0 (BQ hp) (Qa (RR p) (by omega)))] rfl
 ·have e:Bi p=Tl p:=if_neg hn;rw[e];exact Uh func156 rfl [.k (QY tp hp hl),.f (decide_eq_false λh=>hn ((OU tp).1 h))] rfl
end Orr
namespace Orr
section
variable{x d:Int}(hd:0<d)(hg:Int.gcd x d=1)(hx:Fb x<=2000000)(hs:Fb d<=2000000)
include hd in
include hd in
include hd in
include hd hx hs in
include hd hx hs in
include hd hx hs in
include hd hg hx hs in
include hd hg hx hs in
end
end Orr
namespace Orr
open Go Go.Proofs Tryz
set_option maxRecDepth 10000
theorem Qt3{a b g:Un}{n:Nat}(ta:Fc a)(tb:Fc b)(ha:Bd 9000000 a)(hb:Bd 9000000 b)(la:a.length<=1000)(lb:b.length<=1000)(hrun:GRun n (Tl a) (Tl b) g):Uk 161 [.one (rp (zp a)),.one (rp (zp b))] [.one (rp (zp g))]:=by
 refine Fu func161 rfl ?_;refine Ue [.k (QJ ta ha la),.k (QJ tb hb lb)] rfl ?_;refine sb [(0,.v (.one (rp (zp (Tl a))))),(1,.v (.one (rp (zp (Tl b)))))] [] rfl rfl ?_;refine Uj (S:=Nat×Un×Un) 0 (λL1 s=>(0,.v (.one (rp (zp s.2.1))))::(1,.v (.one (rp (zp s.2.2))))::L1) (λ_=>[]) (λs=>s.1) (λs=>GRun s.1 s.2.1 s.2.2 g) (n,Tl a,Tl b) hrun rfl rfl λ⟨k,x,y⟩ hs=>?_
 have hs:GRun k x y g:=hs;have hyl:=OE y;rcases hs.inv with⟨hk,hy0,hxg⟩|⟨j,m2,r,hk,hy0,hy1,hyb,hrr,hrl,hrb,hrt,hgr⟩
 ·rw[<-hxg];exact Ug [.f (decide_eq_false (by dsimp only;omega))] rfl
 ·subst hk;refine Ue [.t (decide_eq_true (by dsimp only;omega)),.k (lE (a0:=x) (b:=y) (res:=r) hy0 hy1 hyb hrr),.k (QJ (p:=r) hrt hrb hrl)] rfl ?_;exact rd (j,y,Tl r) (by dsimp only;omega) hgr rfl
theorem Qm5{x y:Int}(hx:Fb x<=9000000)(hy:Fb y<=9000000)(h0:y≠0)(hd:y∣x):Uk 247 [.agg (fr (x:Rat)),.agg (fr (y:Rat))] [.agg (fr ((x / y:Int):Rat))]:=by
 have hy0:(y:Rat)≠0:=λe=>h0 (by exact_mod_cast e)
 have h:=pI (Ar (s:=40000000) (z:=x) (by omega) (by omega)) (Ar (s:=40000000) (z:=y) (by omega) (by omega)) hy0;obtain⟨k,rfl⟩:=hd;rw[Jc _ h0];rwa[show(((y*k:Int):Rat)) / (y:Rat)=(k:Rat) by rw[Xz];grind]at h
theorem Qbt{p:Un}{c:Int}(hp:Bd 40000000 p)(hc:Fb c<=40000000)(hl:p.length<=1000000):Uk 221 [.one (rp (zp p)),.agg (fr (c:Rat))] [.one (rp (zp (Ft p c)))]:=by
 have h:=BE (zK hp (by omega)) (Ar hc (by omega)) (by rw[Ay];exact hl);rwa[zF]at h
theorem Qqp(k:Nat)(p:Un):frow (zp (List.replicate k 0))++frow (zp p)=frow (zp (QA k p)):=by simp[zp,QA,frow]
theorem Qce(l:Un)(i:Nat)(z:Int):(frow (zp l)).set i [nd ((z:Rat)).num.natAbs,sg ((z:Rat)).num,nd (((z:Rat)).den:Int).natAbs,sg (((z:Rat)).den:Int)]=frow (zp (l.set i z)):=fY l i z
theorem Qnu{p q:Un}(hp:Bd 18000000 p)(hq:Bd 18000000 q)(hlp:p.length<=1000000)(hlq:q.length<=1000000):U5 prog 262 [.one (rp (zp p)),.one (.orow 0 4 none)] [.row false 51 4 (frow (zp q))] [.one (rp (zp (M4 p q)))] [.gone]:=by
 have hn:=Qf4 ((zK hq (by decide)).mono (by decide)) (by rw[Ay];exact hlq);have ha:=Qt2 (p:=zp p) (q:=vU (zp q)) ((zK hp (by decide)).mono (by decide)) ((Qvz (zK hq (by decide))).mono (by decide)) (by rw[Ay];exact hlp) (Qa (Qj9 _) (by rw[Ay];exact hlq));have e:Qc6 (zp p) (vU (zp q))=zp (M4 p q):=Qqd p q;rw[e]at ha;refine Fu func262 rfl ?_;exact Ui [] [0] [.k hn,.k ha] rfl
theorem Qbu{a0 b qf rem:Un}{n:Nat}(hb0:0<b.length)(hb1:b.length<=1000)(hl0:a0.length<=1000)(hbb:Bd 9000000 b)(hqb:Bd 9000000 qf)(hrun:DRun b n a0 (List.replicate (a0.length+1-b.length) 0) qf rem):Uk 230 [.one (rp (zp a0)),.one (rp (zp b))] [.one (rp (zp (trim qf))),.one (rp (zp rem))]:=by
 have h0l:=OE a0;have hbl:=OE b;obtain⟨N,hN⟩:=nmE (a0.length+1-b.length);rw[<-hN]at hrun;have cc:=KR (p:=zp qf);rw[Ev]at cc;refine Fu func230 rfl ?_;refine Uf [.r 18 (eI (b:=(N:Int)) (by omega)),.i N,.i N,.r 21 (eI (b:=(N:Int)) (by simp))] rfl ?_;refine Uj (S:=Nat) 1 (λL1 i=>(22,.v (.oi i))::L1) (λi=>[.row false 51 4 (List.replicate i (fr 0)++List.replicate (N-i) zR)]) (λi=>N-i) (λi=>i<=N) 0 (Qh _) rfl rfl λi hi=>?_
 by_cases hlt:i<N
 ·refine Uf [.T,.k Qfr,.i i] rfl ?_;rw[jP hlt];exact rd (i+1) (by omega) hlt rfl
 have hiN:i=N:=by omega
 rw[hiN,AY];clear hiN hlt hi;refine Ue [.F] rfl ?_;refine sb [(0,.v (.one (rp (zp a0)))),(1,.v (.one (rp (zp b)))),(6,.v (.one (.orow 0 4 none)))] [.row false 51 4 (frow (zp (List.replicate N 0)))] rfl rfl ?_;refine Uj (S:=Nat×Un×Un) 1 (λL1 s=>(0,.v (.one (rp (zp s.2.1))))::L1) (λs=>[.row false 51 4 (frow (zp s.2.2))]) (λs=>s.1) (λs=>DRun b s.1 s.2.1 s.2.2 qf rem/\s.2.2.length=N) (n,a0,List.replicate N 0) ⟨hrun,Jd⟩ rfl rfl λ⟨k,a,q⟩ ⟨hr0,hr1⟩=>?_
 have hr0:DRun b k a q qf rem:=hr0;have hr1:q.length=N:=hr1;have hal:=OE a;have hql:=OE q;rcases hr0.inv with⟨hk,hqf,har,hlt⟩|⟨j,hk,hba,hal2,hab,hpb,hpd,hkq,hrj⟩
 ·subst hqf;subst har;exact Ug [.f (decide_eq_false (by dsimp only;omega)),.k cc] rfl
 subst hk;obtain⟨K,hK⟩:=nmE (a.length-b.length);rw[<-hK]at hrj hkq;have hla:Fb (Hf a)<=9000000:=Fq hab _;have hlb:Fb (Hf b)<=9000000:=Fq hbb _;obtain⟨c,hc⟩:=nmE (Hf a / Hf b);have cq:=Qm5 hla hlb hpb hpd;have hcs:Fb (Hf a / Hf b)<=9000000:=Qa (XS _ _) hla;rw[<-hc]at cq hcs hrj;have hsl:=Fw b c;have hqs:∀x,(q.set K x).length=N:=λx=>by rw[Xd];exact hr1
 dsimp only;refine go tt [.T,.r 39 (eI (b:=(K:Int)) (by omega)),.r 43 (eI (b:=((a.length-1:Nat):Int)) (by omega)),.x (Sl (p:=a) (i:=a.length-1) (by omega)),.r 49 (eI (b:=((b.length-1:Nat):Int)) (by omega)),.x (Sl (p:=b) (i:=b.length-1) (by omega)),.k cq,.i K,.i K,.i K,.r 60 (eI (b:=(K:Int)) (by simp))] rfl (by simp[U0,hql] <;> omega) ?_;rw[Qce];refine Uj (S:=Nat) 3 (λL1 i=>(61,.v (.oi i))::L1) (λi=>[.row false 51 4 (frow (zp (q.set K c))),.blk 51 (fr (c:Rat)),.row false 51 4 (List.replicate i (fr 0)++List.replicate (K-i) zR)]) (λi=>K-i) (λi=>i<=K) 0 (Qh _) rfl rfl λi hi=>?_
 by_cases hlt:i<K
 ·refine Uf [.T,.k Qfr,.i i] rfl ?_;rw[jP hlt];exact rd (i+1) (by omega) hlt rfl
 have hiK:i=K:=by omega
 rw[hiK,AY];clear hiK hlt hi;have hzl:=OE (List.replicate K 0);rw[Jd]at hzl;have hpl:=OE (Ft b c);refine Ue [.F] rfl ?_;refine sb [(10,.v (.one (.orow 2 4 none))),(9,.v (.one (.ow 1 0))),(0,.v (.one (rp (zp a)))),(1,.v (.one (rp (zp b)))),(6,.v (.one (.orow 0 4 none)))] [.row false 51 4 (frow (zp (q.set K c))),.blk 51 (fr (c:Rat)),.row false 51 4 (frow (zp (List.replicate K 0)))] rfl rfl ?_;have p2:=Qnu (p:=a) (q:=QA K (Ft b c)) (U4 hab (by decide)) (U4 (Qaz (Ge hbb hcs)) (by decide)) (by omega) (by rw[cA];omega);rw[<-Qqp]at p2;refine go tt [.k (Qbt (c:=c) (U4 hbb (by decide)) (by omega) (by omega)),.s (sz:=4) (Qcd (zp (Ft b c))),.c [2] p2] rfl (by simp[U0,hzl,hpl];omega) ?_;exact rd (j,M4 a (QA K (Ft b c)),q.set K c) (by dsimp only;omega) ⟨hrj,hqs c⟩ rfl
def sB(l:Uo):Ut:=l.map λp=>[rp (zp p)]
theorem VR(l:Uo):(sB l).length=l.length:=by simp[sB]
theorem HQ(l:Uo)(g:Un):sB l++[[rp (zp g)]]=sB (l++[g]):=by simp[sB]
theorem VH{l:Uo}{i:Nat}(h:i<l.length):(sB l)[i]? = some [rp (zp (l.getD i []))]:=G6 (nF h)
theorem Qpi(x:LV):∀c∈[[x]],c.length=1:=λc hc=>by rw[Qk.1 hc];rfl
theorem BL{a b q:Un}(h:DOk a b q):∃r,Uk 230 [.one (rp (zp a)),.one (rp (zp b))] [.one (rp (zp q)),.one (rp (zp r))]:=by
 obtain⟨h1,h2,h3,h4,qf,r,n,h5,h6,h7,rfl⟩:=h;exact⟨r,Qbu h1 h2 h3 h4 h5 h7⟩
theorem mK{a:Un}{mf:Nat}{f:Nat->Un}(ta:Fc a)(ha:Bd 9000000 a)(la:a.length<=1000)(h2:2<=a.length)(hF:FRun a mf f):Uk 164 [.one (rp (zp a))] [.one (.row (sB (EA f mf)))]:=by
 obtain⟨⟨n,ls,hrun,hlen,hq⟩,hms⟩:=hF;have hal:=OE a;refine Fu func164 rfl ?_;refine Ue [.F,.k (QJ ta ha la),.o 3 87 1,.lo] rfl ?_;refine sb [(3,.v (.one (.orow 0 1 none))),(4,.v (.one (.orow 1 1 none)))] [.row false 87 1 [],.row false 87 1 (sB [Tl a])] rfl rfl ?_;refine Uj (S:=Nat×Uo) 2 (λL1 s=>(4,.v (.one (.orow 1 1 none)))::L1) (λs=>[.row false 87 1 [],.row false 87 1 (sB s.2)]) (λs=>s.1) (λs=>LRun s.1 s.2 ls/\0<s.2.length/\s.2.length<=1001) (n,[Tl a]) ⟨hrun,by show 0<1;decide,by show 1<=1001;decide⟩ rfl rfl λ⟨k,l⟩ ⟨hs1,hs2,hs3⟩=>?_
 have hs1:LRun k l ls:=hs1;have hs2:0<l.length:=hs2;have hs3:l.length<=1001:=hs3;have hll:=VR l;have hlast:(sB l)[l.length-1]? = some [rp (zp (My l))]:=VH (by omega);have hpl:=OE (My l);dsimp only;rcases hs1.inv with⟨hk,hlf,hl1⟩|⟨j,m2,g,hk,hg1,hg2,hg3,hg4,hg5,hg6,hg7,hlr⟩
 ·have hlm:l.length=mf+1:=by rw[hlf];exact hlen
  rw[<-hlf]at hq;have hl2:=VR (l++[[1]]);have hl3:(l++[[1]]).length=mf+2:=by simp[hlm]
  refine go tt [.r 23 (eI (b:=((l.length-1:Nat):Int)) (by omega)),.i (l.length-1),.x hlast,.F,.k Qf5,.s (sz:=1) (Qpi _)] rfl (by simp[U0,hll];omega) ?_;rw[HQ];refine Uj (S:=Nat) 2 (λL1 i=>(6,.v (.oi i))::(3,.v (.one (.orow 0 1 none)))::L1) (λi=>[.row false 87 1 (sB (EA f i)),.row false 87 1 (sB (l++[[1]]))]) (λi=>mf-i) (λi=>i<=mf) 0 (Qh _) rfl rfl λi hi=>?_
  have htl:=VR (EA f i);rw[sJ]at htl;by_cases h:i<mf
  ·obtain⟨x,y,z,hx,hy,hz,hf⟩:=hq i h;obtain⟨rx,hdx⟩:=BL hx;obtain⟨ry,hdy⟩:=BL hy;obtain⟨rz,hdz⟩:=BL hz;refine go tt [.T,.i i,.x (VH (by omega)),.i (i+1),.x (VH (by omega)),.k hdx,.i (i+1),.x (VH (by omega)),.i (i+2),.x (VH (by omega)),.k hdy,.k (QJ hx.trim hx.bd hx.len),.k (QJ hy.trim hy.bd hy.len),.k hdz,.k (QJ hz.trim hz.bd hz.len),.s (sz:=1) (Qpi _)] rfl (by simp[U0,hl2,htl];omega) ?_;exact rd (i+1) (by omega) h (by rw[HQ,Qdh,hf];rfl)
  ·have e:i=mf:=by omega
   rw[e];exact Ug [.F] rfl rfl (by simp[U0];omega)
 ·subst hk;refine go tt [.r 23 (eI (b:=((l.length-1:Nat):Int)) (by omega)),.i (l.length-1),.x hlast,.T,.r 31 (eI (b:=((l.length-1:Nat):Int)) (by omega)),.i (l.length-1),.x hlast,.k (Qf3 (U4 hg4 (by decide)) (by omega)),.k (Qt3 hg3 (Fx _ _) hg4 hg5 hg2 (Qa (Na _) (by omega)) hg6),.s (sz:=1) (Qpi _)] rfl (by simp[U0,hll];omega) ?_;exact rd (j,l++[g]) (by dsimp only;omega) ⟨hlr,by simp,by simp;omega⟩ (by rw[HQ];rfl)
theorem Qbv{a:Un}{mf:Nat}{f:Nat->Un}(ta:Fc a)(ha:Bd 9000000 a)(la:a.length<=1000)(h2:2<=a.length)(hF:FRun a mf f)(hP:Qxc mf f):Uk 155 [.one (rp (zp a))] [.one (rp (zp (Oq f mf)))]:=by
 have hms:=hF.small;have hal:=OE a;have htl:=VR (EA f mf);rw[sJ]at htl;refine Fu func155 rfl ?_;refine Ue [.F,.k Qf5,.k (mK ta ha la h2 hF)] rfl ?_;refine Uj (S:=Nat) 0 (λL1 i=>(15,.v (.oi i))::(3,.v (.one (rp (zp (Oq f i)))))::L1) (λ_=>[]) (λi=>mf-i) (λi=>i<=mf) 0 (Qh _) rfl rfl λi hi=>?_
 by_cases h:i<mf
 ·obtain⟨g1,g2,g3,g4⟩:=hP i h;refine Uf [.T,.x (G6 (f:=λp=>[rp (zp p)]) (Qk8 h)),.k (Qt4 (p:=Oq f i) (q:=f i) (by omega) (by omega) g1 g3 (by decide))] rfl ?_;exact rd (i+1) (by omega) h rfl
 ·have e:i=mf:=by omega
  rw[e];exact Ug [.F] rfl
theorem Qcn{l:Uo}(g:Un)(h:0<l.length):(sB l++[[rp (zp g)]])[l.length-1]? = some [rp (zp (My l))]:=by
 rw[Zi (by rw[VR];omega)];exact VH (by omega)
theorem Qf2{a sq:Un}{c:Uo}(ta:Fc a)(ha:Bd 9000000 a)(la:a.length<=1000)(h2:2<=a.length)(hC:ChRun a sq c):Uk 88 [.one (rp (zp a))] [.one (.row (sB c))]:=by
 obtain⟨⟨mf,f,hF,hP,rfl⟩,⟨n,hcr⟩,hbd,hle,hsm⟩:=hC;refine Fu func88 rfl ?_;refine Ue [.k (Qbv ta ha la h2 hF hP),.lo,.k (Qf3 (p:=Oq f mf) (U4 hbd (by decide)) (by omega)),.k (wL (p:=Gv (Oq f mf)) (Fx _ _) (U4 (xU (t:=10) hbd (by omega)) (by decide)) (Qa (Na _) (by omega)))] rfl ?_;refine sb [(5,.v (.one (rp (zp (Bi (Gv (Oq f mf))))))),(4,.v (.one (.orow 0 1 none)))] [.row false 87 1 (sB [Oq f mf])] rfl rfl ?_;refine Uj (S:=Nat×Uo×Un) 1 (λL1 s=>(5,.v (.one (rp (zp s.2.2))))::(4,.v (.one (.orow 0 1 none)))::L1) (λs=>[.row false 87 1 (sB s.2.1)]) (λs=>s.1) (λs=>CRun s.1 s.2.1 s.2.2 c/\0<s.2.1.length/\s.2.1.length<=1001) (n,[Oq f mf],Bi (Gv (Oq f mf))) ⟨hcr,by show 0<1;decide,by show 1<=1001;decide⟩ rfl rfl λ⟨k,l,g⟩ ⟨hs1,hs2,hs3⟩=>?_
 have hs1:CRun k l g c:=hs1;have hs2:0<l.length:=hs2;have hs3:l.length<=1001:=hs3;have hll:=VR l;have hgl:=OE g;dsimp only;rcases hs1.inv with⟨hk,hlf,hg0⟩|⟨j,m2,r,hk,hg1,hg2,hg3,hrr,hrt,hrb,hrl,hl0,hl1,hcj⟩
 ·subst hlf;exact Ug [.F] rfl
 ·subst hk;refine go tt [.T,.s (sz:=1) (Qpi _),.r 23 (eI (b:=((l.length-1:Nat):Int)) (by simp;omega)),.i (l.length-1),.x (Qcn g hl0),.k (lE (a0:=My l) (b:=g) (res:=r) hg1 hg2 hg3 hrr),.k (wL (p:=r) hrt hrb hrl),.k (Qf0 (p:=Bi r) (Qay hrb) (Qa (nC r) (by omega)))] rfl (by simp[U0,hll];omega) ?_;exact rd (j,l++[g],Mr (Bi r)) (by dsimp only;omega) ⟨hcj,by simp,by simp;omega⟩ (by rw[HQ];rfl)
theorem Qxh{q:Rat}(h1:Fb q.num<=2000000)(h2:Fb (q.den:Int)<=2000000):Bd 9000000 [-q.num,(q.den:Int)]:=λz hz=>by
 simp only[Qm,Jm,or_false]at hz;rcases hz with rfl|rfl
 ·rw[Hj];omega
 ·omega
abbrev aq(q:Rat)(c:Uo):Us:=[rp (zp [-q.num,(q.den:Int)]),.row (sB c)]++fr q++fr q
theorem wC{q:Rat}{c:Uo}(hq:Qs 2000000 q)(hC:Qdz q c):Uk 31 [.agg (fr q)] [.agg (aq q c)]:=by
 obtain⟨sq,hch⟩:=hC;have co:=ZD (n:=1) (by decide);exact Uh func31 rfl [.k co,.k (Aa (n:=q.num)),.k (Qew (z:=q.num)),.k co,.k (Aa (n:=(q.den:Int))),.k (Qf2 (a:=[-q.num,(q.den:Int)]) (Qal q) (Qxh hq.1 hq.2) (by show 2<=1000;decide) (Ql 2) hch)] rfl
end Orr
namespace Orr
theorem mD(z d:Int):(z:Rat) / (d:Rat)=Rat.divInt z d:=by
 by_cases h:d=0
 ·subst h;simp;grind
 ·rw[Jn];have e1:(z:Rat)=Rat.divInt z 1:=by have:=Z1 (z:Rat);simpa using this.symm
  have e2:(d:Rat)⁻¹=Rat.divInt 1 d:=by
   have:(d:Rat)=Rat.divInt d 1:=by have:=Z1 (d:Rat);simpa using this.symm
   rw[this,Rat.inv_divInt]
  rw[e1,e2,K0];simp
end Orr
namespace Orr
open Go Go.Proofs Tryz
set_option maxRecDepth 10000
structure Rs(k:Crv):Prop where
 n:ZM k
 c:Cs 100000 16 k



theorem Qo3(l:Up)(n:Nat):(lm l).take (min l.length n)=lm (l.take n):=by
 rw[lm,lm,<-Jw];rcases Nat.le_total l.length n with h|h
 ·rw[Zx h,Q6,Qo h]
 ·rw[V3 h]
theorem Qtz{l:Up}{n:Nat}(hn:n<=1000):Uk 264 [.one (.row (lm l)),.oi n] [.one (.row (lm (l.take n)))]:=by
 rw[<-Qo3];have hll:(lm l).length=l.length:=by simp[lm]
 exact Uh func264 rfl [.r 9 (eI (b:=((min l.length n:Nat):Int)) (by omega)),.i (min l.length n)] rfl rfl (by simp[U0,hll];omega)
def Ij(l:List RawInt):Ut:=l.map Lz
theorem Oz(l:List RawInt):(Ij l).length=l.length:=by simp[Ij]
abbrev rcw(z:RawPt):Us:=[.row (Ij z.x),.row (Ij z.y),.bool z.d.b,.row (lm z.d.l)]
theorem UG{z:RawInt}(hz:z.Ok){most:Int}(hm:0<=most/\most<=999):Uk 204 [.agg (Lz z),.oi most] [.agg (He (Hz most z))]:=by
 obtain⟨b,l⟩:=z;have hb:=WZ hm.1 ⟨b,l⟩;have hs:Fb (Hz most ⟨b,l⟩)<=100000000:=Qa (T0.2 (show(Hz most ⟨b,l⟩).natAbs<2^10 by omega)) (by decide);cases l with
 |nil=>exact Uh func204 rfl [.t rfl] rfl (by simp[Hz,Lf]) trivial
 |
  cons u l =>
  have hu:=hz.u u (Qx ..);have co:=ZD (n:=Hz most ⟨b,u::l⟩) (by omega);have ct:=Qtv hs;have hr:Int.tmod (u:Int) (most+1)=(u:Int) % (most+1):=Y5 (by omega);have h1:=Ye (u:Int) (b:=most+1) (by omega);have h2:=Jt (u:Int) (b:=most+1) (by omega);cases b with
  |
   true =>
   rw[show Hz most ⟨true,u::l⟩=-((u:Int) % (most+1)) from rfl]at co ct ⊢;exact Uh func204 rfl [.f (decide_eq_false (by simp[lm];try omega)),.x (l:=lm (u::l)) (i:=0) (xs:=[.int .u32 (u:Int)]) rfl,.r 18 (eI hr),.t rfl,.k co,.k ct] rfl rfl (by simp[U0];omega)
  |
   false =>
   rw[show Hz most ⟨false,u::l⟩=(u:Int) % (most+1) from rfl]at co ct ⊢;exact Uh func204 rfl [.f (decide_eq_false (by simp[lm];try omega)),.x (l:=lm (u::l)) (i:=0) (xs:=[.int .u32 (u:Int)]) rfl,.r 18 (eI hr),.f rfl,.k co,.k ct] rfl rfl (by simp[U0];omega)
theorem oz2{P:Program}[Mo P]{n:Nat}{Q:Exit->Sg->Uu->Prop}{L L':Sg}{B B':Uu}(d off T sz:Nat){it:List It}(hs:Ri it=true)(h:cZ (P:=P) d L B [.oc d off T sz]=some (L',B',[],[]))(k:AK P n Q it L' B'):AK P n Q it L B:=AK.sub (EU h EqOk.nil) hs k
theorem pz{P:Program}[Mo P]{n:Nat}{Q:Exit->Sg->Uu->Prop}{L L':Sg}{B B':Uu}(i:Nat){it:List It}(hs:Ri it=true)(h:Qc4 [i] L B=some (L',B'))(k:AK P n Q it L' B'):AK P n Q it L B:=AK.sub (GX h) hs k
def Al(l:Un):Ut:=l.map He
theorem qU(l:Un):(Al l).length=l.length:=by simp[Al]
theorem RB{most:Int}{l:List RawInt}{i:Nat}{a:RawInt}(hi:i<3)(h:l[i]? = some a):Al (Gn most (l.take (i+1)))=Al (Gn most (l.take i))++[He (Hz most a)]:=by
 rw[yJ hi h];simp[Al]
theorem yZ{most:Int}{l:List RawInt}{i:Nat}(hi:i<=3)(h:i<=l.length):(Al (Gn most (l.take i))).length=i:=by
 rw[qU];unfold Gn;rw[List.length_map,List.length_take,List.length_take];omega
def rwq(z:RawPt):Us:=rcw z++[.int .i64 z.id]
end Orr
namespace Orr
open Go Go.Proofs Tryz Orq
set_option maxRecDepth 10000
end Orr
namespace Orr
open Go Go.Proofs Tryz
set_option maxRecDepth 10000
abbrev run1:Crv:=⟨[0,1],[],1⟩
theorem LR:ZM run1:=⟨rfl,rfl,by decide,by decide⟩
theorem cs_run1:Cs 3 3 run1:=by
 refine⟨λz hz=>?_,λz hz=>(by cases hz),by decide,by decide,by decide⟩;rcases Qm.1 hz with rfl|hz
 ·decide
 ·rw[Qk.1 hz];decide
theorem Cs.up{s n s' n':Nat}{k:Crv}(h:Cs s n k)(hs:s<=s')(hn:n<=n'):Cs s' n' k:=⟨U4 h.x hs,U4 h.y hs,Qa h.d hs,Qa h.lx hn,Qa h.ly hn⟩
end Orr
namespace Orr
open Go Go.Proofs Tryz Orq
set_option maxRecDepth 10000
abbrev PH:List Pt:=[⟨run1,1⟩,⟨O2 1 0,2⟩]
theorem Qwu:(Ty (tq 0) PH).map (·.id)=[1,2]:=by decide +kernel
theorem Qqh:Sc run1:=⟨LR,cs_run1.up (by decide) (by decide)⟩
theorem Qze:∀p∈PH,Sc p.c:=λp hp=>by
 rcases Qm.1 hp with rfl|hp
 ·exact Qqh
 ·rw[Qk.1 hp];exact tP (by decide) (by decide)


theorem BN{c:Cr}{l l':List Pt}{r1:Ut×Ut}{ws:List Wt}(hc:CrOk c)(hl:∀p∈l',Sc p.c)(hn:l'.length≤1000)(h:Tj c.l c.now (Fv (IW l' c.now))=some ws) :
 U5 prog 421 [.one (.ow 0 0),.agg [pts l'],.oi 0] [.blk 223 (Tr c (Uz l) r1)] [.oi 0] [.blk 223 (Tr ⟨c.now,ws,c.ev⟩ (Uz l') (pN l' c.now))]:=by
 have hB:=pW hl hn;have cn:=mZ (T:=223) (c:=c) (r0:=Uz l') (r1:=r1) hc.n;have cb:=IP (c:=c) (r1:=r1) hl hn hc.n;have cg:=Qbj (T:=223) (r0:=Uz l') (r1:=pN l' c.now) hc hc.n (Iz hc.n) (Yd 0) (hB.p _ hc.n) (hB.n _ hc.n) h;refine Fu func421 rfl ?_;exact Ui [] [0] [.f rfl,.c [0] cn,.c [0] cb,.c [0] cg] rfl
theorem Qnh{lx ly:Ut}{px py:Un}{x y:LV}{d id:Int}{c:Cr}{l:List Pt}{r1:Ut×Ut}{ws:List Wt}(hx:IsInts lx px)(hy:IsInts ly py)(hd:Gb x y d)(hk:Cs 4294967294 1073741824 (Crv.mk px py d))(hll:l.length<=900)
 (he:WG l ⟨Crv.norm (Crv.mk px py d),id⟩=0) (hc:CrOk c) (hl:∀p∈put l ⟨Crv.norm (Crv.mk px py d),id⟩,Sc p.c) (hn:(put l ⟨Crv.norm (Crv.mk px py d),id⟩).length≤1000) (h:Tj c.l c.now (Fv (IW (put l ⟨Crv.norm (Crv.mk px py d),id⟩) c.now))=some ws) :
 U5 prog 419 [.one (.ow 0 0),.agg [.row lx,.row ly,x,y,.int .i64 id]] [.blk 223 (Tr c (Uz l) r1)] [.oi 0] [.blk 223 (Tr ⟨c.now,ws,c.ev⟩ (Uz (put l ⟨Crv.norm (Crv.mk px py d),id⟩)) (pN (put l ⟨Crv.norm (Crv.mk px py d),id⟩) c.now))]:=by
 have cp:=wR (l:=l) (id:=id) hx hy hd hk (by omega);rw[if_pos he,he]at cp;have cw:=BN (l:=l) (r1:=r1) hc hl hn h;refine Fu func419 rfl ?_;obtain⟨b,l',rfl,rfl,_⟩:=hd;exact Ui [] [0] [.k cp,.c [0] cw] rfl
theorem Qfi{lx ly:Ut}{px py:Un}{x y:LV}{d id:Int}{c:Cr}{l l':List Pt}{r1:Ut×Ut}{ws:List Wt}(hx:IsInts lx px)(hy:IsInts ly py)(hd:Gb x y d)(hk:Cs 4294967294 1073741824 (Crv.mk px py d))(hll:l.length<=1000)(h:has l id=true)(hc:CrOk c)
 (hl':l'=l.set (Rt l id) (Pt.mk (Crv.norm (Crv.mk px py d)) id)) (hs:∀p∈l',Sc p.c) (hw:Tj c.l c.now (Fv (IW l' c.now))=some ws) :
 U5 prog 420 [.one (.ow 0 0),.agg [.row lx,.row ly,x,y,.int .i64 id]] [.blk 223 (Tr c (Uz l) r1)] [.oi 0] [.blk 223 (Tr ⟨c.now,ws,c.ev⟩ (Uz l') (pN l' c.now))]:=by
 have ct1:=UU (l:=l) hx hy hd hk (by omega) h;rw[<-hl']at ct1;have cw:=BN (c:=c) (l:=l) (l':=l') (r1:=r1) hc hs (by rw[hl',Xd];omega) hw;obtain⟨b,r,rfl,rfl,_⟩:=hd;refine Fu func420 rfl ?_;exact Ui [] [0] [.k ct1,.c [0] cw] rfl
theorem Qfh{id:Int}{c:Cr}{l l':List Pt}{r1:Ut×Ut}{ws:List Wt}(hll:l.length<=1000)(h:has l id=true)(hc:CrOk c)
 (hl':l'=l.take (Rt l id)++l.drop (Rt l id+1)) (hs:∀p∈l',Sc p.c) (hw:Tj c.l c.now (Fv (IW l' c.now))=some ws) :
 U5 prog 418 [.one (.ow 0 0),.oi id] [.blk 223 (Tr c (Uz l) r1)] [.oi 0] [.blk 223 (Tr ⟨c.now,ws,c.ev⟩ (Uz l') (pN l' c.now))]:=by
 have ct1:=UK (l:=l) (id:=id) (by omega) h;rw[<-hl']at ct1;have cw:=BN (c:=c) (l:=l) (l':=l') (r1:=r1) hc hs (by rw[hl',Qy,Qq,Q7];omega) hw;refine Fu func418 rfl ?_;exact Ui [] [0] [.k ct1,.c [0] cw] rfl
theorem Qbl{c:Cr}{r0:Ut}{r1:Ut×Ut}:U5 prog 64 [.one (.ow 0 0)] [.blk 223 (Tr c r0 r1)] [.one (.ow 1 0)] [.blk 223 (Tr c r0 r1),.blk 223 (Tr c r0 r1)]:=by
 refine Fu func64 rfl ?_;exact Ui [] [0,1] [] rfl
end Orr
namespace Orq
open Orr Go
def p3j(W:List Pt)(x:Pt)(i j:Nat):List P3:=Lo i W++(H5 j (W.drop (i+1))).map (λm=>(x,m))
def qB(W:List Pt)(x y:Pt)(i j k:Nat):List P3:=Lo i W++(H5 j (W.drop (i+1))++(((W.drop (i+1)).drop (j+1)).take k).map (λz=>(y,z))).map (λm=>(x,m))
theorem LN(W:List Pt)(x:Pt)(i:Nat):p3j W x i 0=Lo i W:=by simp[p3j,H5]
theorem LD(W:List Pt)(x y:Pt)(i j:Nat):qB W x y i j 0=p3j W x i j:=by simp[qB,p3j]
theorem LC{W:List Pt}{x y z:Pt}{i j k:Nat}(h:((W.drop (i+1)).drop (j+1))[k]? = some z):qB W x y i j (k+1)=qB W x y i j k++[(x,y,z)]:=by
 unfold qB;rw[Z2,h];simp
theorem yC{W:List Pt}{x y:Pt}{i j k:Nat}(hy:(W.drop (i+1))[j]? = some y)(hk:((W.drop (i+1)).drop (j+1)).length<=k):qB W x y i j k=p3j W x i (j+1):=by
 unfold qB p3j;rw[Qo hk,Li _ j y hy]
theorem yB{W:List Pt}{x:Pt}{i j:Nat}(hx:W[i]? = some x)(hj:j=(W.drop (i+1)).length):p3j W x i j=Lo (i+1) W:=by
 unfold p3j;rw[hj,VK W i x hx];rfl
theorem Qak{W:List Pt}{i:Nat}(h:i=W.length):Lo i W=Rr W:=by rw[h];rfl
def p4j(W:List Pt)(x:Pt)(i j:Nat):List P4:=Er i W++(Lo j (W.drop (i+1))).map (λm=>(x,m))
def p4k(W:List Pt)(x y:Pt)(i j k:Nat):List P4:=Er i W++(p3j (W.drop (i+1)) y j k).map (λm=>(x,m))
def p4m(W:List Pt)(x y z:Pt)(i j k m:Nat):List P4:=Er i W++(qB (W.drop (i+1)) y z j k m).map (λm=>(x,m))
theorem Qjc(W:List Pt)(x:Pt)(i:Nat):p4j W x i 0=Er i W:=by simp[p4j,Lo]
theorem Qjd(W:List Pt)(x y:Pt)(i j:Nat):p4k W x y i j 0=p4j W x i j:=by unfold p4k p4j;rw[LN]
theorem Qjf(W:List Pt)(x y z:Pt)(i j k:Nat):p4m W x y z i j k 0=p4k W x y i j k:=by unfold p4m p4k;rw[LD]
theorem Qje{W:List Pt}{x y z u:Pt}{i j k m:Nat}(h:(((W.drop (i+1)).drop (j+1)).drop (k+1))[m]? = some u):p4m W x y z i j k (m+1)=p4m W x y z i j k m++[(x,y,z,u)]:=by
 unfold p4m;rw[LC h];simp
theorem Qpn{W:List Pt}{x y z:Pt}{i j k m:Nat}(hz:((W.drop (i+1)).drop (j+1))[k]? = some z)(hm:(((W.drop (i+1)).drop (j+1)).drop (k+1)).length<=m):p4m W x y z i j k m=p4k W x y i j (k+1):=by
 unfold p4m p4k;rw[yC hz hm]
theorem Qpm{W:List Pt}{x y:Pt}{i j k:Nat}(hy:(W.drop (i+1))[j]? = some y)(hk:k=((W.drop (i+1)).drop (j+1)).length):p4k W x y i j k=p4j W x i (j+1):=by
 unfold p4k p4j;rw[yB hy hk]
theorem Qpl{W:List Pt}{x:Pt}{i j:Nat}(hx:W[i]? = some x)(hj:j=(W.drop (i+1)).length):p4j W x i j=Er (i+1) W:=by
 unfold p4j;rw[hj,TZ W i x hx];rfl
theorem Qp4{W:List Pt}{i:Nat}(h:i=W.length):Er i W=Oy W:=by rw[h];rfl
theorem WW:∀(k:Nat) (l:List Pt),∃r,Gq l=H5 k l++r
 | 0,l=>⟨Gq l,rfl⟩
 |k+1,[]=>⟨[],rfl⟩
 |
  k+1,x::l=>by
  obtain⟨r,h⟩:=WW k l;exact⟨r,by show l.map _++H5 l.length l=l.map _++H5 k l++r;rw[show H5 l.length l=Gq l from rfl,h,Zd]⟩
theorem AZ:∀(k:Nat) (l:List Pt),∃r,Rr l=Lo k l++r
 | 0,l=>⟨Rr l,rfl⟩
 |k+1,[]=>⟨[],rfl⟩
 |
  k+1,x::l=>by
  obtain⟨r,h⟩:=AZ k l;exact⟨r,by show(Gq l).map _++Lo l.length l=(Gq l).map _++Lo k l++r;rw[show Lo l.length l=Rr l from rfl,h,Zd]⟩
theorem tQ:∀(k:Nat) (l:List Pt),∃r,Oy l=Er k l++r
 | 0,l=>⟨Oy l,rfl⟩
 |k+1,[]=>⟨[],rfl⟩
 |
  k+1,x::l=>by
  obtain⟨r,h⟩:=tQ k l;exact⟨r,by show(Rr l).map _++Er l.length l=(Rr l).map _++Er k l++r;rw[show Er l.length l=Oy l from rfl,h,Zd]⟩
theorem iL{W:List Pt}(h6:W.length<=6){x y:Pt}{i j k:Nat}(hx:W[i]? = some x)(hy:(W.drop (i+1))[j]? = some y):(qB W x y i j k).length<=20:=by
 have h0:=(VZ h6).1;obtain⟨r,hr⟩:=AZ (i+1) W;rw[VK W i x hx]at hr;obtain⟨r2,hr2⟩:=WW (j+1) (W.drop (i+1));rw[Li _ j y hy]at hr2;have e1:=congrArg List.length hr;have e2:=congrArg List.length hr2;have e3:(((W.drop (i+1)).drop (j+1)).take k).length<=((W.drop (i+1)).drop (j+1)).length:=by rw[Qq];exact Nat.min_le_right _ _
 unfold qB;simp only[Qy,Q8]at e1 e2 ⊢;omega
theorem Qpo{W:List Pt}(h6:W.length<=6){x y z:Pt}{i j k m:Nat}(hx:W[i]? = some x)(hy:(W.drop (i+1))[j]? = some y)(hz:((W.drop (i+1)).drop (j+1))[k]? = some z):(p4m W x y z i j k m).length<=15:=by
 have h0:=(VZ h6).2;obtain⟨r,hr⟩:=tQ (i+1) W;rw[TZ W i x hx]at hr;obtain⟨r1,hr1⟩:=AZ (j+1) (W.drop (i+1));rw[VK _ j y hy]at hr1;obtain⟨r2,hr2⟩:=WW (k+1) ((W.drop (i+1)).drop (j+1));rw[Li _ k z hz]at hr2;have e1:=congrArg List.length hr;have e2:=congrArg List.length hr1;have e4:=congrArg List.length hr2;have e3:((((W.drop (i+1)).drop (j+1)).drop (k+1)).take m).length<=(((W.drop (i+1)).drop (j+1)).drop (k+1)).length:=by rw[Qq];exact Nat.min_le_right _ _
 unfold p4m qB;simp only[Qy,Q8]at e1 e2 e4 ⊢;omega
theorem Qck{sg:Un->Int}(hg:∀p,-1<=Hi sg p/\Hi sg p<=1)(ps:List P3):kN (Aw (ZT sg ps)):=by
 have key:∀(ps:List P3) (M:Nw),kN M->kN ((ZT sg ps).foldl (λM e=>Ly M e.1 (.int .i64 e.2)) M):=by
  intro ps
  induction ps with
  |nil=>intro M h;exact h
  |cons m ps ih=>intro M h;exact ih _ (Qia h (hg _))
 exact key ps [] Qh9
theorem pP(sg:Un->Int)(T:Nw)(ps:List P4):VC (I8 T (VM sg ps)):=by
 have key:∀(ps:List P4) (F:Nw),VC F->VC ((VM sg ps).foldl (λF e=>OF T e.2 e.1 F) F):=by
  intro ps
  induction ps with
  |nil=>intro M h;exact h
  |cons m ps ih=>intro M h;exact ih _ (pS h)
 exact key ps [] Qa1
theorem zZ(p:Un)(q:Rat):-1<=H9 p q/\H9 p q<=1:=by
 rw[Ni];unfold Fe
 split
 ·exact⟨by decide,by decide⟩
 ·split <;> exact⟨by decide,by decide⟩
theorem Qkt{p:Un}{a:Tm}{s:Int}(h:GG p a=some s):-1<=s/\s<=1:=by
 unfold GG at h
 split at h
 ·injection h with h;subst h;exact⟨by decide,by decide⟩
 ·split at h
  ·injection h with h;subst h;exact zZ _ _
  ·obtain⟨g,_,h⟩:=Qd.1 h
   split at h
   ·injection h with h;subst h;exact⟨by decide,by decide⟩
   ·obtain⟨c,_,h⟩:=Qd.1 h;obtain⟨x,_,h⟩:=Qd.1 h;injection h with h;subst h;exact zZ _ _
theorem Qhw(a:Tm)(p:Un):-1<=Hi (Fp a) p/\Hi (Fp a) p<=1:=by
 have hs:∀p,-1<=Fp a p/\Fp a p<=1:=λp=>by
  unfold Fp;cases h:GG p a with
  |none=>exact⟨by decide,by decide⟩
  |some s=>exact Qkt h
 have key:∀(k:Nat) (p:Un),-1<=Tu (Fp a) k p/\Tu (Fp a) k p<=1:=by
  intro k
  induction k with
  |zero=>intro p;exact⟨by simp[Tu],by simp[Tu]⟩
  |
   succ k ih =>
   intro p;simp only[Tu]
   split
   ·exact⟨by decide,by decide⟩
   ·split
    ·exact ih _
    ·exact hs p
 exact key _ p
end Orq
namespace Orr
open Go Go.Proofs Tryz Orq
set_option maxRecDepth 10000
theorem lU{a b c:Pt}{t:Tm}(ha:Sc a.c)(hb:Sc b.c)(hc:Sc c.c)(ht:Va t):Uk 255 [.oi 3,.agg (ta t),.one (.row [Fa a,Fa b,Fa c])] [.agg (Lu (Lb (Fp t) a b c)),.oi 0]:=by
 have hp:=(YW ha hb hc).dp;have e:Lu (Lb (Fp t) a b c)=[.int .i64 3,.int .i64 a.id,.int .i64 b.id,.int .i64 c.id,.int .i64 0,pl (Hg a.c b.c c.c),.int .i64 (Hi (Fp t) (Hg a.c b.c c.c))]:=by rw[Lb]
 rw[e];have cg:=SQ hp ht;have cf:=wG ha hb hc;generalize Hg a.c b.c c.c=F at *;refine Fu func255 rfl ?_;refine Ue [.k Qbq,.f rfl] rfl ?_;refine Uj (S:=Nat) 3 (λL1 i=>(22,.v (.oi i))::L1) (λi=>[.blk 105 (ta t),.blk 99 zCt,.blk 99 [.int .i64 3,.int .i64 (if 1<=i then a.id else 0),.int .i64 (if 2<=i then b.id else 0),.int .i64 (if 3<=i then c.id else 0),.int .i64 0,.nils,.int .i64 0]]) (λi=>3-i) (λi=>i<=3) 0 (Qh _) rfl rfl λi hi=>?_
 rcases(show i=0\/i=1\/i=2\/i=3 by omega)with rfl|rfl|rfl|rfl
 ·refine Ue [.t rfl,.x (i:=0) (xs:=Fa a) rfl,.i 0] rfl ?_ (by simp[U0]);exact rd 1 (by omega) (by omega) rfl
 ·refine Ue [.t rfl,.x (i:=1) (xs:=Fa b) rfl,.i 1] rfl ?_ (by simp[U0]);exact rd 2 (by omega) (by omega) rfl
 ·refine Ue [.t rfl,.x (i:=2) (xs:=Fa c) rfl,.i 2] rfl ?_ (by simp[U0]);exact rd 3 (by omega) (by omega) rfl
 ·exact Ug [.f rfl,.f rfl,.f rfl,.t rfl,.x (i:=0) (xs:=Fa a) rfl,.x (i:=1) (xs:=Fa b) rfl,.x (i:=2) (xs:=Fa c) rfl,.k cf,.k cg] rfl
theorem A7{α:Type}(s:α->α->α->Bool):∀(l acc:List α) (c:α),Pz s acc (l++[c])=c::Ll s c (Pz s acc l)
 | [],_,_=>rfl
 |_::l,_,c=>A7 s l _ c
theorem lM{R:List Pt}{t:Tm}(hR:∀p∈R,Sc p.c)(hn:R.length≤1000000)(ht:Va t):Uk 292 [.agg (ta t),.one (pts R)] [.one (pts (Ph (Fp t) R))]:=by
 have hcl:=G0 R;show Uk 292 [.agg (ta t),.one (.row (Uz R))] [.one (.row (Uz (Pz (FK (Fp t)) [] R).reverse))];obtain⟨s,hs⟩:=nmE (FK (Fp t));have hs':∀a b c,s a b c=decide (0<Hi (Fp t) (Hg a.c b.c c.c)):=λa b c=>by rw[hs];rfl
 rw[<-hs];refine Fu func292 rfl ?_;refine Ue [.o 5 40 5] rfl ?_;refine Uj (S:=Nat) 2 (λL1 i=>(10,.v (.oi i))::(5,.v (.one (.orow 1 5 none)))::L1) (λi=>[.blk 105 (ta t),.row false 40 5 (Uz (Pz s [] (R.take i)).reverse)]) (λi=>R.length-i) (λi=>i<=R.length) 0 (Qh _) rfl rfl λi hi=>?_
 by_cases hlt:i<R.length
 ·obtain⟨c,hc⟩:=gxE (l:=R) (i:=i) hlt;have hcp:=hR c (Qc hc);have hst:Pz s [] (R.take (i+1))=c::Ll s c (Pz s [] (R.take i)):=by rw[Z2,hc];exact A7 s _ _ c
  obtain⟨O,hO⟩:=nmE (Pz s [] (R.take i));have hOl:O.length<=1000000:=by
   have:=KP s (R.take i) [];rw[<-hO,Qq]at this;simp at this;omega
  have hOm:∀x∈O,Sc x.c:=λx hx=>by
   rw[hO]at hx;rcases KN hx with h|h
   ·cases h
   ·exact hR x (Qn h)
  rw[<-hO]at hst ⊢;have hrl:(Uz O.reverse).length=O.length:=by rw[G0,Xp]
  have hm:∀y∈[Fa c],y.length=5:=λy hy=>by rw[Qk.1 hy];rfl
  have hget:∀{pre r:List Pt} {x:Pt},O=pre++x::r->∀j,j=r.length->(Uz O.reverse)[j]? = some (Fa x):=λ{pre r x} e j hj=>by
   refine S4 ?_;rw[e,hj];simp
  have hfin:∀{pre st:List Pt},O=pre++st->Uz (c::st).reverse=(Uz O.reverse).take st.length++[Fa c]:=λ{pre st} e=>by
   rw[e];simp[Uz,Jw,List.take_append]
  have hfull:Uz (c::O).reverse=Uz O.reverse++[Fa c]:=by simp[Uz]
  refine Ue [.t (by simp[hcl];omega),.x (S4 hc)] rfl ?_;refine Uj (S:=Bool×List Pt) 3 (λL1 s=>(5,.v (.one (.orow 1 5 (cond s.1 (some (0,s.2.length)) none))))::L1) (λ_=>[.blk 105 (ta t),.row false 40 5 (Uz O.reverse),.blk 40 (Fa c)]) (λs=>s.2.length) (λst=>(∃pre,O=pre++st.2/\(st.1=false->pre=[]))/\Ll s c st.2=Ll s c O) (false,O) ⟨⟨[],rfl,λ_=>rfl⟩,rfl⟩ rfl rfl λ⟨b,st⟩ ⟨⟨pre,h1,h2⟩,h3⟩=>?_
  have h1:O=pre++st:=h1;have h3:Ll s c st=Ll s c O:=h3;have hl1:O.length=pre.length+st.length:=by rw[h1,Qy]
  have fin:∀{st:List Pt},O=pre++st->Ll s c st=Ll s c O->Ll s c st=st->Uz (Pz s [] (R.take (i+1))).reverse=(Uz O.reverse).take st.length++[Fa c]/\(pre=[]->Uz (Pz s [] (R.take (i+1))).reverse=Uz O.reverse++[Fa c]):=λ{st} e1 e2 e3=>by
   rw[hst,<-e2,e3];refine⟨hfin e1,λhp=>?_⟩;rw[hp]at e1;rw[<-hfull,e1];rfl
  rcases st with _|⟨z,_|⟨y,r⟩⟩
  ·obtain⟨f1,f2⟩:=fin h1 h3 rfl;cases b with
   |
    false =>
    have hp:=h2 rfl;have f2:=f2 hp;rw[hp]at hl1;have hl2:(Uz O.reverse).length<=1:=by rw[hrl,hl1];simp
    refine Uf [.g 17 false Ul,.f rfl,.s (sz:=5) hm] rfl ?_;exact rd (i+1) (by omega) hlt (by rw[f2];rfl)
   |
    true =>
    refine Uf [.g 17 false (decide_eq_false (by simp)),.f rfl,.s (sz:=5) hm] rfl ?_;exact rd (i+1) (by omega) hlt (by rw[f1];rfl)
  ·obtain⟨f1,f2⟩:=fin h1 h3 rfl;cases b with
   |
    false =>
    have hp:=h2 rfl;have f2:=f2 hp;rw[hp]at hl1;have hl2:(Uz O.reverse).length<=1:=by rw[hrl,hl1];simp
    refine Uf [.g 17 false Ul,.f rfl,.s (sz:=5) hm] rfl ?_;exact rd (i+1) (by omega) hlt (by rw[f2];rfl)
   |
    true =>
    refine Uf [.g 17 false (decide_eq_false (by simp)),.f rfl,.s (sz:=5) hm] rfl ?_;exact rd (i+1) (by omega) hlt (by rw[f1];rfl)
  ·have sz:=hOm z (by rw[h1];simp);have sy:=hOm y (by rw[h1];simp);have co:=wG sy sz hcp;have cg:=SQ (YW sy sz hcp).dp ht;have gz:=hget h1 (r.length+1) rfl;have gy:=hget (pre:=pre++[z]) (r:=r) (x:=y) (by rw[h1];simp) r.length rfl;have hl1:O.length=pre.length+(r.length+2):=hl1;have hls:=hs' y z c;by_cases hq:s y z c=true
   ·have hg:¬Hi (Fp t) (Hg y.c z.c c.c)<=0:=by rw[hls]at hq;have:=of_decide_eq_true hq;omega
    obtain⟨f1,f2⟩:=fin h1 h3 (by simp only[Ll];rw[if_pos hq]);cases b with
    |
     false =>
     have hp:=h2 rfl;have f2:=f2 hp;rw[hp]at hl1;have hl2:(Uz O.reverse).length=r.length+2:=by rw[hrl,hl1];simp
     refine Uf [.g 17 true Um,.r 21 (eI (b:=(r.length:Int)) (by omega)),.i r.length,.x gy,.r 28 (eI (b:=((r.length+1:Nat):Int)) (by omega)),.i (r.length+1),.x gz,.k co,.k cg,.f (decide_eq_false hg),.s (sz:=5) hm] rfl ?_;exact rd (i+1) (by omega) hlt (by rw[f2];rfl)
    |
     true =>
     refine Uf [.g 17 true (decide_eq_true (by simp;omega)),.r 21 (eI (b:=(r.length:Int)) (by simp;omega)),.i r.length,.x (l:=Uz O.reverse) (i:=0+r.length) (xs:=Fa y) (by rw[Zy];exact gy),.r 28 (eI (b:=((r.length+1:Nat):Int)) (by simp)),.i (r.length+1),.x (l:=Uz O.reverse) (i:=0+(r.length+1)) (xs:=Fa z) (by rw[Zy];exact gz),.k co,.k cg,.f (decide_eq_false hg),.s (sz:=5) hm] rfl ?_;exact rd (i+1) (by omega) hlt (by rw[f1];rfl)
   ·have hg:Hi (Fp t) (Hg y.c z.c c.c)<=0:=by
     rw[hls]at hq;have:=of_decide_eq_false (Wv.2 hq);omega
    have hpop:Ll s c (y::r)=Ll s c O:=by rw[<-h3];simp only[Ll];rw[if_neg hq]
    have hin:(∃pre',O=pre'++(y::r)/\((true:Bool)=false->pre'=[]))/\Ll s c (y::r)=Ll s c O:=⟨⟨pre++[z],by rw[h1];simp,λh=>by cases h⟩,hpop⟩;cases b with
    |
     false =>
     have hp:=h2 rfl;rw[hp]at hl1;have hl2:(Uz O.reverse).length=r.length+2:=by rw[hrl,hl1];simp
     refine Uf [.g 17 true Um,.r 21 (eI (b:=(r.length:Int)) (by omega)),.i r.length,.x gy,.r 28 (eI (b:=((r.length+1:Nat):Int)) (by omega)),.i (r.length+1),.x gz,.k co,.k cg,.t (decide_eq_true hg),.r 42 (eI (b:=((r.length+1:Nat):Int)) (by omega)),.i (r.length+1)] rfl ?_;exact rd (true,y::r) (by simp) hin rfl
    |
     true =>
     refine Uf [.g 17 true (decide_eq_true (by simp;omega)),.r 21 (eI (b:=(r.length:Int)) (by simp;omega)),.i r.length,.x (l:=Uz O.reverse) (i:=0+r.length) (xs:=Fa y) (by rw[Zy];exact gy),.r 28 (eI (b:=((r.length+1:Nat):Int)) (by simp)),.i (r.length+1),.x (l:=Uz O.reverse) (i:=0+(r.length+1)) (xs:=Fa z) (by rw[Zy];exact gz),.k co,.k cg,.t (decide_eq_true hg),.r 42 (eI (b:=((r.length+1:Nat):Int)) (by simp)),.i (r.length+1)] rfl ?_;exact rd (true,y::r) (by simp) hin rfl
 ·obtain rfl:i=R.length:=by omega
  rw[Q6];exact Ug [.f (by simp[hcl])] rfl
theorem mH{sg:Un->Int}{R:List Pt}(h:R≠[]):0<(Ph sg R).length:=by
 unfold Ph;rw[Xp];obtain⟨x,hx⟩:∃x,R.getLast? = some x:=⟨_,Yq h⟩;obtain⟨l,hl⟩:=Y8.1 hx;rw[hl,A7];simp
theorem rH{α:Type}(s:α->α->α->Bool)(c:α):∀{st:List α},st≠[]->0<(Ll s c st).length
 | [],h=>absurd rfl h
 | [_],_=>by simp[Ll]
 |
  b::a::r,_=>by
  simp only[Ll]
  split
  ·simp
  ·exact rH s c (by simp)
theorem CQ{sg:Un->Int}{R:List Pt}(h:2<=R.length):2<=(Ph sg R).length:=by
 unfold Ph;rw[Xp];obtain⟨x,hx⟩:∃x,R.getLast? = some x:=⟨_,Yq (by intro e;rw[e]at h;simp at h)⟩;obtain⟨l,hl⟩:=Y8.1 hx;have hl0:l≠[]:=by intro e;rw[hl,e]at h;simp at h
 have:=mH (sg:=sg) hl0;unfold Ph at this;rw[Xp]at this;have:=rH (FK sg) x (st:=Pz (FK sg) [] l) (by intro e;rw[e]at this;simp at this);rw[hl,A7,Q5];omega
theorem lI{R:List Pt}{t:Tm}(hR:∀p∈R,Sc p.c)(hn:R.length≤1000000)(ht:Va t):Uk 256 [.agg (ta t),.one (pts R)] [.one (pts (L6 (Fp t) R))]:=by
 have hcl:=G0 R;have hrl:=G0 R.reverse;rw[Xp]at hrl;show Uk 256 [.agg (ta t),.one (.row (Uz R))] [.one (.row (Uz (L6 (Fp t) R)))];refine Fu func256 rfl ?_;by_cases h3:R.length<3
 ·have e:L6 (Fp t) R=R:=if_pos h3;rw[e];exact Ug [.T] rfl
 have c1:=lM hR hn ht;have c2:=lM (R:=R.reverse) (λp hp=>hR p (Jl.1 hp)) (by rw[Xp];exact hn) ht;have p1:=CQ (sg:=Fp t) (R:=R) (by omega);have p2:=CQ (sg:=Fp t) (R:=R.reverse) (by rw[Xp];omega);have k1:=QV (Fp t) R;have k2:=QV (Fp t) R.reverse;rw[Xp]at k2;refine go tt [.F,.o 5 40 5,.r 15 (eI (b:=(R.length:Int)-1-((0:Nat):Int)) (by omega))] rfl (by simp[U0,hcl];omega) ?_;refine Uj (S:=Nat) 2 (λL1 j=>(6,.v (.oi ((R.length:Int)-1-(j:Int))))::(5,.v (.one (.orow 1 5 none)))::L1) (λj=>[.blk 105 (ta t),.row false 40 5 (Uz (R.reverse.take j))]) (λj=>R.length-j) (λj=>j<=R.length) 0 (Qh _) rfl rfl λj hj=>?_
 by_cases hlt:j<R.length
 ·obtain⟨x,hx⟩:=gxE (l:=R) (i:=R.length-1-j) (by omega);have hx':R.reverse[j]? = some x:=by rw[List.getElem?_reverse (by omega)];exact hx
  have hm:∀y∈[Fa x],y.length=5:=λy hy=>by rw[Qk.1 hy];rfl
  have e:Uz (R.reverse.take (j+1))=Uz (R.reverse.take j)++[Fa x]:=by rw[Z2,hx'];simp[Uz]
  have htl:(Uz (R.reverse.take j)).length=j:=by rw[G0,Qq,Xp];omega
  refine go tt [.T,.r 22 (eI (b:=((R.length-1-j:Nat):Int)) (by omega)),.x (S4 hx),.s (sz:=5) hm,.r 19 (eI (b:=(R.length:Int)-1-((j+1:Nat):Int)) (by omega))] rfl (by simp[U0,htl];omega) ?_;exact rd (j+1) (by omega) hlt (by rw[e];rfl)
 ·obtain rfl:j=R.length:=by omega
  rw[Qo (by rw[Xp];exact Ql _)];obtain⟨A,hA⟩:=nmE (Ph (Fp t) R);obtain⟨C,hC⟩:=nmE (Ph (Fp t) R.reverse);have e:L6 (Fp t) R=A.dropLast++C.dropLast:=by rw[hA,hC];exact if_neg h3
  rw[<-hA]at c1 p1 k1;rw[<-hC]at c2 p2 k2;rw[e];have hs:∀y∈(C.map Fa).take (C.length-1),y.length=5:=λy hy=>YO C y (Qn hy)
  have hs2:∀y∈(A.map Fa).take (A.length-1),y.length=5:=λy hy=>YO A y (Qn hy)
  refine Ug [.F,.p 1,.k c1,.k c2,.r 36 (eI (b:=((A.length-1:Nat):Int)) (by simp;omega)),.r 39 (eI (b:=((A.length-1:Nat):Int)) (by simp;omega)),.i (A.length-1),.r 44 (eI (b:=((C.length-1:Nat):Int)) (by simp;omega)),.i (C.length-1),.s (sz:=5) hs] rfl (by simp[Uz,Jw,List.dropLast_eq_take]) ?_;simp only[U0,Qq,Q8]
  and_intros <;> first|exact hs2|omega
theorem TO{l:List Pt}{t:Tm}(hl:∀p∈l,Sc p.c)(hn:l.length≤1000000)(ht:Va t):U5 prog 253 [.agg (ta t),.one (pts l)] [] [.one (.orow 0 7 none)] [.row false 99 7 (Fj (S5 (Fp t) l))]:=by
 have hcl:=G0 l;show U5 prog 253 [.agg (ta t),.one (.row (Uz l))] [] [.one (.orow 0 7 none)] [.row false 99 7 (Fj (S5 (Fp t) l))];refine Fu func253 rfl ?_;refine Ue [.o 5 99 7] rfl ?_;refine Uj (S:=Nat) 2 (λL1 i=>(6,.v (.oi ((i+1:Nat):Int)))::(5,.v (.one (.orow 1 7 none)))::L1) (λi=>[.blk 105 (ta t),.row false 99 7 (Fj ((S5 (Fp t) l).take i))]) (λi=>l.length-i) (λi=>i<=l.length-1) 0 (Qh _) rfl rfl λi hi=>?_
 by_cases hlt:i+1<l.length
 ·obtain⟨a,ha⟩:=gxE (l:=l) (i:=i) (by omega);obtain⟨b,hb⟩:=gxE (l:=l) (i:=i+1) hlt;have hg:=TK (Fp t) ha hb;have hm:∀y∈[Lu (QC (Fp t) a b)],y.length=7:=λy hy=>by rw[Qk.1 hy];rfl
  refine go tt [.t (by simp[hcl];omega),.r 19 (eI (b:=(i:Int)) (by simp)),.x (S4 ha),.x (S4 hb),.k (lW (hl a (Qc ha)) (hl b (Qc hb)) ht),.s (sz:=7) hm,.r 14 (eI (b:=((i+1+1:Nat):Int)) (by simp))] rfl (by simp[U0,G0,Nx,Bw];omega) ?_;exact rd (i+1) (by omega) (by omega) (by rw[hg];simp[Fj];rfl)
 ·have e:(S5 (Fp t) l).take i=S5 (Fp t) l:=Qo (by rw[Bw];omega);rw[e];exact Ui [] [1] [.f (by simp[hcl];omega)] rfl
theorem uD{C:List Pt}{i:Nat}{a b:Pt}(ha:C[i]? = some a)(hb:C[(i+1) % C.length]? = some b):(Rp C)[i]? = some (a,b):=by
 have hi:=(Qf.1 ha).1;unfold Rp;rw[List.getElem?_zip_eq_some];refine⟨ha,?_⟩;by_cases h:i+1<C.length
 ·rw[Xt h]at hb;rw[Zi (by rw[Q7];omega),Xc,Jv];exact hb
 ·have e:i+1=C.length:=by omega
  rw[e,Nat.mod_self]at hb;rw[Z8 (by rw[Q7];omega),Q7,show i-(C.length-1)=0 by omega,Kf (by omega)];exact hb
theorem uL(C:List Pt):(Rp C).length=C.length:=by
 unfold Rp;rw[List.length_zip,Qy,Q7,Qq];omega
theorem EO{α β:Type}{f:α->List β}{l:List α}{i:Nat}{x:α}(h:l[i]? = some x):(l.take (i+1)).flatMap f=(l.take i).flatMap f++f x:=by
 rw[Z2,h];simp
theorem TR{α β:Type}{f:α->β}{p:α->Bool}{l:List α}{i:Nat}{x:α}(h:l[i]? = some x):((l.take (i+1)).filter p).map f=((l.take i).filter p).map f++if p x=true then [f x]else []:=by
 rw[Z2,h,Vj,Yh];congr 1;simp only[Option.toList];by_cases hp:p x=true
 ·rw[if_pos hp,X4 hp];rfl
 ·rw[if_neg hp,Jz hp];rfl
theorem fZ{α β:Type}{f:α->List β}{n:Nat}(hf:∀x,(f x).length<=n)(l:List α):(l.flatMap f).length<=l.length*n:=KL f n l λx _=>hf x
theorem Qar{l:List Pt}(hl:∀p∈l,Sc p.c):∀p∈l,Qaw 4294967294 1073741824 p:=λp hp=>⟨(hl p hp).n,(hl p hp).c.mono (by decide) (by decide)⟩
set_option maxHeartbeats 4000000 in
theorem IR{l:List Pt}{a:Tm}{c:Cr}{r1:Ut}(hl:∀p∈l,Sc p.c)(hn:l.length≤10)(ha:Va a):U5 prog 197 [.one (.ow 0 0),.agg (ta a)] [.blk 225 (Hl c (Uz l) r1)] [.one (.row (Fj (AU l a)))] [.blk 225 (Hl c (Uz l) (brH l a))]:=by
 have hwl:=O5 l;have cw:=mX (l:=l) (Qar hl) (by omega);have cr:=wT (l:=Tn l) (λp hp=>hl p (No hp)) (by omega) ha;have cn:=lI (R:=Ty a (Tn l)) (λp hp=>hl p (No (Hp.1 hp))) (by rw[Nk];omega) ha;have cr2:=wT hl (by omega) ha;have cc:=TO (l:=Ty a l) (t:=a) (λp hp=>hl p (Hp.1 hp)) (by rw[Nk];omega) ha;have hCm:∀p∈Pe l a,p∈l:=λp hp=>I1 hp
 have hCl:=YK l a;have e0:AU l a=ZB l a++Ba (Fp a) l (Pe l a):=rfl;rw[e0];show U5 prog 197 _ _ _ [.blk 225 (Hl c (Uz l) (Uz (Pe l a)))];have cn:Uk 256 [.agg (ta a),.one (pts (Ty a (Tn l)))] [.one (pts (Pe l a))]:=cn;have cc:U5 prog 253 [.agg (ta a),.one (pts (Ty a l))] [] [.one (.orow 0 7 none)] [.row false 99 7 (Fj (ZB l a))]:=cc;have hbl:(ZB l a).length<=10:=by unfold ZB;rw[Bw,Nk];omega
 obtain⟨C,hC⟩:=nmE (Pe l a);obtain⟨cs0,hc0⟩:=nmE (ZB l a);rw[<-hC]at cn hCm hCl ⊢;rw[<-hc0]at cc hbl ⊢;have hcp:=G0 C;have hlp:=G0 l;have eel:∀x,(Af (Fp a) l x).length<=l.length:=λx=>by unfold Af;rw[List.length_map];exact List.length_filter_le _ _
 refine Fu func197 rfl ?_;refine Ue [.k cw,.k cr,.k cn,.k Il,.k cr2,.c [2] cc] rfl ?_;by_cases h2:C.length<2
 ·have e:Ba (Fp a) l C=[]:=if_pos h2;rw[e,Zv];exact Ui [2] [0] [.t (decide_eq_true (by simp;omega))] rfl
 have e:Ba (Fp a) l C=(Rp C).flatMap (Af (Fp a) l):=if_neg h2;rw[e];refine Ue [.f (decide_eq_false (by simp;omega))] rfl ?_;refine sb [(48,.v (.oi 0)),(47,.v (.oi ((C.map Fa).length:Int))),(46,.v (.one (pts C))),(6,.v (.one (.orow 2 7 none))),(3,.v (.one (.ow 1 0))),(0,.v (.one (.ow 0 0)))] [.blk 225 (Hl c (Uz l) (Uz C)),.blk 105 (ta a),.row false 99 7 (Fj cs0)] rfl rfl ?_;rw[show Fj cs0=Fj (cs0++((Rp C).take 0).flatMap (Af (Fp a) l)) by simp];refine Uj (S:=Nat) 3 (λL1 i=>(48,.v (.oi i))::(6,.v (.one (.orow 2 7 none)))::L1) (λi=>[.blk 225 (Hl c (Uz l) (Uz C)),.blk 105 (ta a),.row false 99 7 (Fj (cs0++((Rp C).take i).flatMap (Af (Fp a) l)))]) (λi=>C.length-i) (λi=>i<=C.length) 0 (Qh _) rfl rfl λi hi=>?_
 by_cases hlt:i<C.length
 ·obtain⟨x,hx⟩:=gxE (l:=C) (i:=i) hlt;obtain⟨y,hy⟩:=gxE (l:=C) (i:=(i+1) % C.length) (Z5 _ (by omega));have he:=uD hx hy;have sx:=hl x (hCm x (Qc hx));have sy:=hl y (hCm y (Qc hy));have hflat:=EO (f:=Af (Fp a) l) he;obtain⟨F,hF⟩:=nmE (cs0++((Rp C).take i).flatMap (Af (Fp a) l));have hFl:F.length<=10+20*10:=by
   have h1:=fZ eel ((Rp C).take i);have h2:((Rp C).take i).length*l.length<=20*10:=Zc (by rw[Qq];omega) hn;rw[hF,Qy];omega
  have hmod:(((i+1:Nat):Int)).tmod ((C.map Fa).length:Int)=(((i+1) % C.length:Nat):Int):=by rw[Q8];exact(Int.ofNat_tmod _ _).symm
  have hm0:=Ye ((i+1:Nat):Int) (show(C.length:Int)≠0 by omega);have hm1:=Jt ((i+1:Nat):Int) (show(0:Int)<C.length by omega);have hnext:cs0++((Rp C).take (i+1)).flatMap (Af (Fp a) l)=F++(l.filter (VP (x,y))).map λc=>Lb (Fp a) x y c:=by rw[hflat,<-Zd,<-hF];rfl
  rw[<-hF];refine go tt [.t (decide_eq_true (by simp;omega)),.x (S4 hx),.r 58 (eI (b:=((i+1:Nat):Int)) (by simp)),.r 64 (eI (b:=(((i+1) % C.length:Nat):Int)) hmod),.x (S4 hy),.k Il] rfl (by simp only[U0];omega) ?_;rw[show Fj F=Fj (F++((l.take 0).filter (VP (x,y))).map λc=>Lb (Fp a) x y c) by simp];refine Uj (S:=Nat) 5 (λL1 k=>(73,.v (.oi k))::(6,.v (.one (.orow 2 7 none)))::L1) (λk=>[.blk 225 (Hl c (Uz l) (Uz C)),.blk 105 (ta a),.row false 99 7 (Fj (F++((l.take k).filter (VP (x,y))).map λc=>Lb (Fp a) x y c)),.blk 40 (Fa x),.blk 40 (Fa y)]) (λk=>l.length-k) (λk=>k<=l.length) 0 (Qh _) rfl rfl λk hk=>?_
  by_cases hlk:k<l.length
  ·obtain⟨z,hz⟩:=gxE (l:=l) (i:=k) hlk;have sz:=hl z (Qc hz);have hflt:=TR (f:=λc=>Lb (Fp a) x y c) (p:=VP (x,y)) hz;obtain⟨G,hG⟩:=nmE (((l.take k).filter (VP (x,y))).map λc=>Lb (Fp a) x y c);have hGl:G.length<=10:=by
    have h1:=Y0 (VP (x,y)) (l.take k);rw[Qq]at h1;rw[hG,Q8];omega
   rw[<-hG]at hflt ⊢;by_cases h1:z.id=x.id
   ·rw[if_neg (show ¬VP (x,y) z=true by simp[VP,h1]),Zv]at hflt;refine Uf [.t (decide_eq_true (by simp;omega)),.x (S4 hz),.g 82 false (decide_eq_false (by simp[h1])),.f rfl] rfl ?_;exact rd (k+1) (by omega) hlk (by rw[hflt];rfl)
   ·by_cases h2:z.id=y.id
    ·rw[if_neg (show ¬VP (x,y) z=true by simp[VP,h2]),Zv]at hflt;refine Uf [.t (decide_eq_true (by simp;omega)),.x (S4 hz),.g 82 true (decide_eq_true h1),.f (decide_eq_false (by simp[h2]))] rfl ?_;exact rd (k+1) (by omega) hlk (by rw[hflt];rfl)
    ·rw[if_pos (show VP (x,y) z=true by simp[VP,h1,h2])]at hflt;have hm:∀q∈[Lu (Lb (Fp a) x y z)],q.length=7:=λq hq=>by rw[Qk.1 hq];rfl
     refine go tt [.t (decide_eq_true (by simp;omega)),.x (S4 hz),.g 82 true (decide_eq_true h1),.t (decide_eq_true h2),.k (lU sx sy sz ha),.s (sz:=7) hm] rfl (by simp[U0,Nx];omega) ?_;have e3:Fj (F++(G++[Lb (Fp a) x y z]))=Fj (F++G)++[Lu (Lb (Fp a) x y z)]:=by simp[Fj]
     exact rd (k+1) (by omega) hlk (by rw[hflt,e3];rfl)
  ·obtain rfl:k=l.length:=by omega
   rw[Q6,<-hnext];refine Uf [.f (decide_eq_false (by simp))] rfl ?_;exact rd (i+1) (by omega) hlt rfl
 ·obtain rfl:i=C.length:=by omega
  rw[Qo (by rw[uL];exact Ql _)];exact Ui [2] [0] [.f (decide_eq_false (by simp))] rfl
theorem ozM{P:Program}[Mo P]{n:Nat}{Q:Exit->Sg->Uu->Prop}{L L':Sg}{B B':Uu}(d off T sz:Nat){it:List It}(hs:Ri it=true)(h:cZ (P:=P) d L B [.oc d off T sz]=some (L',B',[],[]))(k:AK P n Q it L' B'):AK P n Q it L B:=AK.sub (EU h EqOk.nil) hs k
theorem xE{k:Crv}(hk:Sc k):Uk 279 [.agg (cl k)] [.one (.row (JH (ZV k)))]:=by
 have ok:=FC hk.n hk.c;have l1:=Tv k.x k.x;have l2:=Tv k.y k.y;have:=hk.c.lx;have:=hk.c.ly;have bx:Bd 258 (Gj k.x k.x):=Pg (u:=2) hk.c.x hk.c.x (by omega);have by_:Bd 258 (Gj k.y k.y):=Pg (u:=2) hk.c.y hk.c.y (by omega);have c1:=Pn (p:=k.x) (c:=k.d) (by omega) (U4 hk.c.x (by decide)) (Qa hk.c.d (by decide));have c2:=Pn (p:=k.y) (c:=k.d) (by omega) (U4 hk.c.y (by decide)) (Qa hk.c.d (by decide));have c3:=KG (p:=k.x) (q:=k.x) hk.n.1 hk.n.1 (by omega) (by omega) hk.c.x hk.c.x (by decide);have c4:=KG (p:=k.y) (q:=k.y) hk.n.2.1 hk.n.2.1 (by omega) (by omega) hk.c.y hk.c.y (by decide);have c5:=BF (p:=Gj k.x k.x) (q:=Gj k.y k.y) (by omega) (by omega) (U4 bx (by decide)) (U4 by_ (by decide));have c6:=Px (U3 k.d) (U3 k.d) (Qa hk.c.d (by decide)) (Qa hk.c.d (by decide));have hl:∀p∈ZV k,p.length≤1000000:=λp hp=>by
  obtain⟨j,hj⟩:=Xu hp;have h1:=ok.2 j p hj;have:[2,2,4,0].getD j 0<=4:=by
   match j with
   | 0=>decide
   | 1=>decide
   | 2=>decide
   | 3=>decide
   |j+4=>simp
  omega
 have cd:=Qef (r:=ZV k) (λp hp=>(ok.1 p hp).1) (λp hp=>U4 (ok.1 p hp).2 (by decide)) hl (by show 4<=1000;decide);exact Uh func279 rfl [.k (Dt hk.n (hk.c.mono (by decide) (by decide))),.k c1,.k c2,.k c3,.k c4,.k c5,.k c6,.k cd] rfl
theorem Qeo{a b c d:Crv}(ha:Sc a)(hb:Sc b)(hc:Sc c)(hd:Sc d):Uk 238 [.agg (cl a),.agg (cl b),.agg (cl c),.agg (cl d)] [pr (VO a b c d)]:=by
 have cd:=Qro (by decide) (k:=4) (ds:=[2,2,4,0]) (by decide) rfl (by decide) (tI ha.n hb.n hc.n hd.n ha.c hb.c hc.c hd.c);exact Uh func238 rfl [.k (xE ha),.k (xE hb),.k (xE hc),.k (xE hd),.k cd] rfl
set_option maxHeartbeats 1000000 in
theorem Qmz{a b c d:Pt}{t:Tm}(ha:Sc a.c)(hb:Sc b.c)(hc:Sc c.c)(hd:Sc d.c)(ht:Va t):Uk 255 [.oi 4,.agg (ta t),.one (.row [Fa a,Fa b,Fa c,Fa d])] [.agg (Lu (qH (Fp t) a b c d)),.oi 0]:=by
 have hp:=(eD ha hb hc hd).dp;have e:Lu (qH (Fp t) a b c d)=[.int .i64 4,.int .i64 a.id,.int .i64 b.id,.int .i64 c.id,.int .i64 d.id,pl (VO a.c b.c c.c d.c),.int .i64 (Hi (Fp t) (VO a.c b.c c.c d.c))]:=by rw[qH]
 rw[e];have cg:=SQ hp ht;have cf:=Qeo ha hb hc hd;generalize VO a.c b.c c.c d.c=F at *;refine Fu func255 rfl ?_;refine Ue [.k Qbr,.f rfl] rfl ?_;refine Uj (S:=Nat) 3 (λL1 i=>(22,.v (.oi i))::L1) (λi=>[.blk 105 (ta t),.blk 99 zCt,.blk 99 [.int .i64 4,.int .i64 (if 1<=i then a.id else 0),.int .i64 (if 2<=i then b.id else 0),.int .i64 (if 3<=i then c.id else 0),.int .i64 (if 4<=i then d.id else 0),.nils,.int .i64 0]]) (λi=>4-i) (λi=>i<=4) 0 (Qh _) rfl rfl λi hi=>?_
 rcases(show i=0\/i=1\/i=2\/i=3\/i=4 by omega)with rfl|rfl|rfl|rfl|rfl
 ·refine Ue [.t rfl,.x (i:=0) (xs:=Fa a) rfl,.i 0] rfl ?_ (by simp[U0]);exact rd 1 (by omega) (by omega) rfl
 ·refine Ue [.t rfl,.x (i:=1) (xs:=Fa b) rfl,.i 1] rfl ?_ (by simp[U0]);exact rd 2 (by omega) (by omega) rfl
 ·refine Ue [.t rfl,.x (i:=2) (xs:=Fa c) rfl,.i 2] rfl ?_ (by simp[U0]);exact rd 3 (by omega) (by omega) rfl
 ·refine Ue [.t rfl,.x (i:=3) (xs:=Fa d) rfl,.i 3] rfl ?_ (by simp[U0]);exact rd 4 (by omega) (by omega) rfl
 ·exact Ug [.f rfl,.f rfl,.f rfl,.f rfl,.t rfl,.x (i:=0) (xs:=Fa a) rfl,.x (i:=1) (xs:=Fa b) rfl,.x (i:=2) (xs:=Fa c) rfl,.x (i:=3) (xs:=Fa d) rfl,.k cf,.k cg] rfl
def fQ(T:Nw)(s:Int)(n:Un)(F:Nw)(k:Nat):Nw:=(List.range k).foldl (I5 T s n) F
theorem nJ(T:Nw)(s:Int)(n:Un)(F:Nw)(k:Nat):fQ T s n F (k+1)=I5 T s n (fQ T s n F k) k:=by unfold fQ;rw[List.range_succ,List.foldl_append];rfl
theorem nX(T:Nw)(s:Int)(n:Un)(F:Nw):fQ T s n F 4=OF T s n F:=rfl
set_option maxHeartbeats 4000000 in
theorem Qty{F T:Nw}{s n0 n1 n2 n3:Int}(hT:kN T)(hs:-1<=s/\s<=1):U5 prog 261 [.one (.omap 0),.one (.omap 1),.oi s,.agg [.int .i64 n0,.int .i64 n1,.int .i64 n2,.int .i64 n3]] [.mpb F,.mpb T] [] [.mpb (OF T s [n0,n1,n2,n3] F),.mpb T]:=by
 have hm:Ql4 T:=λk=>(hT k).1
 have hb:=λ(k:Un) (x:Int) (hx:-1<=x/\x<=1)=>Qcr (hT k).2 hx
 rw[<-nX];obtain⟨f,hf⟩:=nmE (fQ T s [n0,n1,n2,n3] F);have f0:F=f 0:=by rw[hf];rfl
 have fs:∀k,f (k+1)=I5 T s [n0,n1,n2,n3] (f k) k:=λk=>by rw[hf];exact nJ ..
 rw[<-hf];rw[f0];clear hf f0;refine Fu func261 rfl ?_;refine Ue [] rfl ?_;refine Uj (S:=Nat) 3 (λL1 k=>(14,.v (.oi k))::L1) (λk=>[.mpb (f k),.mpb T,.blk 95 [.int .i64 n0,.int .i64 n1,.int .i64 n2,.int .i64 n3]]) (λk=>4-k) (λk=>k<=4) 0 (by decide) rfl rfl λk hk=>?_
 rcases(show k=0\/k=1\/k=2\/k=3\/k=4 by omega)with rfl|rfl|rfl|rfl|rfl
 ·have e1:=fs 0;have e2:I5 T s [n0,n1,n2,n3] (f 0) 0=if ZH T [n1,n2,n3]*(-s)>0 then Ly (f 0) [n1,n2,n3] (.bool true)else f 0:=rfl
  rw[e2]at e1;refine Ue [.t rfl] rfl ?_;refine Uj (S:=Nat) 4 (λL1 i=>(18,.v (.oi i))::(10,.v (.oi (if i<=0 then(i:Int)else(i:Int)-1)))::L1) (λi=>[.mpb (f 0),.mpb T,.blk 95 [.int .i64 n0,.int .i64 n1,.int .i64 n2,.int .i64 n3],.blk 84 [.int .i64 (if 2<=i then n1 else 0),.int .i64 (if 3<=i then n2 else 0),.int .i64 (if 4<=i then n3 else 0)]]) (λi=>4-i) (λi=>i<=4) 0 (by decide) rfl rfl λi hi=>?_
  rcases(show i=0\/i=1\/i=2\/i=3\/i=4 by omega)with rfl|rfl|rfl|rfl|rfl
  ·refine Ue [.t rfl,.i 0,.f rfl] rfl ?_ (by simp[U0]);exact rd 1 (by omega) (by omega) rfl
  ·refine Ue [.t rfl,.i 1,.t rfl,.i 0] rfl ?_ (by simp[U0]);exact rd 2 (by omega) (by omega) rfl
  ·refine Ue [.t rfl,.i 2,.t rfl,.i 1] rfl ?_ (by simp[U0]);exact rd 3 (by omega) (by omega) rfl
  ·refine Ue [.t rfl,.i 3,.t rfl,.i 2] rfl ?_ (by simp[U0]);exact rd 4 (by omega) (by omega) rfl
  ·have hbb:=hb [n1,n2,n3] (-s) (by omega);by_cases hc:ZH T [n1,n2,n3]*(-s)>0
   ·rw[if_pos hc]at e1;refine go tt [.f rfl,.t rfl,.t (decide_eq_true hc)] rfl (by simp only[U0];first|exact⟨⟨by omega,by omega⟩,hbb,hm,⟨by omega,by omega⟩,by decide,by omega,by omega⟩|exact⟨⟨by omega,by omega⟩,hbb,hm,by decide,by omega,by omega⟩) ?_;exact rd 1 (by omega) (by omega) (by rw[e1];rfl)
   ·rw[if_neg hc]at e1;refine go tt [.f rfl,.t rfl,.f (decide_eq_false hc)] rfl (by simp only[U0];first|exact⟨⟨by omega,by omega⟩,hbb,hm,⟨by omega,by omega⟩,by decide,by omega,by omega⟩|exact⟨⟨by omega,by omega⟩,hbb,hm,by decide,by omega,by omega⟩) ?_;exact rd 1 (by omega) (by omega) (by rw[e1];rfl)
 ·have e1:=fs 1;have e2:I5 T s [n0,n1,n2,n3] (f 1) 1=if ZH T [n0,n2,n3]*s>0 then Ly (f 1) [n0,n2,n3] (.bool true)else f 1:=rfl
  rw[e2]at e1;refine Ue [.t rfl] rfl ?_;refine Uj (S:=Nat) 4 (λL1 i=>(18,.v (.oi i))::(10,.v (.oi (if i<=1 then(i:Int)else(i:Int)-1)))::L1) (λi=>[.mpb (f 1),.mpb T,.blk 95 [.int .i64 n0,.int .i64 n1,.int .i64 n2,.int .i64 n3],.blk 84 [.int .i64 (if 1<=i then n0 else 0),.int .i64 (if 3<=i then n2 else 0),.int .i64 (if 4<=i then n3 else 0)]]) (λi=>4-i) (λi=>i<=4) 0 (by decide) rfl rfl λi hi=>?_
  rcases(show i=0\/i=1\/i=2\/i=3\/i=4 by omega)with rfl|rfl|rfl|rfl|rfl
  ·refine Ue [.t rfl,.i 0,.t rfl,.i 0] rfl ?_ (by simp[U0]);exact rd 1 (by omega) (by omega) rfl
  ·refine Ue [.t rfl,.i 1,.f rfl] rfl ?_ (by simp[U0]);exact rd 2 (by omega) (by omega) rfl
  ·refine Ue [.t rfl,.i 2,.t rfl,.i 1] rfl ?_ (by simp[U0]);exact rd 3 (by omega) (by omega) rfl
  ·refine Ue [.t rfl,.i 3,.t rfl,.i 2] rfl ?_ (by simp[U0]);exact rd 4 (by omega) (by omega) rfl
  ·have hbb:=hb [n0,n2,n3] s (by omega);by_cases hc:ZH T [n0,n2,n3]*s>0
   ·rw[if_pos hc]at e1;refine go tt [.f rfl,.f rfl,.t (decide_eq_true hc)] rfl (by simp only[U0];first|exact⟨⟨by omega,by omega⟩,hbb,hm,⟨by omega,by omega⟩,by decide,by omega,by omega⟩|exact⟨⟨by omega,by omega⟩,hbb,hm,by decide,by omega,by omega⟩) ?_;exact rd 2 (by omega) (by omega) (by rw[e1];rfl)
   ·rw[if_neg hc]at e1;refine go tt [.f rfl,.f rfl,.f (decide_eq_false hc)] rfl (by simp only[U0];first|exact⟨⟨by omega,by omega⟩,hbb,hm,⟨by omega,by omega⟩,by decide,by omega,by omega⟩|exact⟨⟨by omega,by omega⟩,hbb,hm,by decide,by omega,by omega⟩) ?_;exact rd 2 (by omega) (by omega) (by rw[e1];rfl)
 ·have e1:=fs 2;have e2:I5 T s [n0,n1,n2,n3] (f 2) 2=if ZH T [n0,n1,n3]*(-s)>0 then Ly (f 2) [n0,n1,n3] (.bool true)else f 2:=rfl
  rw[e2]at e1;refine Ue [.t rfl] rfl ?_;refine Uj (S:=Nat) 4 (λL1 i=>(18,.v (.oi i))::(10,.v (.oi (if i<=2 then(i:Int)else(i:Int)-1)))::L1) (λi=>[.mpb (f 2),.mpb T,.blk 95 [.int .i64 n0,.int .i64 n1,.int .i64 n2,.int .i64 n3],.blk 84 [.int .i64 (if 1<=i then n0 else 0),.int .i64 (if 2<=i then n1 else 0),.int .i64 (if 4<=i then n3 else 0)]]) (λi=>4-i) (λi=>i<=4) 0 (by decide) rfl rfl λi hi=>?_
  rcases(show i=0\/i=1\/i=2\/i=3\/i=4 by omega)with rfl|rfl|rfl|rfl|rfl
  ·refine Ue [.t rfl,.i 0,.t rfl,.i 0] rfl ?_ (by simp[U0]);exact rd 1 (by omega) (by omega) rfl
  ·refine Ue [.t rfl,.i 1,.t rfl,.i 1] rfl ?_ (by simp[U0]);exact rd 2 (by omega) (by omega) rfl
  ·refine Ue [.t rfl,.i 2,.f rfl] rfl ?_ (by simp[U0]);exact rd 3 (by omega) (by omega) rfl
  ·refine Ue [.t rfl,.i 3,.t rfl,.i 2] rfl ?_ (by simp[U0]);exact rd 4 (by omega) (by omega) rfl
  ·have hbb:=hb [n0,n1,n3] (-s) (by omega);by_cases hc:ZH T [n0,n1,n3]*(-s)>0
   ·rw[if_pos hc]at e1;refine go tt [.f rfl,.t rfl,.t (decide_eq_true hc)] rfl (by simp only[U0];first|exact⟨⟨by omega,by omega⟩,hbb,hm,⟨by omega,by omega⟩,by decide,by omega,by omega⟩|exact⟨⟨by omega,by omega⟩,hbb,hm,by decide,by omega,by omega⟩) ?_;exact rd 3 (by omega) (by omega) (by rw[e1];rfl)
   ·rw[if_neg hc]at e1;refine go tt [.f rfl,.t rfl,.f (decide_eq_false hc)] rfl (by simp only[U0];first|exact⟨⟨by omega,by omega⟩,hbb,hm,⟨by omega,by omega⟩,by decide,by omega,by omega⟩|exact⟨⟨by omega,by omega⟩,hbb,hm,by decide,by omega,by omega⟩) ?_;exact rd 3 (by omega) (by omega) (by rw[e1];rfl)
 ·have e1:=fs 3;have e2:I5 T s [n0,n1,n2,n3] (f 3) 3=if ZH T [n0,n1,n2]*s>0 then Ly (f 3) [n0,n1,n2] (.bool true)else f 3:=rfl
  rw[e2]at e1;refine Ue [.t rfl] rfl ?_;refine Uj (S:=Nat) 4 (λL1 i=>(18,.v (.oi i))::(10,.v (.oi (if i<=3 then(i:Int)else(i:Int)-1)))::L1) (λi=>[.mpb (f 3),.mpb T,.blk 95 [.int .i64 n0,.int .i64 n1,.int .i64 n2,.int .i64 n3],.blk 84 [.int .i64 (if 1<=i then n0 else 0),.int .i64 (if 2<=i then n1 else 0),.int .i64 (if 3<=i then n2 else 0)]]) (λi=>4-i) (λi=>i<=4) 0 (by decide) rfl rfl λi hi=>?_
  rcases(show i=0\/i=1\/i=2\/i=3\/i=4 by omega)with rfl|rfl|rfl|rfl|rfl
  ·refine Ue [.t rfl,.i 0,.t rfl,.i 0] rfl ?_ (by simp[U0]);exact rd 1 (by omega) (by omega) rfl
  ·refine Ue [.t rfl,.i 1,.t rfl,.i 1] rfl ?_ (by simp[U0]);exact rd 2 (by omega) (by omega) rfl
  ·refine Ue [.t rfl,.i 2,.t rfl,.i 2] rfl ?_ (by simp[U0]);exact rd 3 (by omega) (by omega) rfl
  ·refine Ue [.t rfl,.i 3,.f rfl] rfl ?_ (by simp[U0]);exact rd 4 (by omega) (by omega) rfl
  ·have hbb:=hb [n0,n1,n2] s (by omega);by_cases hc:ZH T [n0,n1,n2]*s>0
   ·rw[if_pos hc]at e1;refine go tt [.f rfl,.f rfl,.t (decide_eq_true hc)] rfl (by simp only[U0];first|exact⟨⟨by omega,by omega⟩,hbb,hm,⟨by omega,by omega⟩,by decide,by omega,by omega⟩|exact⟨⟨by omega,by omega⟩,hbb,hm,by decide,by omega,by omega⟩) ?_;exact rd 4 (by omega) (by omega) (by rw[e1];rfl)
   ·rw[if_neg hc]at e1;refine go tt [.f rfl,.f rfl,.f (decide_eq_false hc)] rfl (by simp only[U0];first|exact⟨⟨by omega,by omega⟩,hbb,hm,⟨by omega,by omega⟩,by decide,by omega,by omega⟩|exact⟨⟨by omega,by omega⟩,hbb,hm,by decide,by omega,by omega⟩) ?_;exact rd 4 (by omega) (by omega) (by rw[e1];rfl)
 ·exact Ui [] [0,1] [.f rfl] rfl
end Orr
