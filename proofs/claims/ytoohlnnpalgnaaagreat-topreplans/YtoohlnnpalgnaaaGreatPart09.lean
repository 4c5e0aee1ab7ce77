/- TW1 TW2 R3 R4 RefPL R5 R6 RefGL R7 RatOkL R8 R9 RefCL R10 R11 R12 R13 R14 R15 R16 R17 R18 SC1 W1 W2 WR18 WS18 X19 MeshK H2 H3 MD1 MD2 -/
import Derived.Test.YtoohlnnpalgnaaaGreatPart08
import Derived.Test.YtoohlnnpalgnaaaGreatPart00
import Derived.Test.YtoohlnnpalgnaaaGreatPart07
import Derived.Test.YtoohlnnpalgnaaaGreatPart04
import Derived.Test.YtoohlnnpalgnaaaGreatPart05
set_option linter.all false
namespace Orr
open Go Go.Proofs Tryz Orq
set_option maxRecDepth 10000
def Oh(l:List (Pt×Pt)):Us:=l.map Qc2
theorem Qov{l m:Us}(h:l=m):TV.one (LV.row l)=.one (.row m):=h ▸ rfl
theorem oz{P:Program}[Mo P]{n:Nat}{Q:Exit->Sg->Ut->Prop}{L L':Sg}{B B':Ut}(d off T sz:Nat){it:List It}(hs:Rm it=true)(h:cK (P:=P) d L B [.oc d off T sz]=some (L',B',[],[]))(k:AK P n Q it L' B'):AK P n Q it L B:=AK.sub (ER h EqOk.nil) hs k
theorem Qne{a b:Pt}{t:Tm}(ha:Sc a.c)(hb:Sc b.c)(ht:Va t):Uj 255 [.oi 2,.agg (ta t),.one (.row [Fe a,Fe b])] [.agg (Du (D6 (Fw t) a b)),.oi 0]:=by
 have h1:=Nh hb ha;have h2:=Ni hb ha;refine Fx func255 rfl ?_;refine Ud [.k Qbt,.f rfl] rfl ?_;refine Ui (S:=Nat) 3 (λL1 i=>(22,.v (.oi i))::L1) (λi=>[.blk 105 (ta t),.blk 99 zCt,.blk 99 [.int .i64 2,.int .i64 (if 1<=i then a.id else 0),.int .i64 (if 2<=i then b.id else 0),.int .i64 0,.int .i64 0,.nils,.int .i64 0]]) (λi=>2-i) (λi=>i<=2) 0 (Qh _) rfl rfl λi hi=>?_
 rcases(show i=0\/i=1\/i=2 by omega)with rfl|rfl|rfl
 ·refine Ud [.t rfl,.x (i:=0) (xs:=Fe a) rfl,.i 0] rfl ?_ (by simp[U4]);exact rd 1 (by omega) (by omega) rfl
 ·refine Ud [.t rfl,.x (i:=1) (xs:=Fe b) rfl,.i 1] rfl ?_ (by simp[U4]);exact rd 2 (by omega) (by omega) rfl
 ·exact Uf [.f rfl,.f rfl,.t rfl,.x (i:=1) (xs:=Fe b) rfl,.x (i:=0) (xs:=Fe a) rfl,.k (UK hb.n ha.n hb.cb ha.cb),.x (i:=1) (xs:=Fe b) rfl,.x (i:=0) (xs:=Fe a) rfl,.k (UF hb.n ha.n hb.cb ha.cb),.k wC,.k (SU (YS h1 h2).dp ht)] rfl
theorem Qfr{a:Tm}(ha:Va a){c:Cr}{r0 r1:Us}:∀(k:Nat) (l:List Pt) (ms:List (Pt×Pt)),l.length≤k->l.length≤1000->ms.length+l.length≤1000000->(∀p∈l,Sc p.c)->U7 prog 254 [.one (.ow 0 0),.agg (ta a),.one (pts l)] [.blk 223 [.bool true,pl c.now.p,sg c.now.lo.num,mg c.now.lo.num,sg (c.now.lo.den:Int),mg (c.now.lo.den:Int),sg c.now.hi.num,mg c.now.hi.num,sg (c.now.hi.den:Int),mg (c.now.hi.den:Int),.row (Ce c.l),.int .i64 c.ev,.row r0,.row r1,.orow 1 10 none],.row false 323 10 (Oh ms)] [.one (.row (U3 (Nc (Fw a) l).1))] [.blk 223 [.bool true,pl c.now.p,sg c.now.lo.num,mg c.now.lo.num,sg (c.now.lo.den:Int),mg (c.now.lo.den:Int),sg c.now.hi.num,mg c.now.hi.num,sg (c.now.hi.den:Int),mg (c.now.hi.den:Int),.row (Ce c.l),.int .i64 c.ev,.row r0,.row r1,.orow 1 10 none],.row false 323 10 (Oh (ms++(Nc (Fw a) l).2))]
 := by
  intro k
  induction k with
  |zero=>?_
  |succ k ih=>?_
  all_goals
   intro l ms hk hn hms hl;have hcl:=G7 l;show U7 prog 254 [.one (.ow 0 0),.agg (ta a),.one (.row (U3 l))] _ _ _;by_cases hs:l.length<2
   ·rw[Cy _ hs,Zw];refine Fx func254 rfl ?_;exact Uh [] [0,1] [.t (by simp[hcl];omega)] rfl
   first
    |(exfalso;omega)
    |
     skip
     obtain⟨k1,k2,k3,k4⟩:=Qib hs hk;obtain⟨h,hh⟩:=nmE ((l.length+1) / 2);obtain⟨u,hu,hul,_⟩:=Nq (Fw a) k (l.take ((l.length+1) / 2)) k1 k3;obtain⟨v,hv,hvl,_⟩:=Nq (Fw a) k (l.drop ((l.length+1) / 2)) k2 k4;have g1:=Dw (Fw a) _ (l.take ((l.length+1) / 2)) (Ql _);have g2:=Dw (Fw a) _ (l.drop ((l.length+1) / 2)) (Ql _);have hlt:(l.take ((l.length+1) / 2)).length+(l.drop ((l.length+1) / 2)).length=l.length:=by rw[Qp,Q8];omega
     have c1:=ih (l.take ((l.length+1) / 2)) ms k1 (by omega) (by omega) λp hp=>hl p (Qo hp)
     have c2:=ih (l.drop ((l.length+1) / 2)) (ms++(Nc (Fw a) (l.take ((l.length+1) / 2))).2) k2 (by omega) (by rw[Qu];omega) λp hp=>hl p (Qz hp)
     have hpl:=O2 (Fw a) hs hu hv;rw[hpl];rw[hu]at c1;rw[hv]at c2;generalize (Nc (Fw a) (l.take ((l.length+1) / 2))).2=G1 at *;generalize (Nc (Fw a) (l.drop ((l.length+1) / 2))).2=G2 at *;have hsu:=hl u (Qo hul);have hsv:=hl v (Qz hvl);have cb:=Qm0 (t:=a) hsu hsv ha;have htd:((l.length:Int)+1).tdiv 2=(((l.length+1) / 2:Nat):Int):=rfl;have hg:∀m,Oh (ms++(G1++G2++[m]))=Oh ((ms++G1)++G2)++[Qc2 m]:=λm=>by simp[Oh]
     have hml:(Oh ((ms++G1)++G2)).length=ms.length+G1.length+G2.length:=by simp[Oh];omega
     have hml2:(Oh (ms++(G1++G2))).length=ms.length+G1.length+G2.length:=by simp[Oh];omega
     have h5:=eq_true (p:=∀z,z∈U3 l->z.length=ti40.sz) (VJ l);have e1:(U3 l).take ((l.length+1) / 2)=U3 (l.take ((l.length+1) / 2)):=by simp[U3,Jv]
     have e2:(U3 l).drop ((l.length+1) / 2)=U3 (l.drop ((l.length+1) / 2)):=by simp[U3,Vi]
     unfold PL;refine Fx func254 rfl ?_;by_cases hb:Ch (Fw a) u v=true
     ·rw[if_pos hb,hg];exact Uh [] [0,1] [.f (by simp[hcl];omega),.r 17 (eI (b:=(((l.length+1) / 2:Nat):Int)) (by rw[hcl];rfl)),.i ((l.length+1) / 2),.r 22 (Qov e1),.c [0,1] c1,.i ((l.length+1) / 2),.r 28 (Qov e2),.c [0,1] c2,.x (i:=0) (l:=U3 [u]) (xs:=Fe u) rfl,.x (i:=0) (l:=U3 [v]) (xs:=Fe v) rfl,.k cb,.f (by rw[hb];rfl),.x (i:=0) (l:=U3 [u]) (xs:=Fe u) rfl,.x (i:=0) (l:=U3 [v]) (xs:=Fe v) rfl,.s (sz:=10) (l:=[Qc2 (u,v)]) (λc hc=>by rw[Qk.1 hc];rfl),.i 1] rfl (by simp[U4,G7,hml2,h5];omega)
     ·have hb:Ch (Fw a) u v=false:=by simpa using hb
      rw[if_neg (by simp[hb]),hg];exact Uh [] [0,1] [.f (by simp[hcl];omega),.r 17 (eI (b:=(((l.length+1) / 2:Nat):Int)) (by rw[hcl];rfl)),.i ((l.length+1) / 2),.r 22 (Qov e1),.c [0,1] c1,.i ((l.length+1) / 2),.r 28 (Qov e2),.c [0,1] c2,.x (i:=0) (l:=U3 [u]) (xs:=Fe u) rfl,.x (i:=0) (l:=U3 [v]) (xs:=Fe v) rfl,.k cb,.t (by rw[hb];rfl),.x (i:=0) (l:=U3 [v]) (xs:=Fe v) rfl,.x (i:=0) (l:=U3 [u]) (xs:=Fe u) rfl,.s (sz:=10) (l:=[Qc2 (v,u)]) (λc hc=>by rw[Qk.1 hc];rfl),.i 1] rfl (by simp[U4,G7,hml2,h5];omega)
theorem ID{l:List Pt}{a:Tm}{c:Cr}{r1:Us×Us}(hl:∀p∈l,Sc p.c)(hn:l.length≤1000)(ha:Va a):U7 prog 196 [.one (.ow 0 0),.agg (ta a)] [.blk 223 (Tf c (U3 l) r1)] [.one (.row (U9 (AE l a)))] [.blk 223 (Tf c (U3 l) (pI l a))]:=by
 have cp:=Qfr (r0:=U3 l) (c:=c) (r1:=r1.1) ha l.length l [] (Ql _) hn (by show 0+l.length≤1000000;omega) hl;have hms:=Dw (Fw a) l.length l (Ql _);unfold AE pI;obtain⟨M,hM⟩:=nmE ((Nc (Fw a) l).2);have hmm:∀m∈M,Sc m.1.c/\Sc m.2.c:=λm hm=>by
  rw[hM]at hm;exact⟨hl _ (JH m hm).1,hl _ (JH m hm).2⟩
 rw[<-hM]at cp hms ⊢;rw[Yj]at cp;have hgl:(Oh M).length=M.length:=by simp[Oh]
 refine Fx func196 rfl ?_;refine Ud [] rfl ?_;refine oz 0 14 323 10 rfl rfl ?_;refine Ud [.k Iu,.c [0,2] cp,.o 5 99 7] rfl ?_;refine Ui (S:=Nat) 4 (λL1 i=>(29,.v (.oi i))::(5,.v (.one (.orow 3 7 none)))::L1) (λi=>[.blk 223 [.bool true,pl c.now.p,sg c.now.lo.num,mg c.now.lo.num,sg (c.now.lo.den:Int),mg (c.now.lo.den:Int),sg c.now.hi.num,mg c.now.hi.num,sg (c.now.hi.den:Int),mg (c.now.hi.den:Int),.row (Ce c.l),.int .i64 c.ev,.row (U3 l),.row (U3 (Nc (Fw a) l).1),.orow 2 10 none],.blk 105 (ta a),.row false 323 10 (Oh M),.row false 99 7 (U9 ((M.map λm=>D6 (Fw a) m.1 m.2).take i))]) (λi=>M.length-i) (λi=>i<=M.length) 0 (Qh _) rfl rfl λi hi=>?_
 by_cases hlt:i<M.length
 ·obtain⟨m,hm⟩:=gxE (l:=M) (i:=i) hlt;obtain⟨s1,s2⟩:=hmm m (Qc hm);have hg:(Oh M)[i]? = some (Qc2 m):=G6 hm;have hq:∀y∈[Du (D6 (Fw a) m.1 m.2)],y.length=7:=λy hy=>by rw[Qk.1 hy];rfl
  have ht:(M.map λm=>D6 (Fw a) m.1 m.2).take (i+1)=(M.map λm=>D6 (Fw a) m.1 m.2).take i++[D6 (Fw a) m.1 m.2]:=by
   rw[Zv,Q7,hm];rfl
  refine go tt [.T,.i i,.x hg,.i 0,.i 1,.k (Qne s1 s2 ha),.s (sz:=7) hq] rfl (by simp[U4,hgl,Pu];omega) ?_;exact rd (i+1) (by omega) hlt (by rw[ht];simp[U9];rfl)
 ·obtain rfl:i=M.length:=by omega
  rw[Qm (by simp)];exact Uh [2,3] [0] [.F] rfl
def Qxx(l:List Pt)(a:Tm):Cr:=⟨a,(Fp (AE l a)).map fresh,0⟩
theorem Qnw{t:Rat}{l:List Pt}{K:Nat}{c c':Cr}{r1 r1':Us×Us}{n:Int}(ht:Qs 1640000 t)(hl:∀p∈l,Sc p.c)(hn:l.length≤1000)(hc:CrOk c)(hev:0≤c.ev/\c.ev+K≤1000000000000000000)(h:Ft c.now t≤0)(hg:HW (AE l) (pI l) t K c r1 0=some (c',r1',n)) :
 U7 prog 417 [.one (.ow 0 0),.agg (rl t)] [.blk 223 (Tf c (U3 l) r1)] [.oi n,.oi 0] [.blk 223 (Tf c' (U3 l) r1')]:=by
 have cg:=Qya (T:=223) (r0:=U3 l) ht (pS hl hn) (λa c r1 ha _=>ID (c:=c) (r1:=r1) hl hn ha) hc hev h hg;refine Fx func417 rfl ?_;exact Uh [] [0] [.k (Nz (ht.mono (by decide))),.c [0] cg] rfl
theorem Qny{c:Cr}{r0 r2:Us}{w:Pt}:U7 prog 84 [.one (.ow 0 0)] [.blk 223 (Tf c r0 ([Fe w],r2))] [.oi w.id,.one (.bool true)] [.blk 223 (Tf c r0 ([Fe w],r2))]:=by
 refine Fx func84 rfl ?_;exact Uh [] [0] [.f rfl,.x (i:=0) (xs:=Fe w) rfl] rfl
theorem Qfu{c:Cr}{r0 r2:Us}:U7 prog 84 [.one (.ow 0 0)] [.blk 223 (Tf c r0 ([],r2))] [.oi 0,.one (.bool false)] [.blk 223 (Tf c r0 ([],r2))]:=by
 refine Fx func84 rfl ?_;exact Uh [] [0] [.t rfl] rfl
end Orr
namespace Orr
open Go Go.Proofs Tryz
set_option maxRecDepth 10000
theorem UL(x:Nat):(Bz (Gk x)).length=(Gk x).length:=T0 _
theorem Qc3(z:Int):∀c∈[[LV.int .i64 z]],c.length=1:=λc hc=>by rw[Qk.1 hc];rfl
theorem Qyh{x:Nat}(h:x<=1000000000):(Gk x).length<=3:=Qb6 (by omega)
theorem tdn(n:Nat):((n:Nat):Int).tdiv 10000=((n / 10000:Nat):Int):=rfl
theorem WE(n:Nat):((n:Nat):Int).tdiv 2=((n / 2:Nat):Int):=rfl
theorem UP{x mu c0:Nat}(hx:sz x<=100000000)(hmu:mu<=65536)(hc:c0<=1000000000):Uj 180 [.one (nd x),.oi mu,.oi c0] [.one (nd (x*mu+c0))]:=by
 have hxl:=Qa (Ms x) hx;have hll:=UL x;show Uj 180 [.one (.row (Bz (Gk x))),.oi mu,.oi c0] _;refine Fx func180 rfl ?_;refine Ue [.r 11 (eI (b:=(((Gk x).length+2:Nat):Int)) (by rw[hll];omega)),.i 0,.i ((Gk x).length+2)] rfl ?_;refine Ui (S:=Nat×Nat×Uo) 1 (λL1 s=>(8,.v (.oi (s.1:Int)))::(7,.v (.one (.orow 0 1 none)))::(2,.v (.oi (s.2.1:Int)))::L1.filter (λx=>x.1 != 12)) (λs=>[.row false 3 1 (Bz s.2.2)]) (λs=>((Gk x).length-s.1)*4+(Gk s.2.1).length) (λs=>Dg s.2.2/\s.2.2.length=s.1/\Tk s.2.2+s.2.1*10000^s.1=Tk ((Gk x).take s.1)*mu+c0/\(s.1<=(Gk x).length\/s.1+(Gk s.2.1).length<=(Gk x).length+3)/\s.2.1<=1000000000) (0,c0,[]) ⟨Dg.nil,rfl,by simp[Tk],.inl (Qh _),hc⟩ rfl rfl λs hs=>?_
 obtain⟨i,c,o⟩:=s;obtain⟨hp0,hp1,hp2,hp3,hp4⟩:=hs;dsimp only at hp0 hp1 hp2 hp3 hp4 ⊢;have hcl:=Qyh (x:=c) hp4;by_cases h1:i<(Gk x).length
 ·obtain⟨d,hd⟩:=gxE (l:=(Gk x)) (i:=i) h1;have hd9:=Cn x d (Qc hd);have hdm:d*mu<=9999*65536:=Zc (by omega) hmu;have hc3:=Qyh (x:=(c+d*mu) / 10000) (by omega);have hol:(Bz o).length=i:=by rw[T0,hp1]
  refine go tt [.g 17 true Ul,.t rfl,.T,.x (Gz hd),.r 33 (eI (b:=((d*mu:Nat):Int)) (by simp)),.r 34 (eI (b:=((c+d*mu:Nat):Int)) (by omega)),.r 37 (eI (b:=(((c+d*mu) % 10000:Nat):Int)) (by rfl)),.s (sz:=1) (Qc3 _),.r 41 (eI (b:=(((c+d*mu) / 10000:Nat):Int)) (by rfl))] rfl (by simp[U4,hol,tdn,WE,-Int.natCast_add,-Int.natCast_mul];omega) ?_;exact rd (i+1,(c+d*mu) / 10000,o++[(c+d*mu) % 10000]) (by dsimp only;omega) ⟨hp0.snoc (Nat.mod_lt _ (by decide)),by dsimp only;rw[List.length_append];show o.length+1=_;omega,by
   dsimp only;rw[Pv,Tv hd,hp1,Nat.pow_succ];simp only[Tk,Nat.mul_zero,Nat.add_zero];have:=OK (d:=d) (m:=mu) rfl hp2;rw[this];grind,.inl (by dsimp only;omega),by dsimp only;omega⟩ (by rw[Ik];rfl)
 ·by_cases h2:0<c
  ·have hdc:=Ii (x:=c) (by omega);have hol:(Bz o).length=i:=by rw[T0,hp1]
   refine go tt [.g 17 false Uk,.T,.F,.r 37 (eI (b:=((c % 10000:Nat):Int)) (by rfl)),.s (sz:=1) (Qc3 _),.r 41 (eI (b:=((c / 10000:Nat):Int)) (by rfl))] rfl (by simp[U4,hol,tdn,WE,-Int.natCast_add];omega) ?_;exact rd (i+1,c / 10000,o++[c % 10000]) (by dsimp only;omega) ⟨hp0.snoc (Nat.mod_lt _ (by decide)),by dsimp only;rw[List.length_append];show o.length+1=_;omega,by
    dsimp only;rw[Pv,hp1,Nat.pow_succ];simp only[Tk,Nat.mul_zero,Nat.add_zero];have:=OK (d:=0) (m:=mu) rfl hp2;simp only[Nat.zero_mul,Nat.mul_zero,Nat.add_zero]at this;rw[this,List.take_of_length_le (by omega),List.take_of_length_le (by omega)],.inr (by dsimp only;omega),by dsimp only;omega⟩ (by rw[Ik];rfl)
  ·have cc:=HA hp0;rw[show Tk o=x*mu+c0 from by
    have h:=hp2;rw[Qm (by omega),Rf,show c=0 by omega]at h;omega]at cc
   exact Uf [.g 17 false Uk,.F,.k cc] rfl
theorem Qdu{l:Uo}{j d:Nat}(h:l[j]? = some d):val (l.drop j)=d+4294967296*val (l.drop (j+1)):=by
 have hi:=(Qf.1 h).1;rw[Zp hi,(Qf.1 h).2];rfl
theorem PN:∀(l:Uo) (j:Nat),val (l.drop j)<=val l
 |l,0=>Ql _
 | [],j+1=>by simp
 |
  x::l,j+1=>by
  have:=PN l j;rw[Wh];simp only[val];omega
theorem Qm7{l:Uo}(hu:∀u∈l,u<4294967296)(hl:l.length≤1099511627776)(hx:sz (val l)≤100000000):Uj 146 [lr l] [.one (nd (val l))]:=by
 have hll:=U8 l;show Uj 146 [.one (.row (lm l))] _;refine Fx func146 rfl ?_;refine Ue [.z 3,.r 7 (eI (b:=((l.length:Nat):Int)-1) (by rw[hll]))] rfl ?_;refine Ui (S:=Nat×Uo) 0 (λL1 s=>(4,.v (.oi ((s.1:Int)-1)))::(3,.v (.one (.row (Bz s.2))))::L1) (λ_=>[]) (λs=>s.1) (λs=>s.1<=l.length/\s.2=Gk (val (l.drop s.1))) (l.length,[]) ⟨Nat.le_refl _,by dsimp only;rw[List.drop_eq_nil_of_le (Nat.le_refl _)];show []=Gk 0;rw[Hy]⟩ rfl rfl λs hs=>?_
 obtain⟨j,o⟩:=s;obtain⟨hj,ho⟩:=hs;dsimp only at hj ho ⊢;subst ho;cases j with
 |zero=>exact Uf [.f (by simp)] rfl (by rw[Xy];rfl) trivial
 |
  succ j =>
  obtain⟨d,hd⟩:=gxE (l:=l) (i:=j) (by omega);have hd9:=hu d (Qc hd);have hdd:=Qdu hd;have hle:=PN l j;have hs2:sz (val (l.drop (j+1))*65536+d / 65536)<=100000000:=Qa (Ri (by omega)) hx;have hs1:sz (val (l.drop (j+1)))<=100000000:=Qa (Ri (by omega)) hx;have c1:=UP (x:=val (l.drop (j+1))) (mu:=65536) (c0:=d / 65536) hs1 (by omega) (by omega);have c2:=UP (x:=val (l.drop (j+1))*65536+d / 65536) (mu:=65536) (c0:=d % 65536) hs2 (by omega) (by omega);have ej:((j+1:Nat):Int)-1=(j:Int):=by omega
  have e2:(val (l.drop (j+1))*65536+d / 65536)*65536+d % 65536=val (l.drop j):=by rw[hdd];omega
  rw[e2]at c2;rw[ej];refine go tt [.T,.x (G5 hd),.r 17 (Ep (b:=((d / 65536:Nat):Int)) (by rfl)),.k c1,.x (G5 hd),.r 25 (Ep (b:=((d % 65536:Nat):Int)) (by rfl)),.k c2] rfl (by simp[U4,IntKind.bits];omega) ?_;exact rd (j,Gk (val (l.drop j))) (by dsimp only;omega) ⟨by dsimp only;omega,rfl⟩ rfl
theorem mZ{x y:Nat}(hx:sz x<=200000000)(hy:sz y<=200000000):Uj 187 [.one (nd x),.one (nd y)] [.oi (ZN x y)]:=by
 have hxl:=Qa (Ms x) hx;have hyl:=Qa (Ms y) hy;have lx:=UL x;have ly:=UL y;show Uj 187 [.one (.row (Bz (Gk x))),.one (.row (Bz (Gk y)))] _;refine Fx func187 rfl ?_;by_cases hl:(Gk x).length=(Gk y).length
 ·refine Ue [.f (by simp;omega),.r 18 (eI (b:=((Gk x).length:Int)-1) (by rw[lx]))] rfl ?_;refine Ui (S:=Nat) 0 (λL1 j=>(5,.v (.oi ((j:Int)-1)))::L1) (λ_=>[]) (λj=>j) (λj=>j<=(Gk x).length/\(Gk x).drop j=(Gk y).drop j) (Gk x).length ⟨Ql _,by rw[Yv (Ql _),Yv (by omega)]⟩ rfl rfl λj hs=>?_
  obtain⟨hj,hp⟩:=hs;cases j with
  |
   zero =>
   have hxy:x=y:=by rw[Xy,Xy]at hp;rw[<-Rf x,<-Rf y,hp]
   exact Uf [.f (by simp)] rfl (by rw[eD hxy]) trivial
  |
   succ j =>
   obtain⟨d,hd⟩:=gxE (l:=(Gk x)) (i:=j) (by omega);obtain⟨e,he⟩:=gxE (l:=(Gk y)) (i:=j) (by omega);have ej:((j+1:Nat):Int)-1=(j:Int):=by omega
   rw[ej];by_cases h2:d=e
   ·refine Ue [.T,.x (Gz hd),.x (Gz he),.f (by simp[h2])] rfl ?_;exact rd j (by omega) ⟨by omega,by rw[Zp (by omega:j<(Gk x).length),Zp (by omega:j<(Gk y).length),hp,(Qf.1 hd).2,(Qf.1 he).2,h2]⟩ rfl
   ·by_cases h3:d<e
    ·have hxy:=CB (Cn x) hd he hp h3;rw[Rf,Rf]at hxy;exact Uf [.T,.x (Gz hd),.x (Gz he),.t (by simp;omega),.x (Gz hd),.x (Gz he),.T] rfl (by rw[MP hxy]) trivial
    ·have hxy:=CB (Cn y) he hd hp.symm (by omega);rw[Rf,Rf]at hxy;exact Uf [.T,.x (Gz hd),.x (Gz he),.t (by simp;omega),.x (Gz hd),.x (Gz he),.F] rfl (by rw[MS hxy]) trivial
 ·by_cases hlt:(Gk x).length<(Gk y).length
  ·exact Uf [.t (by simp;omega),.T] rfl (by rw[MP (uT hlt)]) trivial
  ·exact Uf [.t (by simp;omega),.F] rfl (by rw[MS (uT (by omega))]) trivial
theorem YR{o c s P V:Nat}(h:o+c*P=V):o+P*((c+s) % 10000)+(c+s) / 10000*(P*10000)=V+P*s:=by
 have e:=Xe (c+s) 10000;generalize (c+s) / 10000=q at *;generalize (c+s) % 10000=r at *;have e2:P*(c+s)=P*(10000*q+r):=by rw[e]
 grind
theorem Ob{l:Uo}{i:Nat}(h:l.length<=i):Tk (l.take (i+1))=Tk (l.take i):=by rw[Qm (by omega),Qm h]
theorem aW{l:Uo}{p v u:Nat}(h:l[p]? = some v):Tk (l.set p u)+10000^p*v=Tk l+10000^p*u:=by
 have hp:=(Qf.1 h).1;rw[MC (l.set p u) p (by rw[Xd];omega),MC l p (by omega),XF h,RJ hp,List.take_set_of_le (Ql _)];simp only[Tk];generalize 10000^p=P;grind
theorem Il{l:Uo}{p u:Nat}(h:p<l.length):Tk ((l.set p u).take (p+1))=Tk (l.take p)+10000^p*u:=by
 rw[Tv (l:=l.set p u) (i:=p) (x:=u) (by simp[h]),List.take_set_of_le (Ql _)]
structure AddI(x y:Nat)(s:Nat×Nat×List Nat):Prop where
 d:Dg s.2.2
 l:s.2.2.length=s.1
 v:Tk s.2.2+s.2.1*10000^s.1=Tk ((Gk x).take s.1)+Tk ((Gk y).take s.1)
 c:s.2.1<=1
 b:s.1<=max (Gk x).length (Gk y).length\/s.1=max (Gk x).length (Gk y).length+1/\10000^(max (Gk x).length (Gk y).length)<=x+y/\s.2.1=0
theorem Qto{x y:Nat}(hx:sz x<=200000000)(hy:sz y<=200000000):Uj 186 [.one (nd x),.one (nd y)] [.one (nd (x+y))]:=by
 have hxl:=Qa (Ms x) hx;have hyl:=Qa (Ms y) hy;have lx:=UL x;have ly:=UL y;show Uj 186 [.one (.row (Bz (Gk x))),.one (.row (Bz (Gk y)))] _;refine Fx func186 rfl ?_;refine Ud [.o 5 3 1] rfl ?_;refine Ui (S:=Nat×Nat×Uo) 1 (λL1 s=>(7,.v (.oi (s.1:Int)))::(6,.v (.oi (s.2.1:Int)))::(5,.v (.one (.orow 0 1 none)))::L1) (λs=>[.row false 3 1 (Bz s.2.2)]) (λs=>(max (Gk x).length (Gk y).length-s.1)*2+s.2.1) (AddI x y) (0,0,[]) ⟨Dg.nil,rfl,by simp[Tk],by decide,.inl (Qh _)⟩ rfl rfl λs hs=>?_
 obtain⟨i,c,o⟩:=s;obtain⟨hp0,hp1,hp2,hp3,hp4⟩:=hs;dsimp only at hp0 hp1 hp2 hp3 hp4 ⊢;have hol:(Bz o).length=i:=by rw[T0,hp1]
 by_cases h1:i<(Gk x).length
 ·obtain⟨d,hd⟩:=gxE (l:=(Gk x)) (i:=i) h1;have hd9:=Cn x d (Qc hd);by_cases h2:i<(Gk y).length
  ·obtain⟨e,he⟩:=gxE (l:=(Gk y)) (i:=i) h2;have he9:=Cn y e (Qc he);refine go tt [.g 12 true Ul,.g 18 true rfl,.t rfl,.T,.x (Gz hd),.r 33 (eI (b:=((c+d:Nat):Int)) (by omega)),.T,.x (Gz he),.r 43 (eI (b:=((c+(d+e):Nat):Int)) (by omega)),.r 46 (eI (b:=(((c+(d+e)) % 10000:Nat):Int)) (by rfl)),.s (sz:=1) (Qc3 _),.r 50 (eI (b:=(((c+(d+e)) / 10000:Nat):Int)) (by rfl))] rfl (by simp[U4,hol,tdn,WE,-Int.natCast_add];omega) ?_;exact rd (i+1,(c+(d+e)) / 10000,o++[(c+(d+e)) % 10000]) (by dsimp only;omega) ⟨hp0.snoc (Nat.mod_lt _ (by decide)),by dsimp only;rw[List.length_append];show o.length+1=_;omega,by
    dsimp only;rw[Pv,hp1,Nat.pow_succ];simp only[Tk,Nat.mul_zero,Nat.add_zero];have:=YR (s:=d+e) hp2;rw[this,Tv hd,Tv he];grind,by dsimp only;omega,.inl (by dsimp only;omega)⟩ (by rw[Ik];rfl)
  ·refine go tt [.g 12 true Ul,.g 18 true rfl,.t rfl,.T,.x (Gz hd),.r 33 (eI (b:=((c+d:Nat):Int)) (by omega)),.F,.r 46 (eI (b:=(((c+d) % 10000:Nat):Int)) (by rfl)),.s (sz:=1) (Qc3 _),.r 50 (eI (b:=(((c+d) / 10000:Nat):Int)) (by rfl))] rfl (by simp[U4,hol,tdn,WE,-Int.natCast_add];omega) ?_;exact rd (i+1,(c+d) / 10000,o++[(c+d) % 10000]) (by dsimp only;omega) ⟨hp0.snoc (Nat.mod_lt _ (by decide)),by dsimp only;rw[List.length_append];show o.length+1=_;omega,by
    dsimp only;rw[Pv,hp1,Nat.pow_succ];simp only[Tk,Nat.mul_zero,Nat.add_zero];have:=YR (s:=d) hp2;rw[this,Tv hd,Ob (l:=Gk y) (by omega)];grind,by dsimp only;omega,.inl (by dsimp only;omega)⟩ (by rw[Ik];rfl)
 ·by_cases h2:i<(Gk y).length
  ·obtain⟨e,he⟩:=gxE (l:=(Gk y)) (i:=i) h2;have he9:=Cn y e (Qc he);refine go tt [.g 12 false Uk,.g 18 true Ul,.t rfl,.F,.T,.x (Gz he),.r 43 (eI (b:=((c+e:Nat):Int)) (by omega)),.r 46 (eI (b:=(((c+e) % 10000:Nat):Int)) (by rfl)),.s (sz:=1) (Qc3 _),.r 50 (eI (b:=(((c+e) / 10000:Nat):Int)) (by rfl))] rfl (by simp[U4,hol,tdn,WE,-Int.natCast_add];omega) ?_;exact rd (i+1,(c+e) / 10000,o++[(c+e) % 10000]) (by dsimp only;omega) ⟨hp0.snoc (Nat.mod_lt _ (by decide)),by dsimp only;rw[List.length_append];show o.length+1=_;omega,by
    dsimp only;rw[Pv,hp1,Nat.pow_succ];simp only[Tk,Nat.mul_zero,Nat.add_zero];have:=YR (s:=e) hp2;rw[this,Tv he,Ob (l:=Gk x) (by omega)];grind,by dsimp only;omega,.inl (by dsimp only;omega)⟩ (by rw[Ik];rfl)
  ·by_cases h3:0<c
   ·refine go tt [.g 12 false Uk,.g 18 false Uk,.T,.F,.F,.r 46 (eI (b:=((c % 10000:Nat):Int)) (by rfl)),.s (sz:=1) (Qc3 _),.r 50 (eI (b:=((c / 10000:Nat):Int)) (by rfl))] rfl (by simp[U4,hol,tdn,WE,-Int.natCast_add];omega) ?_;exact rd (i+1,c / 10000,o++[c % 10000]) (by dsimp only;omega) ⟨hp0.snoc (Nat.mod_lt _ (by decide)),by dsimp only;rw[List.length_append];show o.length+1=_;omega,by
     dsimp only;rw[Pv,hp1,Nat.pow_succ];simp only[Tk,Nat.mul_zero,Nat.add_zero];have:=YR (s:=0) hp2;rw[Nat.add_zero,Nat.mul_zero,Nat.add_zero]at this;rw[this,Ob (l:=Gk y) (by omega),Ob (l:=Gk x) (by omega)],by dsimp only;omega,.inr ⟨by dsimp only;omega,by
      have h:=hp2;rw[List.take_of_length_le (by omega),List.take_of_length_le (by omega),Rf,Rf,show c=1 by omega,Nat.one_mul,show i=(max (Gk x).length (Gk y).length) by omega]at h;omega,by dsimp only;omega⟩⟩ (by rw[Ik];rfl)
   ·have hv:Tk o=x+y:=by
     have h:=hp2;rw[Qm (by omega),Qm (by omega),Rf,Rf,show c=0 by omega]at h;omega
    have hfin:o=Gk (x+y):=by
     have h:=Qg3 (o:=o) hp0;rw[hv]at h;refine h ?_;have m1:=XK (x:=x) (y:=x+y) (by omega);have m2:=XK (x:=y) (y:=x+y) (by omega);rcases hp4 with hb|⟨_,hb,_⟩
     ·omega
     ·have:=Qb5 hb;omega
    exact Uf [.g 12 false Uk,.g 18 false Uk,.F] rfl (by rw[hfin];rfl) trivial
theorem YP{o b a c P u d e c':Nat}(h:o+b=a+c*P)(hs:u+e+c=d+10000*c'):(o+P*u)+(b+P*e)=(a+P*d)+c'*(P*10000):=by
 have e2:P*(u+e+c)=P*(d+10000*c'):=by rw[hs]
 grind
theorem QN(o:Uo)(i u:Nat):Bz (o.set i u)=(Bz o).set i [.int .i64 (u:Int)]:=by simp[Bz,Vu]
theorem mU{x y:Nat}(hx:sz x<=200000000)(hy:sz y<=200000000)(hyx:y<=x):Uj 188 [.one (nd x),.one (nd y)] [.one (nd (x-y))]:=by
 have hxl:=Qa (Ms x) hx;have hyl:=Qa (Ms y) hy;have lx:=UL x;have ly:=UL y;have hmy:=XK hyx;show Uj 188 [.one (.row (Bz (Gk x))),.one (.row (Bz (Gk y)))] _;refine Fx func188 rfl ?_;refine Ue [.i (Bz (Gk x)).length,.i (Bz (Gk x)).length] rfl ?_;rw[lx,show List.replicate (Gk x).length [LV.int .i64 0]=Bz (List.replicate (Gk x).length 0) from by simp[Bz]];refine Ui (S:=Nat×Nat×Uo) 1 (λL1 s=>(14,.v (.oi (s.1:Int)))::(6,.v (.oi (s.2.1:Int)))::L1) (λs=>[.row false 3 1 (Bz s.2.2)]) (λs=>(Gk x).length-s.1) (λs=>s.1<=(Gk x).length/\s.2.2.length=(Gk x).length/\Dg s.2.2/\Tk (s.2.2.take s.1)+Tk ((Gk y).take s.1)=Tk ((Gk x).take s.1)+s.2.1*10000^s.1/\s.2.1<=1) (0,0,List.replicate (Gk x).length 0) ⟨Qh _,Jg ..,Dg.zeros _,by simp[Tk],Qh _⟩ rfl rfl λs hs=>?_
 obtain⟨i,c,o⟩:=s;obtain⟨hp0,hp1,hp2,hp3,hp4⟩:=hs;dsimp only at hp0 hp1 hp2 hp3 hp4 ⊢;have hol:(Bz o).length=(Gk x).length:=by rw[T0,hp1]
 by_cases h1:i<(Gk x).length
 ·obtain⟨d,hd⟩:=gxE (l:=(Gk x)) (i:=i) h1;have hd9:=Cn x d (Qc hd);by_cases h2:i<(Gk y).length
  ·obtain⟨e,he⟩:=gxE (l:=(Gk y)) (i:=i) h2;have he9:=Cn y e (Qc he);by_cases h3:d<c+e
   ·refine go tt [.T,.x (Gz hd),.T,.x (Gz he),.T,.r 36 (eI (b:=((d+10000-c-e:Nat):Int)) (by omega)),.i i] rfl (by simp[U4,hol,tdn,WE,-Int.natCast_add];omega) ?_;exact rd (i+1,1,o.set i (d+10000-c-e)) (by dsimp only;omega) ⟨by dsimp only;omega,by dsimp only;rw[List.length_set];exact hp1,hp2.set (by omega),by
     dsimp only;rw[Il (by omega),Tv hd,Tv he,Nat.pow_succ];exact YP hp3 (u:=d+10000-c-e) (d:=d) (e:=e) (c':=1) (by omega),by dsimp only;omega⟩ (by rw[QN];rfl)
   ·refine go tt [.T,.x (Gz hd),.T,.x (Gz he),.r 32 (eI (b:=((d-c-e:Nat):Int)) (by omega)),.F,.i i] rfl (by simp[U4,hol,tdn,WE,-Int.natCast_add];omega) ?_;exact rd (i+1,0,o.set i (d-c-e)) (by dsimp only;omega) ⟨by dsimp only;omega,by dsimp only;rw[List.length_set];exact hp1,hp2.set (by omega),by
     dsimp only;rw[Il (by omega),Tv hd,Tv he,Nat.pow_succ];exact YP hp3 (u:=d-c-e) (d:=d) (e:=e) (c':=0) (by omega),by dsimp only;omega⟩ (by rw[QN];rfl)
  ·have hy0:Tk ((Gk y).take (i+1))=Tk ((Gk y).take i)+10000^i*0:=by rw[Ob (by omega),Yz,Xn]
   by_cases h3:d<c
   ·refine go tt [.T,.x (Gz hd),.F,.T,.r 36 (eI (b:=((d+10000-c:Nat):Int)) (by omega)),.i i] rfl (by simp[U4,hol,tdn,WE,-Int.natCast_add];omega) ?_;exact rd (i+1,1,o.set i (d+10000-c)) (by dsimp only;omega) ⟨by dsimp only;omega,by dsimp only;rw[List.length_set];exact hp1,hp2.set (by omega),by
     dsimp only;rw[Il (by omega),Tv hd,hy0,Nat.pow_succ];exact YP hp3 (u:=d+10000-c) (d:=d) (e:=0) (c':=1) (by omega),by dsimp only;omega⟩ (by rw[QN];rfl)
   ·refine go tt [.T,.x (Gz hd),.r 22 (eI (b:=((d-c:Nat):Int)) (by omega)),.F,.F,.i i] rfl (by simp[U4,hol,tdn,WE,-Int.natCast_add];omega) ?_;exact rd (i+1,0,o.set i (d-c)) (by dsimp only;omega) ⟨by dsimp only;omega,by dsimp only;rw[List.length_set];exact hp1,hp2.set (by omega),by
     dsimp only;rw[Il (by omega),Tv hd,hy0,Nat.pow_succ];exact YP hp3 (u:=d-c) (d:=d) (e:=0) (c':=0) (by omega),by dsimp only;omega⟩ (by rw[QN];rfl)
 ·have hi:i=(Gk x).length:=by omega
  have hv:Tk o=x-y:=by
   have h:=hp3;rw[Qm (by omega),Qm (by omega),Qm (by omega),Rf,Rf]at h;have hlt:=DZ hp2;rw[hp1,<-hi]at hlt;have hc0:c=0:=by
    rcases Q3 c with h0|h0
    ·exact h0
    ·exfalso;have:c=1:=by omega
     rw[this,Wn]at h;omega
   rw[hc0]at h;omega
  have cc:=HA hp2;rw[hv]at cc;exact Uf [.F,.k cc] rfl
theorem CE{o o2 c P u v s V:Nat}(h:o+c*P=V)(hs:o2+P*v=o+P*u){q:Nat}(hu:u+10000*q=v+c+s):o2+q*(P*10000)=V+P*s:=by
 have e2:P*(u+10000*q)=P*(v+c+s):=by rw[hu]
 grind
theorem Qyi(S:Nat):S % 10000+10000*(S / 10000)=S:=We S 10000
structure MulI(x y i d:Nat)(s:Nat×Nat×List Nat):Prop where
 l:s.2.2.length=(Gk x).length+(Gk y).length
 dg:Dg s.2.2
 v:Tk s.2.2+s.2.1*10000^(i+s.1)=Tk ((Gk x).take i)*y+10000^i*d*Tk ((Gk y).take s.1)
 c:s.2.1<10000
 b:s.1<=(Gk y).length/\(∀j v,i+(Gk y).length<=j->s.2.2[j]? = some v->v=0)\/s.1=(Gk y).length+1/\s.2.1=0/\∀j v,i+(Gk y).length+1<=j->s.2.2[j]? = some v->v=0
theorem Qtz{x y:Nat}(hx:sz x<=200000000)(hy:sz y<=200000000):Uj 145 [.one (nd x),.one (nd y)] [.one (nd (x*y))]:=by
 have hxl:=Qa (Ms x) hx;have hyl:=Qa (Ms y) hy;have lx:=UL x;have ly:=UL y;show Uj 145 [.one (.row (Bz (Gk x))),.one (.row (Bz (Gk y)))] _;refine Fx func145 rfl ?_;refine Ue [.r 14 (eI (b:=(((Gk x).length+(Gk y).length:Nat):Int)) (by rw[lx,ly];omega)),.i ((Gk x).length+(Gk y).length),.i ((Gk x).length+(Gk y).length)] rfl ?_;rw[show List.replicate ((Gk x).length+(Gk y).length) [LV.int .i64 0]=Bz (List.replicate ((Gk x).length+(Gk y).length) 0) from by simp[Bz]];refine Ui (S:=Nat×Uo) 1 (λL1 s=>(18,.v (.oi (s.1:Int)))::L1) (λs=>[.row false 3 1 (Bz s.2)]) (λs=>(Gk x).length-s.1) (λs=>s.1<=(Gk x).length/\s.2.length=(Gk x).length+(Gk y).length/\Dg s.2/\Tk s.2=Tk ((Gk x).take s.1)*y/\∀j v,s.1+(Gk y).length<=j->s.2[j]? = some v->v=0) (0,List.replicate ((Gk x).length+(Gk y).length) 0) ⟨Qh _,Jg ..,Dg.zeros _,by rw[DX (λx hx=>Zx hx)];simp[Tk],λj v _ hv=>Zx (Qc hv)⟩ rfl rfl λs hs=>?_
 obtain⟨i,o⟩:=s;obtain⟨hp0,hp1,hp2,hp3,hp4⟩:=hs;dsimp only at hp0 hp1 hp2 hp3 hp4 ⊢;by_cases h1:i<(Gk x).length
 ·obtain⟨d,hd⟩:=gxE (l:=(Gk x)) (i:=i) h1;have hd9:=Cn x d (Qc hd);refine Ud [.T] rfl ?_;refine Ui (S:=Nat×Nat×Uo) 1 (λL1 s=>(8,.v (.oi (s.1:Int)))::(7,.v (.oi (s.2.1:Int)))::L1) (λs=>[.row false 3 1 (Bz s.2.2)]) (λs=>((Gk y).length-s.1)*2+min s.2.1 1) (MulI x y i d) (0,0,o) ⟨hp1,hp2,by dsimp only;rw[hp3];simp[Tk],by show 0<10000;decide,.inl ⟨Nat.zero_le _,hp4⟩⟩ rfl rfl λs hs=>?_
  obtain⟨k,c,o2⟩:=s;obtain⟨hq0,hq1,hq2,hq3,hq4⟩:=hs;dsimp only at hq0 hq1 hq2 hq3 hq4 ⊢;have hol:(Bz o2).length=(Gk x).length+(Gk y).length:=by rw[T0,hq0]
  by_cases h2:k<(Gk y).length
  ·obtain⟨e,he⟩:=gxE (l:=(Gk y)) (i:=k) h2;have he9:=Cn y e (Qc he);have hde:d*e<=9999*9999:=Zc (by omega) (by omega);obtain⟨v,hoi⟩:=gxE (l:=o2) (i:=i+k) (by omega);have hv9:=hq1 v (Qc hoi);refine go tt [.g 25 true Ul,.t rfl,.r 34 (eI (b:=((i+k:Nat):Int)) (by omega)),.i (i+k),.x (Gz hoi),.r 38 (eI (b:=((v+c:Nat):Int)) (by omega)),.T,.x (Gz hd),.x (Gz he),.r 52 (eI (b:=((d*e:Nat):Int)) (by simp)),.r 53 (eI (b:=((v+c+d*e:Nat):Int)) (by omega)),.r 57 (eI (b:=((i+k:Nat):Int)) (by omega)),.r 59 (eI (b:=(((v+c+d*e) % 10000:Nat):Int)) (by rfl)),.i (i+k),.r 62 (eI (b:=(((v+c+d*e) / 10000:Nat):Int)) (by rfl))] rfl (by simp[U4,hol,tdn,WE,-Int.natCast_add,-Int.natCast_mul];omega) ?_;exact rd (k+1,(v+c+d*e) / 10000,o2.set (i+k) ((v+c+d*e) % 10000)) (by dsimp only;omega) ⟨by dsimp only;rw[List.length_set];exact hq0,hq1.set (Nat.mod_lt _ (by decide)),by
    dsimp only;rw[<-Nat.add_assoc i k 1,Nat.pow_succ];have:=CE hq2 (aW hoi (u:=((v+c)+(d*e)) % 10000)) (s:=d*e) (q:=((v+c)+(d*e)) / 10000) (by rw[Qyi]);rw[this,Tv he,Nat.pow_add];grind,by dsimp only;omega,.inl ⟨by dsimp only;omega,λj w hj hw=>(by
     dsimp only at hw;rcases hq4 with⟨_,h⟩|⟨_,_,h⟩ <;> (rw[Yg (by omega)]at hw;exact h j w (by omega) hw))⟩⟩ (by rw[QN];rfl)
  ·by_cases h3:0<c
   ·have hk:k=(Gk y).length:=by omega
    have hz:∀j v,i+(Gk y).length<=j->o2[j]? = some v->v=0:=by
     rcases hq4 with⟨_,h⟩|⟨_,h,_⟩
     ·exact h
     ·omega
    obtain⟨v,hoi⟩:=gxE (l:=o2) (i:=i+k) (by omega);have hv0:v=0:=hz (i+k) v (by omega) hoi;have hv9:=hq1 v (Qc hoi);refine go tt [.g 25 false Uk,.T,.r 34 (eI (b:=((i+k:Nat):Int)) (by omega)),.i (i+k),.x (Gz hoi),.r 38 (eI (b:=((v+c:Nat):Int)) (by omega)),.F,.r 57 (eI (b:=((i+k:Nat):Int)) (by omega)),.r 59 (eI (b:=(((v+c) % 10000:Nat):Int)) (by rfl)),.i (i+k),.r 62 (eI (b:=(((v+c) / 10000:Nat):Int)) (by rfl))] rfl (by simp[U4,hol,tdn,WE,-Int.natCast_add];omega) ?_;exact rd (k+1,(v+c) / 10000,o2.set (i+k) ((v+c) % 10000)) (by dsimp only;omega) ⟨by dsimp only;rw[List.length_set];exact hq0,hq1.set (Nat.mod_lt _ (by decide)),by
     dsimp only;rw[<-Nat.add_assoc i k 1,Nat.pow_succ];have:=CE hq2 (aW hoi (u:=(v+c) % 10000)) (s:=0) (q:=(v+c) / 10000) (by rw[Qyi];rfl);rw[this,Nat.mul_zero,Nat.add_zero,Ob (by omega)],by dsimp only;omega,.inr ⟨by dsimp only;omega,by dsimp only;omega,λj w hj hw=>(by
      dsimp only at hw;rw[Yg (by omega)]at hw;exact hz j w (by omega) hw)⟩⟩ (by rw[QN];rfl)
   ·refine Ue [.g 25 false Uk,.F] rfl ?_;exact rd (i+1,o2) (by dsimp only;omega) ⟨by dsimp only;omega,hq0,hq1,by
     dsimp only;rw[Tv hd,X5];have h:=hq2;rw[show c=0 by omega,Qm (l:=Gk y) (i:=k) (by omega),Rf]at h;rw[Yl,Xn]at h;exact h,by
     dsimp only;rcases hq4 with⟨_,h⟩|⟨_,_,h⟩
     ·exact λj w hj hw=>h j w (by omega) hw
     ·exact λj w hj hw=>h j w (by omega) hw⟩ rfl
 ·have hv:Tk o=x*y:=by rw[hp3,Qm (by omega),Rf]
  have cc:=HA hp2;rw[hv]at cc;exact Uf [.F,.k cc] rfl
theorem eA{x y:Nat}:ZN x y<=0↔x<=y:=by
 unfold ZN;constructor
 ·intro h;split at h
  ·omega
  ·split at h <;> omega
 ·intro h;split
  ·omega
  ·split <;> omega
theorem Qb8{R y lo:Nat}(h1:y*lo<=R)(h2:R<y*(lo+1)):R / y=lo/\R % y=R-y*lo:=by
 have hy:0<y:=by
  rcases Q3 y with h|h
  ·subst h;simp at h2
  ·exact h
 have e:R / y=lo:=Nat.div_eq_of_lt_le (by rw[Zq];exact h1) (by rw[Zq];exact h2);refine⟨e,?_⟩;have:=Xe R y;rw[e]at this;omega
theorem Qlg{R y:Nat}(h:R<y*10000):sz R<=sz y+14:=by
 refine Nv.2 (Z6 h ?_);have:=FP y;rw[Xf];have e:(2:Nat)^14=16384:=by decide
 rw[e];exact Zc (by omega) (by decide)
theorem Qdo(y:Nat):sz (y*10000)<=sz y+14:=by
 refine Nv.2 ?_;have:=FP y;rw[Xf];have e:(2:Nat)^14=16384:=by decide
 rw[e];omega
theorem mY{x y:Nat}(hx:sz x<=90000000)(hy:sz y<=90000000)(hy0:0<y):Uj 210 [.one (nd x),.one (nd y)] [.one (nd (x / y)),.one (nd (x % y))]:=by
 have hxl:=Qa (Ms x) hx;have hyl:=Qa (Ms y) hy;have lx:=UL x;show Uj 210 [.one (.row (Bz (Gk x))),.one (nd y)] _;refine Fx func210 rfl ?_;refine Ue [.i (Bz (Gk x)).length,.i (Bz (Gk x)).length,.z 7,.r 17 (eI (b:=((Gk x).length:Int)-1) (by rw[lx]))] rfl ?_;rw[lx,show List.replicate (Gk x).length [LV.int .i64 0]=Bz (List.replicate (Gk x).length 0) from by simp[Bz]];refine Ui (S:=Nat×Uo×Uo) 1 (λL1 s=>(8,.v (.oi ((s.1:Int)-1)))::(7,.v (.one (.row (Bz s.2.1))))::L1) (λs=>[.row false 3 1 (Bz s.2.2)]) (λs=>s.1) (λs=>s.1<=(Gk x).length/\s.2.2.length=(Gk x).length/\Dg s.2.2/\Tk (s.2.2.drop s.1)=Tk ((Gk x).drop s.1) / y/\s.2.1=Gk (Tk ((Gk x).drop s.1) % y)) ((Gk x).length,[],List.replicate (Gk x).length 0) ⟨Nat.le_refl _,List.length_replicate ..,Dg.zeros _,by dsimp only;rw[List.drop_eq_nil_of_le (by simp),List.drop_eq_nil_of_le (Nat.le_refl _)];simp[Tk],by dsimp only;rw[List.drop_eq_nil_of_le (Nat.le_refl _)];simp[Tk,Hy]⟩ rfl rfl λs hs=>?_
 obtain⟨j,R,o⟩:=s;obtain⟨hp0,hp1,hp2,hp3,hp4⟩:=hs;dsimp only at hp0 hp1 hp2 hp3 hp4 ⊢;cases j with
 |
  zero =>
  have cc:=HA hp2;rw[Xy,Xy,Rf]at hp3;rw[Xy,Rf]at hp4;rw[hp3]at cc;exact Uf [.f (by simp),.k cc] rfl (by rw[hp4];rfl) trivial
 |
  succ j =>
  obtain⟨d,hd⟩:=gxE (l:=(Gk x)) (i:=j) (by omega);have hd9:=Cn x d (Qc hd);have hdd:=XF hd;obtain⟨hq1,hq2,hq3⟩:=uN (V:=Tk ((Gk x).drop (j+1))) (kd:=y) (d:=d) hy0;rw[<-hdd]at hq1 hq2;have hq3:=hq3 hd9;obtain⟨rr,hrr0⟩:=nmE (Tk ((Gk x).drop (j+1)) % y);have hrr:rr<y:=by rw[hrr0];exact Z4 _ hy0
  rw[<-hrr0]at hp4 hq1 hq2 hq3;subst hp4;have hrl:(Gk rr).length<=(Gk y).length:=XK (by omega);have hR:rr*10000+d<y*10000:=by omega
  have hRs:=Qlg hR;have hdv:Dg (d::Gk rr):=λz hz=>by
   rcases Qn.1 hz with rfl|hz
   ·exact hd9
   ·exact Cn rr z hz
  have cc:=HA hdv;rw[show Tk (d::Gk rr)=rr*10000+d from by simp only[Tk];rw[Rf];omega]at cc;have hol:(Bz o).length=(Gk x).length:=by rw[T0,hp1]
  have hrrl:=T0 (Gk rr);have ej:((j+1:Nat):Int)-1=(j:Int):=by omega
  rw[ej];refine go tt [.T,.x (Gz hd),.lo,.s (sz:=1) (Quu (Gk rr)),.k cc] rfl (by simp[U4,UL];omega) ?_;refine Ui (S:=Nat×Nat) 2 (λL1 s=>(9,.v (.oi (s.1:Int)))::(10,.v (.oi (s.2:Int)))::L1) (λ_=>[.row false 3 1 (Bz o),.gone]) (λs=>s.2-s.1) (λs=>s.1<=s.2/\s.2<=9999/\y*s.1<=rr*10000+d/\rr*10000+d<y*(s.2+1)) (0,9999) ⟨by decide,by decide,by dsimp only;omega,by dsimp only;omega⟩ rfl rfl λs hs=>?_
  obtain⟨lo,hi⟩:=s;obtain⟨hb0,hb1,hb2,hb3⟩:=hs;dsimp only at hb0 hb1 hb2 hb3 ⊢;by_cases h2:lo<hi
  ·obtain⟨m,hm⟩:=nmE ((lo+hi+1) / 2);have hym:y*m<=y*10000:=Zu y (by omega);have c1:=UP (x:=y) (mu:=m) (c0:=0) (by omega) (by omega) (by omega);have c2:=mZ (x:=y*m+0) (y:=rr*10000+d) (Qa (Ri (show _<=y*10000 by omega)) (Qa (Qdo y) (by omega))) (by omega);by_cases h3:y*m+0<=rr*10000+d
   ·refine go tt [.T,.r 35 (eI (b:=((lo+hi:Nat):Int)) (by omega)),.r 36 (eI (b:=((lo+hi+1:Nat):Int)) (by omega)),.r 37 (eI (b:=(m:Int)) (by rw[hm];rfl)),.k c1,.k c2,.t (decide_eq_true (eA.2 h3))] rfl (by simp[U4,WE,-Int.natCast_add];omega) ?_;exact rd (m,hi) (by dsimp only;omega) ⟨by dsimp only;omega,hb1,by dsimp only;omega,hb3⟩ rfl
   ·refine go tt [.T,.r 35 (eI (b:=((lo+hi:Nat):Int)) (by omega)),.r 36 (eI (b:=((lo+hi+1:Nat):Int)) (by omega)),.r 37 (eI (b:=(m:Int)) (by rw[hm];rfl)),.k c1,.k c2,.f (decide_eq_false λh=>h3 (eA.1 h)),.r 46 (eI (b:=((m-1:Nat):Int)) (by omega))] rfl (by simp[U4,WE,-Int.natCast_add];omega) ?_;exact rd (lo,m-1) (by dsimp only;omega) ⟨by dsimp only;omega,by dsimp only;omega,hb2,by dsimp only;rw[show m-1+1=m by omega];omega⟩ rfl
  ·have hlh:lo=hi:=by omega
   have hfd:=Qb8 hb2 (by rw[hlh];exact hb3);have c1:=UP (x:=y) (mu:=lo) (c0:=0) (by omega) (by omega) (by omega);have c2:=mU (x:=rr*10000+d) (y:=y*lo+0) (by omega) (Qa (Ri (show _<=rr*10000+d by omega)) (by omega)) (by omega);rw[show rr*10000+d-(y*lo+0)=Tk ((Gk x).drop j) % y from by rw[hq2,hfd.2];omega]at c2;refine go tt [.F,.i j,.k c1,.k c2] rfl (by simp[U4,hol,tdn,WE,-Int.natCast_add];omega) ?_;exact rd (j,Gk (Tk ((Gk x).drop j) % y),o.set j lo) (by dsimp only;omega) ⟨by dsimp only;omega,by dsimp only;rw[List.length_set];exact hp1,hp2.set (by omega),by
    dsimp only;rw[RJ (by omega)];simp only[Tk];rw[hp3,hq1,hfd.1],rfl⟩ (by rw[QN];rfl)
theorem Qqx{a b:Int}(h:(decide (a<0) == decide (b<0))=true):Fc (decide (a<0)) (a.natAbs+b.natAbs)=a+b:=by
 unfold Fc;by_cases h1:a<0 <;> by_cases h2:b<0 <;> simp[h1,h2]at h ⊢ <;> omega
theorem Qq0{a b:Int}(h:¬(decide (a<0) == decide (b<0))=true)(hl:b.natAbs<=a.natAbs):Fc (decide (a<0)) (a.natAbs-b.natAbs)=a+b:=by
 unfold Fc;by_cases h1:a<0 <;> by_cases h2:b<0 <;> simp[h1,h2]at h ⊢ <;> omega
theorem Qkx{a b:Int}(h:¬(decide (a<0) == decide (b<0))=true)(hl:¬b.natAbs<=a.natAbs):Fc (decide (b<0)) (b.natAbs-a.natAbs)=a+b:=by
 unfold Fc;by_cases h1:a<0 <;> by_cases h2:b<0 <;> simp[h1,h2]at h ⊢ <;> omega
theorem VY(a:Int):(∃m:Nat,a=(m:Int))\/∃m:Nat,a=-(m:Int)/\0<m:=by
 rcases Kd a 0 with h|h
 ·exact .inr ⟨a.natAbs,by omega,by omega⟩
 ·exact .inl ⟨a.natAbs,by omega⟩
theorem Qqz(a b:Int):Fc (!(decide (a<0) == decide (b<0))) (a.natAbs*b.natAbs)=a*b:=by
 rcases VY a with⟨m,rfl⟩|⟨m,rfl,hm⟩ <;> rcases VY b with⟨n,rfl⟩|⟨n,rfl,hn⟩
 ·simp[Fc,show ¬((m:Int)<0) by omega,show ¬((n:Int)<0) by omega]
 ·simp[Fc,show ¬((m:Int)<0) by omega,show(-(n:Int)<0) by omega,hn,V8]
 ·simp[Fc,show(-(m:Int)<0) by omega,show ¬((n:Int)<0) by omega,hm,Ko]
 ·simp[Fc,show(-(m:Int)<0) by omega,show(-(n:Int)<0) by omega,hm,hn,W8]
theorem Qqy{a b:Int}(h:a % b=0):Fc (!(decide (a<0) == decide (b<0))) (a.natAbs / b.natAbs)=a / b:=by
 by_cases hb:b=0
 ·subst hb;simp[Fc]
 obtain⟨c,rfl⟩:=Vg h;rw[Jf _ hb,J9,Nat.mul_div_cancel_left _ (by omega)];rcases VY b with⟨n,rfl⟩|⟨n,rfl,hn⟩ <;> rcases VY c with⟨m,rfl⟩|⟨m,rfl,hm⟩
 ·have:¬((n:Int)*(m:Int)<0):=by rw[<-Vj];omega
  simp[Fc,this,show ¬((n:Int)<0) by omega]
 ·have h1:0<n*m:=J5 (by omega) hm;have:((n:Int)*-(m:Int)<0):=by rw[V8,<-Vj];omega
  simp only[this,show ¬((n:Int)<0) by omega];simp[Fc]
 ·by_cases h0:m=0
  ·subst h0;simp[Fc]
  ·have h1:0<n*m:=J5 hn (by omega);have:(-(n:Int)*(m:Int)<0):=by rw[Ko,<-Vj];omega
   simp only[this,show(-(n:Int)<0) by omega];simp[Fc]
 ·have:¬(-(n:Int)*-(m:Int)<0):=by rw[W8,<-Vj];omega
  simp only[this,show(-(n:Int)<0) by omega];simp[Fc]
theorem eL{x y:Nat}:0<=ZN x y↔y<=x:=by
 unfold ZN;constructor
 ·intro h;split at h
  ·omega
  ·omega
 ·intro h;split
  ·omega
  ·split <;> omega
theorem CM{x e:Nat}(h:(Gk x).length=1)(he:(Gk x)[0]? = some e):x=e:=by
 rcases hd:Gk x with _|⟨u,l⟩
 ·rw[hd]at h;cases h
 ·rcases l with _|⟨w,l⟩
  ·rw[hd]at he;simp at he;have:=Rf x;rw[hd]at this;simp[Tk]at this;omega
  ·rw[hd]at h;simp at h
theorem nG{a b:Int}(hb:0<b):ri (a / ((Int.gcd a b:Nat):Int))++ri (b / ((Int.gcd a b:Nat):Int))=fr (Rat.divInt a b):=by
 obtain⟨h1,h2⟩:=iG (n:=a) hb;rw[Lh,Int.gcd_comm]at h1 h2;rw[h1,h2]
theorem nH(a:Int):ri a++ri 1=fr (Rat.divInt a 1):=by
 have h:=nG (a:=a) (b:=1) (by decide);rw[show((Int.gcd a 1:Nat):Int)=1 by simp]at h;simpa using h
theorem qJ{a b:Int}(hb:b≠0)(ha2:Ff a<=90000000)(hb2:Ff b<=90000000):Ff ((Int.gcd a b:Nat):Int)<=90000000/\((Int.gcd a b:Nat):Int)≠0/\a % ((Int.gcd a b:Nat):Int)=0/\b % ((Int.gcd a b:Nat):Int)=0:=by
 have h1:=aA (n:=a) hb hb2;have h2:=fH (n:=a) hb;have h3:=DO a b;have h4:=LQ a b;rw[Lh,Int.gcd_comm]at h1 h2 h3 h4;exact⟨h1,by omega,h3,h4⟩
theorem zG{a b:Int}(h:b<0):Gj a b=Rat.divInt (-a) (-b):=by
 unfold Gj;rw[if_neg (by omega)];exact(Rat.neg_divInt_neg a b).symm
theorem zH{a b:Int}(h:0<b):Gj a b=Rat.divInt a b:=by
 unfold Gj;rw[if_neg (by omega)]
theorem IT(a b:Rat):Gj (a.num*(b.den:Int)+b.num*(a.den:Int)) ((a.den:Int)*(b.den:Int))=a+b:=by
 unfold Gj;rw[if_neg (X7 (Dq a) (Dq b)),<-Rat.divInt_add_divInt _ _ (Dq a) (Dq b),Z5,Z5]
theorem qN(a b:Rat):Gj (a.num*b.num) ((a.den:Int)*(b.den:Int))=a*b:=by
 unfold Gj;rw[if_neg (X7 (Dq a) (Dq b)),<-Rat.divInt_mul_divInt,Z5,Z5]
theorem zF{a b:Rat}(h:b≠0):Gj (a.num*(b.den:Int)) ((a.den:Int)*b.num)=a / b:=by
 have hn:b.num≠0:=λe=>h (Rat.num_eq_zero.1 e)
 unfold Gj;rw[if_neg (X7 (Dq a) hn),<-Rat.divInt_mul_divInt,Z5,J6];congr 1
 conv=>rhs;rw[<-Z5 b,Rat.inv_divInt]
theorem Qj9{s:Nat}{a b:Rat}(ha:Qs s a)(hb:Qs s b):Qs (2*s+1) (a+b):=by
 rw[<-IT];unfold Gj;rw[if_neg (X7 (Dq a) (Dq b))];refine Qs.divInt (Qa (QA _ _) ?_) (Qa (Ga _ _) (by have:=ha.2;have:=hb.2;omega)) (by omega);have h1:=Ga a.num (b.den:Int);have h2:=Ga b.num (a.den:Int);have:=ha.1;have:=ha.2;have:=hb.1;have:=hb.2;omega
theorem mH{a b:Int}(ha:Ff a<=200000000)(hb:Ff b<=200000000):Uj 115 [.agg (ri a),.agg (ri b)] [.agg (ri (a+b))]:=by
 by_cases hs:(decide (a<0) == decide (b<0))=true
 ·have cm:=Ny (decide (a<0)) (a.natAbs+b.natAbs);rw[Qqx hs]at cm;exact Ug func115 rfl [.t hs,.k (Qto ha hb),.k cm] rfl
 ·have hs':(decide (a<0) == decide (b<0))=false:=by simpa using hs
  by_cases hl:b.natAbs<=a.natAbs
  ·have cm:=Ny (decide (a<0)) (a.natAbs-b.natAbs);rw[Qq0 hs hl]at cm;exact Ug func115 rfl [.f hs',.k (mZ ha hb),.t (decide_eq_true (eL.2 hl)),.k (mU ha hb hl),.k cm] rfl
  ·have cm:=Ny (decide (b<0)) (b.natAbs-a.natAbs);rw[Qkx hs hl]at cm;exact Ug func115 rfl [.f hs',.k (mZ ha hb),.f (decide_eq_false λh=>hl (eL.1 h)),.k (mU hb ha (by omega)),.k cm] rfl
theorem Qf3{a b:Int}(ha:Ff a<=200000000)(hb:Ff b<=200000000):Uj 144 [.agg (ri a),.agg (ri b)] [.agg (ri (a-b))]:=by
 have ca:=mH (a:=a) (b:=-b) ha (by rw[Hn];exact hb);rw[show a+-b=a-b from by omega]at ca;exact Ug func144 rfl [.k (QG (z:=b)),.k ca] rfl
theorem Ah{a b:Int}(ha:Ff a<=200000000)(hb:Ff b<=200000000):Uj 73 [.agg (ri a),.agg (ri b)] [.agg (ri (a*b))]:=by
 have cm:=Ny (!(decide (a<0) == decide (b<0))) (a.natAbs*b.natAbs);rw[Qqz]at cm;exact Ug func73 rfl [.k (Qtz ha hb),.k cm] rfl
theorem BA{a b:Int}(ha:Ff a<=90000000)(hb:Ff b<=90000000)(h0:b≠0)(hd:a % b=0):Uj 139 [.agg (ri a),.agg (ri b)] [.agg (ri (a / b))]:=by
 have cm:=Ny (!(decide (a<0) == decide (b<0))) (a.natAbs / b.natAbs);rw[Qqy hd]at cm;exact Ug func139 rfl [.k (mY ha hb (by omega)),.k cm] rfl
theorem Qwf(x:Nat):ri ((x:Nat):Int)=[nd x,.bool false]:=by
 unfold ri sg;rw[Xh,decide_eq_false (by omega)]
theorem jW{a b:Int}(ha:Ff a<=90000000)(hb:Ff b<=90000000):Uj 138 [.agg (ri a),.agg (ri b)] [.agg (ri ((Int.gcd a b:Nat):Int))]:=by
 rw[Qwf];refine Fx func138 rfl ?_;refine Ud [] rfl ?_;refine Ui (S:=Nat×Nat) 3 (λL1 s=>(5,.v (.one (nd s.1)))::(6,.v (.one (nd s.2)))::L1) (λ_=>[.blk 49 (ri a),.blk 49 (ri b),.blk 49 [.nils,.bool false]]) (λs=>s.2) (λs=>Nat.gcd s.1 s.2=Int.gcd a b/\sz s.1<=90000000/\sz s.2<=90000000) (a.natAbs,b.natAbs) ⟨rfl,ha,hb⟩ rfl rfl λs hs=>?_
 obtain⟨x,y⟩:=s;obtain⟨hp0,hp1,hp2⟩:=hs;dsimp only at hp0 hp1 hp2 ⊢;have hyn:=MB (x:=y);have hyl:=UL y;by_cases h1:y=0
 ·have e:Int.gcd a b=x:=by rw[<-hp0,h1,Nat.gcd_zero_right]
  rw[e];exact Uf [.f (by simp only[T0];exact decide_eq_false (by omega))] rfl
 ·have hlt:=Z4 x (show 0<y by omega);refine Ud [.t (by simp only[T0];exact decide_eq_true (by omega)),.k (mY hp1 hp2 (by omega))] rfl ?_;exact rd (y,x % y) (by dsimp only;omega) ⟨by dsimp only;rw[<-hp0,Nat.gcd_comm x y,Nat.gcd_rec y x,Nat.gcd_comm],hp2,Nat.le_trans (Ri (by dsimp only;omega)) hp2⟩ rfl
theorem YU{a b:Int}(ha:Ff a<=90000000)(hb:Ff b<=90000000):Uj 68 [.agg (ri a),.agg (ri b)] [.agg (fr (Gj a b))]:=by
 rcases Km b 0 with hs|hs|hs
 ·skip
  by_cases h1:-b=1
  ·have h0:(Bz (Gk (-b).natAbs))[0]? = some [LV.int .i64 1]:=by rw[h1,show(1:Int).natAbs=1 from rfl,Ij];rfl
   have hl1:decide (((Bz (Gk (-b).natAbs)).length:Int)=1)=true:=by rw[h1,show(1:Int).natAbs=1 from rfl,Ij];rfl
   have e:fr (Gj a b)=ri (-a)++ri (-b):=by rw[zG hs,h1];exact(nH _).symm
   rw[e];exact Ug func68 rfl [.k (Dz (z:=b)),.F,.t (decide_eq_true hs),.k (QG (z:=a)),.k (QG (z:=b)),.g 19 true hl1,.x h0,.t rfl] rfl
  ·have hgf:=qJ (a:=-a) (b:=-b) (by omega) (by first|exact ha|(rw[Hn];exact ha)) (by first|exact hb|(rw[Hn];exact hb));have cg:=jW (a:=-a) (b:=-b) (by first|exact ha|(rw[Hn];exact ha)) (by first|exact hb|(rw[Hn];exact hb));have q1:=BA (a:=-a) (b:=((Int.gcd (-a) (-b):Nat):Int)) (by first|exact ha|(rw[Hn];exact ha)) hgf.1 hgf.2.1 hgf.2.2.1;have q2:=BA (a:=-b) (b:=((Int.gcd (-a) (-b):Nat):Int)) (by first|exact hb|(rw[Hn];exact hb)) hgf.1 hgf.2.1 hgf.2.2.2;have e:fr (Gj a b)=ri ((-a) / ((Int.gcd (-a) (-b):Nat):Int))++ri ((-b) / ((Int.gcd (-a) (-b):Nat):Int)):=by rw[zG hs];exact(nG (by omega)).symm
   rw[e];have hl:=UL (-b).natAbs;by_cases hl1:(Gk (-b).natAbs).length=1
   ·obtain⟨u,hu⟩:=gxE (l:=(Gk (-b).natAbs)) (i:=0) (by omega);have hue:=CM hl1 hu;exact Ug func68 rfl [.k (Dz (z:=b)),.F,.t (decide_eq_true hs),.k (QG (z:=a)),.k (QG (z:=b)),.g 19 true (by simp only[T0];exact decide_eq_true (by omega)),.x (Gz hu),.F,.k cg,.k q1,.k q2] rfl
   ·exact Ug func68 rfl [.k (Dz (z:=b)),.F,.t (decide_eq_true hs),.k (QG (z:=a)),.k (QG (z:=b)),.g 19 false (by simp only[T0];exact decide_eq_false (by omega)),.f rfl,.k cg,.k q1,.k q2] rfl
 ·subst hs;have h0:(Bz (Gk (1:Int).natAbs))[0]? = some [LV.int .i64 1]:=by rw[show(1:Int).natAbs=1 from rfl,Ij];rfl
  have h1:decide (((Bz (Gk (1:Int).natAbs)).length:Int)=1)=true:=by rw[show(1:Int).natAbs=1 from rfl,Ij];rfl
  have e:fr (Gj a 0)=ri a++ri 1:=(nH a).symm;rw[e];exact Ug func68 rfl [.k (Dz (z:=0)),.t rfl,.k (ZH (n:=1) (by decide)),.f rfl,.g 19 true h1,.x h0,.t rfl] rfl
 ·skip
  by_cases h1:b=1
  ·have h0:(Bz (Gk (b).natAbs))[0]? = some [LV.int .i64 1]:=by rw[h1,show(1:Int).natAbs=1 from rfl,Ij];rfl
   have hl1:decide (((Bz (Gk (b).natAbs)).length:Int)=1)=true:=by rw[h1,show(1:Int).natAbs=1 from rfl,Ij];rfl
   have e:fr (Gj a b)=ri (a)++ri (b):=by rw[zH hs,h1];exact(nH _).symm
   rw[e];exact Ug func68 rfl [.k (Dz (z:=b)),.F,.F,.g 19 true hl1,.x h0,.t rfl] rfl
  ·have hgf:=qJ (a:=a) (b:=b) (by omega) (by first|exact ha|(rw[Hn];exact ha)) (by first|exact hb|(rw[Hn];exact hb));have cg:=jW (a:=a) (b:=b) (by first|exact ha|(rw[Hn];exact ha)) (by first|exact hb|(rw[Hn];exact hb));have q1:=BA (a:=a) (b:=((Int.gcd (a) (b):Nat):Int)) (by first|exact ha|(rw[Hn];exact ha)) hgf.1 hgf.2.1 hgf.2.2.1;have q2:=BA (a:=b) (b:=((Int.gcd (a) (b):Nat):Int)) (by first|exact hb|(rw[Hn];exact hb)) hgf.1 hgf.2.1 hgf.2.2.2;have e:fr (Gj a b)=ri ((a) / ((Int.gcd (a) (b):Nat):Int))++ri ((b) / ((Int.gcd (a) (b):Nat):Int)):=by rw[zH hs];exact(nG (by omega)).symm
   rw[e];have hl:=UL (b).natAbs;by_cases hl1:(Gk (b).natAbs).length=1
   ·obtain⟨u,hu⟩:=gxE (l:=(Gk (b).natAbs)) (i:=0) (by omega);have hue:=CM hl1 hu;exact Ug func68 rfl [.k (Dz (z:=b)),.F,.F,.g 19 true (by simp only[T0];exact decide_eq_true (by omega)),.x (Gz hu),.F,.k cg,.k q1,.k q2] rfl
   ·exact Ug func68 rfl [.k (Dz (z:=b)),.F,.F,.g 19 false (by simp only[T0];exact decide_eq_false (by omega)),.f rfl,.k cg,.k q1,.k q2] rfl
theorem Qx5{n d:Int}(hn:-1000000000<=n/\n<=1000000000)(hd:-1000000000<=d/\d<=1000000000):Uj 15 [.oi n,.oi d] [.agg (fr (Gj n d))]:=by
 have b1:Ff n<=90000000:=Qa (Sj.2 (show n.natAbs<2^40 by omega)) (by decide);have b2:Ff d<=90000000:=Qa (Sj.2 (show d.natAbs<2^40 by omega)) (by decide);exact Ug func15 rfl [.k (ZH (by omega)),.k (ZH (by omega)),.k (YU b1 b2)] rfl
theorem Qt1{a:Rat}:Uj 87 [.agg (fr a)] [.agg (fr (-a))]:=by
 have e:fr (-a)=ri (-a.num)++ri (a.den:Int):=rfl;rw[e];exact Ug func87 rfl [.k (QG (z:=a.num))] rfl
theorem xC{a b:Rat}(ha:Qs 20000000 a)(hb:Qs 20000000 b):Uj 50 [.agg (fr a),.agg (fr b)] [.agg (fr (a+b))]:=by
 have k1:=Ga a.num (b.den:Int);have k2:=Ga b.num (a.den:Int);have k3:=Ga (a.den:Int) (b.den:Int);have k4:=QA (a.num*(b.den:Int)) (b.num*(a.den:Int));have h1:=ha.1;have h2:=ha.2;have h3:=hb.1;have h4:=hb.2;have cm:=YU (a:=a.num*(b.den:Int)+b.num*(a.den:Int)) (b:=(a.den:Int)*(b.den:Int)) (by omega) (by omega);rw[IT]at cm;exact Ug func50 rfl [.k (Ah (a:=a.num) (b:=(b.den:Int)) (by omega) (by omega)),.k (Ah (a:=b.num) (b:=(a.den:Int)) (by omega) (by omega)),.k (mH (by omega) (by omega)),.k (Ah (a:=(a.den:Int)) (b:=(b.den:Int)) (by omega) (by omega)),.k cm] rfl
theorem Qe4{a b:Rat}(ha:Qs 40000000 a)(hb:Qs 40000000 b):Uj 120 [.agg (fr a),.agg (fr b)] [.agg (fr (a*b))]:=by
 have k1:=Ga a.num b.num;have k3:=Ga (a.den:Int) (b.den:Int);have h1:=ha.1;have h2:=ha.2;have h3:=hb.1;have h4:=hb.2;have cm:=YU (a:=a.num*b.num) (b:=(a.den:Int)*(b.den:Int)) (by omega) (by omega);rw[qN]at cm;exact Ug func120 rfl [.k (Ah (a:=a.num) (b:=b.num) (by omega) (by omega)),.k (Ah (a:=(a.den:Int)) (b:=(b.den:Int)) (by omega) (by omega)),.k cm] rfl
theorem mV{a b:Rat}(ha:Qs 40000000 a)(hb:Qs 40000000 b)(h0:b≠0):Uj 247 [.agg (fr a),.agg (fr b)] [.agg (fr (a / b))]:=by
 have k1:=Ga a.num (b.den:Int);have k3:=Ga (a.den:Int) b.num;have h1:=ha.1;have h2:=ha.2;have h3:=hb.1;have h4:=hb.2;have cm:=YU (a:=a.num*(b.den:Int)) (b:=(a.den:Int)*b.num) (by omega) (by omega);rw[zF h0]at cm;exact Ug func247 rfl [.k (Ah (a:=a.num) (b:=(b.den:Int)) (by omega) (by omega)),.k (Ah (a:=(a.den:Int)) (b:=b.num) (by omega) (by omega)),.k cm] rfl
end Orr
namespace Orr
def Dk:Up->Up
 | []=>[]
 |
  x::l=>match Dk l with
  | []=>if x=0 then []else [x]
  |y::k=>x::y::k
theorem JC:∀{l:Up},(∀x∈l,x=0)->Dk l=[]
 | [],_=>rfl
 |
  x::l,h=>by
  have ih:=JC (l:=l) (λy hy=>h y (Qg _ hy));simp[Dk,ih,h x (Qy ..)]
theorem ED:∀{l:Up} {m:Nat} {y:Rat},(∀j x,m<j->l[j]? = some x->x=0)->l[m]? = some y->y≠0->Dk l=l.take (m+1)
 | [],m,y,_,h,_=>by simp at h
 |
  x::l,0,y,h1,h2,h3=>by
  have h0:Dk l=[]:=JC λz hz=>by
   obtain⟨j,hj⟩:=Zk.1 hz;exact h1 (j+1) z (by omega) (by simpa using hj)
  simp at h2;subst h2;simp[Dk,h0,h3]
 |
  x::l,m+1,y,h1,h2,h3=>by
  have ih:=ED (l:=l) (m:=m) (y:=y) (λj z hj hz=>h1 (j+1) z (by omega) (by simpa using hz)) (by simpa using h2) h3;cases hl:l with
  |nil=>subst hl;simp at h2
  |
   cons u k =>
   subst hl;rw[Vf]at ih;simp only[Dk]at ih ⊢;rw[ih];simp
theorem zC{l:Up}{m:Nat}(hm:m<=l.length)(h1:∀j x,m<=j->l[j]? = some x->x=0)(h2:0<m->∃y,l[m-1]? = some y/\y≠0):Dk l=l.take m:=by
 rcases Q3 m with h0|h0
 ·subst h0;rw[JC λz hz=>?_];rfl;obtain⟨j,hj⟩:=Zk.1 hz;exact h1 j z (by omega) hj
 ·obtain⟨y,hy,hy0⟩:=h2 h0;have:=ED (l:=l) (m:=m-1) (y:=y) (λj x hj hx=>h1 j x (by omega) hx) hy hy0;rwa[show m-1+1=m from by omega]at this
theorem zL:∀(l:Up),∀z∈Dk l,z∈l
 | [],z,h=>h
 |
  x::l,z,h=>by
  simp only[Dk]at h;have ih:=zL l
  split at h
  ·split at h
   ·cases h
   ·simp at h;simp[h]
  ·rename_i y k e;rw[e]at ih;rcases Qn.1 h with h|h
   ·simp[h]
   ·exact Qg _ (ih z h)
theorem zD:∀(l:Up),(Dk l).length<=l.length
 | []=>Ql _
 |
  x::l=>by
  have ih:=zD l;simp only[Dk]
  split
  ·split <;> simp
  ·rename_i y k e;rw[e]at ih;simp at ih ⊢;omega
def zp(p:Um):Up:=p.map λ(z:Int)=>(z:Rat)
theorem E4:∀(p:Um),Dk (zp p)=zp (trim p)
 | []=>rfl
 |
  x::l=>by
  have ih:=E4 l;unfold zp at ih ⊢;simp only[Z0,Dk,trim,ih];cases h:trim l with
  |
   nil =>
   simp only[X9];by_cases hx:x=0
   ·subst hx;simp
   ·have:(x:Rat)≠0:=λe=>hx (by exact_mod_cast e)
    simp[hx,this]
  |cons y k=>simp
theorem A6(p:Um):(zp p).length=p.length:=Q9 _
theorem Qxg{p:Um}{i:Nat}{z:Int}(h:p[i]? = some z):(zp p)[i]? = some (z:Rat):=by simp[zp,h]
theorem NL(p:Um)(i:Nat):(zp p).getD i 0=((p.getD i 0:Int):Rat):=by
 simp only[Qi,zp,Q7];cases p[i]? <;> rfl
def Rb(s:Nat)(p:Up):Prop:=∀q∈p,Qs s q
theorem Rb.mono{s t:Nat}{p:Up}(h:Rb s p)(ht:s<=t):Rb t p:=λq hq=>(h q hq).mono ht
theorem Rb.get{s:Nat}{p:Up}(h:Rb s p){i:Nat}{q:Rat}(hq:p[i]? = some q):Qs s q:=h q (Qc hq)
theorem Ay{s:Nat}{z:Int}(h:Ff z<=s)(h1:1<=s):Qs s (z:Rat):=⟨by simpa using h,Qa (show Ff ((1:Nat):Int)<=1 by decide) h1⟩
theorem zS{s:Nat}{p:Um}(h:Bd s p)(h1:1<=s):Rb s (zp p):=λq hq=>by
 obtain⟨z,hz,rfl⟩:=Za.1 hq;exact Ay (h z hz) h1
theorem Qqg{s:Nat}(h1:1<=s):Qs s 0:=Ay (z:=0) (by simp[Nk]) h1
theorem Rb.getD{s:Nat}{p:Up}(h:Rb s p)(h1:1<=s)(i:Nat):Qs s (p.getD i 0):=by
 rw[Qi];cases e:p[i]? with
 |none=>exact Qqg h1
 |some q=>exact h.get e
theorem Rb.trim{s:Nat}{p:Up}(h:Rb s p):Rb s (Dk p):=λq hq=>h q (zL p q hq)
def VD(f:Nat->Rat)(n:Nat):Up:=(List.range n).map f
theorem AZ(f:Nat->Rat)(n:Nat):(VD f n).length=n:=by simp[VD]
theorem xZ(f:Nat->Rat)(n:Nat):VD f (n+1)=VD f n++[f n]:=by simp[VD,Wb]
theorem Qq8{s n:Nat}{f:Nat->Rat}(h:∀i,i<n->Qs s (f i)):Rb s (VD f n):=λq hq=>by
 obtain⟨i,hi,rfl⟩:=Za.1 hq;exact h i (Kj.1 hi)
theorem vE{f:Nat->Rat}{g:Nat->Int}(n:Nat)(h:∀i,i<n->f i=(g i:Rat)):VD f n=zp ((List.range n).map g):=by
 simp only[VD,zp,List.map_map];exact Xk λi hi=>h i (Kj.1 hi)
def Qde(p q:Up):Up:=Dk (VD (λi=>p.getD i 0+q.getD i 0) (max p.length q.length))
def ZY(p:Up)(c:Rat):Up:=Dk (VD (λi=>p.getD i 0*c) p.length)
def vP(p:Up):Up:=ZY p (-1)
def Qsz(p q:Up):Up:=Qde p (vP q)
theorem Qqi(p q:Um):Qde (zp p) (zp q)=zp (A8 p q):=by
 unfold Qde A8 A7;rw[vE (g:=λk=>p.getD k 0+q.getD k 0) _ λi _=>by rw[NL,NL,Kc],E4,A6,A6]
theorem zN(p:Um)(c:Int):ZY (zp p) (c:Rat)=zp (Fq p c):=by
 unfold ZY Fq A7;rw[vE (g:=λk=>p.getD k 0*c) _ λi _=>by rw[NL,X1],E4,A6]
theorem cV(p:Um):Fq p (-1)=My p:=by
 unfold Fq My A7;congr 2;funext k;omega
theorem Qac(p:Um):vP (zp p)=zp (My p):=by
 rw[<-cV,<-zN];rfl
theorem fZ{p q:Um}(hp:Fg p)(hq:Fg q)(h:∀k,p.getD k 0=q.getD k 0):p=q:=by
 have key:∀{p q:Um},Fg q->(∀k,p.getD k 0=q.getD k 0)->q.length<=p.length:=by
  intro p q hq h;rcases Zb p.length q.length with h1|h1
  ·have h2:=H6 hq (by omega);rw[<-h,Qi,Qw (by omega)]at h2;exact(h2 rfl).elim
  ·exact h1
 exact DK (Kb (key hp λk=>(h k).symm) (key hq h)) λj _=>h j
theorem nY{n m:Nat}{f g:Nat->Int}(hn:n<=m)(h:∀k,k<n->f k=g k)(h0:∀k,n<=k->k<m->g k=0):A7 n f=A7 m g:=by
 refine fZ (Fz _ _) (Fz _ _) λk=>?_
 rw[Pf,Pf];by_cases h1:k<n
 ·rw[if_pos h1,if_pos (by omega),h k h1]
 ·rw[if_neg h1];by_cases h2:k<m
  ·rw[if_pos h2,h0 k (by omega) h2]
  ·rw[if_neg h2]
theorem Qqq(p q:Um):Qsz (zp p) (zp q)=zp (Nf p q):=by
 unfold Qsz;rw[Qac,Qqi];congr 1;have hl:=XI q;unfold A8 Nf;refine nY (by omega) (λk _=>?_) λk h1 h2=>?_
 ·unfold My;rw[Pf]
  split
  ·omega
  ·rename_i h;have:q.getD k 0=0:=by rw[Qi,Qw (by omega)];rfl
   omega
 ·have h3:p.getD k 0=0:=by rw[Qi,Qw (by omega)];rfl
  have h4:(My q).getD k 0=0:=by rw[Qi,Qw (by omega)];rfl
  unfold My at h4;rw[Pf]at h4
  split at h4
  ·omega
  ·have:q.getD k 0=0:=by rw[Qi,Qw (by omega)];rfl
   omega
end Orr
namespace Orr
open Go Go.Proofs Tryz
set_option maxRecDepth 10000
def frow(p:Up):Us:=p.map fr
theorem Co(p:Up):(frow p).length=p.length:=by simp[frow]
theorem XR{p:Up}{i:Nat}{q:Rat}(h:p[i]? = some q):(frow p)[i]? = some (fr q):=G6 h
theorem qZ(p:Up)(q:Rat):frow (p++[q])=frow p++[fr q]:=by simp[frow]
theorem Qci(p:Up):∀c∈frow p,c.length=4:=λc hc=>by obtain⟨x,_,rfl⟩:=Za.1 hc;rfl
abbrev rp(p:Up):LV:=.row (frow p)
theorem Qc4(q:Rat):∀c∈[fr q],c.length=4:=λc hc=>by rw[Qk.1 hc];rfl
theorem Qf2:Uj 246 [] [.agg (fr 0)]:=Ug func246 rfl [.k (XZ (n:=0) (by decide))] rfl
theorem KC{p:Up}:Uj 89 [.one (rp p)] [.one (rp (Dk p))]:=by
 refine Fx func89 rfl (ln 0 rfl rfl λhl=>?_);rw[Co]at hl;have hpl:=Co p;refine Ud [] rfl ?_;refine lp (S:=Nat) 0 (λL1 n=>(3,.v (.oi n))::L1) (λ_=>[]) id (λn=>n<=p.length/\∀j x,n<=j->p[j]? = some x->x=0) (frow p).length ⟨by rw[hpl];exact Ql _,λj x h1 h2=>by
  have:=(Qf.1 h2).1;rw[hpl]at h1;omega⟩ rfl (λ_ _=>rfl) rfl λn hs=>?_
 obtain⟨h1,h2⟩:=hs;cases n with
 |
  zero =>
  have e:=zC h1 (λj x h=>h2 j x h) (λh=>absurd h (by decide));exact Uf [.g 8 false (by simp),.f rfl,.i 0] rfl (by rw[e];rfl) (by simp[U4])
 |
  succ n =>
  obtain⟨x,hx⟩:=gxE (l:=p) (i:=n) (by omega);have hn:=Rat.num_eq_zero (q:=x);by_cases h0:x=0
  ·refine Ue [.g 8 true (by simp),.r 11 (eI (b:=(n:Int)) (by simp)),.x (XR hx),.k (Dz (z:=x.num)),.t (decide_eq_true (hn.2 h0)),.r 18 (eI (b:=(n:Int)) (by simp))] rfl ?_;exact rd n (by simp) ⟨by omega,λj y h3 h4=>by
    rcases Vl h3 with rfl|h3
    ·rw[hx]at h4;injection h4 with h4;rw[<-h4,h0]
    ·exact h2 j y h3 h4⟩ rfl
  ·have e:=zC h1 (λj x h=>h2 j x h) (λ_=>⟨x,hx,h0⟩);exact Uf [.g 8 true (by simp),.r 11 (eI (b:=(n:Int)) (by simp)),.x (XR hx),.k (Dz (z:=x.num)),.f (decide_eq_false λh=>h0 (hn.1 h)),.i (n+1)] rfl (by rw[e];simp[rp,frow,Jv]) (by simp[U4,hpl] <;> omega)
theorem Qr7{p:Up}{i:Nat}(hi:i<1099511627776):Uj 323 [.one (rp p),.oi i] [.agg (fr (p.getD i 0))]:=by
 have hpl:=Co p;by_cases h:i<p.length
 ·have e:p.getD i 0=p[i]:=by rw[Qi,Qe h];rfl
  rw[e];exact Ug func323 rfl [.g 7 false Uk,.F,.x (XR (Qe h))] rfl
 ·have e:p.getD i 0=0:=by rw[Qi,Qw (by omega)];rfl
  rw[e];exact Ug func323 rfl [.g 7 false Uk,.T,.k Qf2] rfl
theorem Qgg:Uj 178 [.one (ids [1])] [.one (rp (zp [1]))]:=by
 have cc:=KC (p:=zp [1]);rw[E4,show trim [1]=[1] from rfl]at cc;refine Fx func178 rfl ?_;refine Ud [.o 3 51 4] rfl ?_;refine Ui (S:=Nat) 1 (λL1 i=>(7,.v (.oi i))::(3,.v (.one (.orow 0 4 none)))::L1) (λi=>[.row false 51 4 (frow ((zp [1]).take i))]) (λi=>1-i) (λi=>i<=1) 0 (by decide) rfl rfl λi hi=>?_
 rcases(show i=0\/i=1 by omega)with rfl|rfl
 ·refine go tt [.t rfl,.x (l:=idl [1]) (i:=0) (xs:=[.int .i64 1]) rfl,.k (XZ (n:=1) (by decide)),.s (sz:=4) (Qc4 _)] rfl (by simp[U4,frow]) ?_;exact rd 1 (by omega) (by omega) rfl
 ·exact Uf [.f rfl,.k cc] rfl
theorem Que{p q:Up}(hp:Rb 20000000 p)(hq:Rb 20000000 q)(hlp:p.length<=1000000)(hlq:q.length<=1000000):Uj 293 [.one (rp p),.one (rp q)] [.one (rp (Qde p q))]:=by
 have h1:=Co p;have h2:=Co q;obtain⟨M,hM⟩:=nmE (max p.length q.length);have cc:=KC (p:=VD (λi=>p.getD i 0+q.getD i 0) M);unfold Qde;rw[<-hM];refine Fx func293 rfl ?_;refine Ud [.o 5 51 4] rfl ?_;refine Ui (S:=Nat) 1 (λL1 i=>(6,.v (.oi i))::(5,.v (.one (.orow 0 4 none)))::L1) (λi=>[.row false 51 4 (frow (VD (λi=>p.getD i 0+q.getD i 0) i))]) (λi=>M-i) (λi=>i<=M) 0 (Qh _) rfl rfl λi hi=>?_
 have hol:(frow (VD (λi=>p.getD i 0+q.getD i 0) i)).length=i:=by rw[Co,AZ]
 by_cases h:i<M
 ·refine go tt [.r 12 (eI (b:=(M:Int)) (by omega)),.T,.k (Qr7 (p:=p) (i:=i) (by omega)),.k (Qr7 (p:=q) (i:=i) (by omega)),.k (xC (hp.getD (by decide) i) (hq.getD (by decide) i)),.s (sz:=4) (Qc4 _)] rfl (by simp[U4,hol,-List.getD_eq_getElem?_getD];omega) ?_;exact rd (i+1) (by omega) h (by rw[xZ,qZ];rfl)
 ·have e:i=M:=by omega
  rw[e];exact Uf [.r 12 (eI (b:=(M:Int)) (by omega)),.F,.k cc] rfl
theorem CQ{p:Up}{c:Rat}(hp:Rb 40000000 p)(hc:Qs 40000000 c)(hlp:p.length<=1000000):Uj 221 [.one (rp p),.agg (fr c)] [.one (rp (ZY p c))]:=by
 have h1:=Co p;have cc:=KC (p:=VD (λi=>p.getD i 0*c) p.length);unfold ZY;refine Fx func221 rfl ?_;refine Ud [.o 5 51 4] rfl ?_;refine Ui (S:=Nat) 2 (λL1 i=>(9,.v (.oi i))::(5,.v (.one (.orow 1 4 none)))::L1) (λi=>[.blk 51 (fr c),.row false 51 4 (frow (VD (λi=>p.getD i 0*c) i))]) (λi=>p.length-i) (λi=>i<=p.length) 0 (Qh _) rfl rfl λi hi=>?_
 have hol:(frow (VD (λi=>p.getD i 0*c) i)).length=i:=by rw[Co,AZ]
 by_cases h:i<p.length
 ·have hg:p[i]? = some (p.getD i 0):=by rw[Qi,Qe h];rfl
  refine go tt [.T,.x (XR hg),.k (Qe4 (hp.getD (by decide) i) hc),.s (sz:=4) (Qc4 _)] rfl (by simp[U4,hol,-List.getD_eq_getElem?_getD];omega) ?_;exact rd (i+1) (by omega) h (by rw[xZ,qZ];rfl)
 ·have e:i=p.length:=by omega
  rw[e];exact Uf [.F,.k cc] rfl
theorem Qgf{p:Up}(hp:Rb 40000000 p)(hlp:p.length<=1000000):Uj 157 [.one (rp p)] [.one (rp (vP p))]:=by
 have cs:=CQ (p:=p) (c:=-1) hp ⟨by decide,by decide⟩ hlp;have co:=XZ (n:=-1) (by decide);rw[show((-1:Int):Rat)=-1 from rfl]at co;exact Ug func157 rfl [.k co,.k cs] rfl
theorem Qqe{s t:Nat}{a b:Rat}(ha:Qs s a)(hb:Qs t b):Qs (s+t+1) (a*b):=by
 rw[<-qN];unfold Gj;rw[if_neg (X7 (Dq a) (Dq b))];have h1:=Ga a.num b.num;have h2:=Ga (a.den:Int) (b.den:Int);have:=ha.1;have:=ha.2;have:=hb.1;have:=hb.2;exact Qs.divInt (by omega) (by omega) (by omega)
theorem Qwd{s:Nat}{p:Up}(hp:Rb s p):Rb (s+2) (vP p):=by
 unfold vP ZY;refine Rb.trim (Qq8 λi hi=>?_);have h1:Qs (s+0) (p.getD i 0):=by
  have hi:i<p.length:=hi;rw[Qi,Qe hi];exact hp _ (Xt hi)
 have:=Qqe h1 (show Qs 1 (-1:Rat) from⟨by decide,by decide⟩);exact this.mono (by omega)
theorem Qki(p:Up):(vP p).length<=p.length:=by
 unfold vP ZY;exact Qa (zD _) (by rw[AZ];exact Ql _)
theorem Qe5{a b:Int}(ha:Ff a<=40000000)(hb:Ff b<=40000000):Uj 120 [.agg (fr (a:Rat)),.agg (fr (b:Rat))] [.agg (fr ((a*b:Int):Rat))]:=by
 have h:=Qe4 (Ay ha (by decide)) (Ay hb (by decide));rw[<-X1]at h;exact h
theorem Qtp{a b:Int}(ha:Ff a<=20000000)(hb:Ff b<=20000000):Uj 50 [.agg (fr (a:Rat)),.agg (fr (b:Rat))] [.agg (fr ((a+b:Int):Rat))]:=by
 have h:=xC (Ay ha (by decide)) (Ay hb (by decide));rw[<-Kc]at h;exact h
theorem fU(l:Um)(i:Nat)(z:Int):(frow (zp l)).set i (fr (z:Rat))=frow (zp (l.set i z)):=by simp[frow,zp,Vu]
theorem Qma{p:Um}{i:Nat}(h:i<p.length):(zp p)[i]? = some ((p.getD i 0:Int):Rat):=Qxg (Rj h)
theorem Ss{p:Um}{i:Nat}(h:i<p.length):(frow (zp p))[i]? = some (fr ((p.getD i 0:Int):Rat)):=XR (Qma h)
theorem qX(p:Um):(frow (zp p)).length=p.length:=by rw[Co,A6]
abbrev zR:Ur:=[.nils,.bool false,.nils,.bool false]
theorem jA{n i:Nat}(h:i<n):(List.replicate i (fr 0)++List.replicate (n-i) zR).set i (fr 0)=List.replicate (i+1) (fr 0)++List.replicate (n-(i+1)) zR:=by
 rw[List.set_append_right _ _ (by simp),Jg,Ki,show n-i=n-(i+1)+1 by omega,J4 (n:=n-(i+1)),List.set_cons_zero,List.replicate_succ' (n:=i),Zd];rfl
theorem AP(n:Nat):List.replicate n (fr 0)++List.replicate (n-n) zR=frow (zp (List.replicate n 0)):=by simp[zp,frow]
theorem Qug{p q:Um}{s t:Nat}(hlp:p.length<=1000000)(hlq:q.length<=1000000)(hp:Bd s p)(hq:Bd t q)(hst:s+t<=19000000):Uj 220 [.one (rp (zp p)),.one (rp (zp q))] [.one (rp (zp (Gm p q)))]:=by
 have hpl:=qX p;have hql:=qX q;rcases Q3 p.length with h0|h0
 ·have e:Gm p q=[]:=by unfold Gm;rw[if_pos (.inl h0)]
  rw[e];exact Ug func220 rfl [.g 12 true Ul,.t rfl] rfl
 rcases Q3 q.length with h1|h1
 ·have e:Gm p q=[]:=by unfold Gm;rw[if_pos (.inr h1)]
  rw[e];exact Ug func220 rfl [.g 12 false Uk,.T] rfl
 have e:Gm p q=trim (Aw p q (List.replicate (p.length+q.length-1) 0) p.length):=by unfold Gm;rw[if_neg (by omega)]
 rw[e];obtain⟨N,hN⟩:=nmE (p.length+q.length-1);rw[<-hN];obtain⟨o,ho⟩:=nmE (List.replicate N (0:Int));rw[<-ho];have hol:o.length=N:=by rw[ho];simp
 have ho0:∀m,o.getD m 0=0:=λm=>by rw[ho];exact Cq N m
 have cc:=KC (p:=zp (Aw p q o p.length));rw[E4]at cc;refine Fx func220 rfl ?_;refine Ue [.g 12 false Uk,.F,.r 22 (eI (b:=(N:Int)) (by omega)),.i N,.i N,.r 25 (eI (b:=(N:Int)) (by simp))] rfl ?_;refine Ui (S:=Nat) 1 (λL1 i=>(26,.v (.oi i))::L1) (λi=>[.row false 51 4 (List.replicate i (fr 0)++List.replicate (N-i) zR)]) (λi=>N-i) (λi=>i<=N) 0 (Qh _) rfl rfl λi hi=>?_
 by_cases hlt:i<N
 ·refine Ue [.T,.k Qf2,.i i] rfl ?_;rw[jA hlt];exact rd (i+1) (by omega) hlt rfl
 have hiN:i=N:=by omega
 rw[hiN,AP,<-ho];clear hiN hlt hi;refine Ud [.F] rfl ?_;refine Ui (S:=Nat) 1 (λL1 i=>(36,.v (.oi i))::L1) (λi=>[.row false 51 4 (frow (zp (Aw p q o i)))]) (λi=>p.length-i) (λi=>i<=p.length) 0 (Qh _) rfl rfl λi hi=>?_
 by_cases hlt:i<p.length
 ·refine Ud [.T] rfl ?_;refine Ui (S:=Nat) 1 (λL1 k=>(41,.v (.oi k))::L1) (λk=>[.row false 51 4 (frow (zp (Oo (p.getD i 0) q i (Aw p q o i) k)))]) (λk=>q.length-k) (λk=>k<=q.length) 0 (Qh _) rfl rfl λk hk=>?_
  by_cases hk2:k<q.length
  ·have hm1:Ff ((Oo (p.getD i 0) q i (Aw p q o i) k).getD (i+k) 0)<=20000000:=Qa (Iy (t:=39) (yM (by rw[Ll];omega) (yP (λj hj=>by omega) ho0 (λi j=>Nn (Fv hp i) (Fv hq j))) (λj=>Nn (Fv hp i) (Fv hq j)) (i+k)) (Kh (show i+1<549755813888 by omega) (by decide))) (by omega);have hm2:Ff (p.getD i 0*q.getD k 0)<=20000000:=Qa (Ga _ _) (by have:=Fv hp i;have:=Fv hq k;omega);have hml:(Oo (p.getD i 0) q i (Aw p q o i) k).length=N:=by rw[Oq,Ll,hol]
   have cm:=Qe5 (a:=p.getD i 0) (b:=q.getD k 0) (Qa (Fv hp i) (by omega)) (Qa (Fv hq k) (by omega));have hfl:=qX (Oo (p.getD i 0) q i (Aw p q o i) k);refine go tt [.T,.i (i+k),.x (Ss (p:=Oo (p.getD i 0) q i (Aw p q o i) k) (i:=i+k) (by omega)),.x (Ss hlt),.x (Ss hk2),.k cm,.k (Qtp hm1 hm2),.i (i+k)] rfl (by simp[U4,hfl,-List.getD_eq_getElem?_getD] <;> omega) ?_;rw[fU];exact rd (k+1) (by omega) hk2 rfl
  ·obtain rfl:k=q.length:=by omega
   exact go tt [.F] rfl (by simp[U4];omega) (rd (i+1) (by omega) hlt rfl)
 ·obtain rfl:i=p.length:=by omega
  exact Uf [.F,.k cc] rfl
def uD(p:Um)(n:Nat):Um:=(List.range n).map λk=>p.getD (k+1) 0*((k+1:Nat):Int)
theorem Qhc(p:Um)(n:Nat):(uD p n).length=n:=by simp[uD]
theorem Qcb(p:Um)(n:Nat):uD p (n+1)=uD p n++[p.getD (n+1) 0*((n+1:Nat):Int)]:=by simp[uD,Wb]
theorem kN(p:Um)(z:Int):frow (zp (p++[z]))=frow (zp p)++[fr (z:Rat)]:=by simp[frow,zp]
theorem Qge{p:Um}(hp:Bd 40000000 p)(hl:p.length<=1000000):Uj 91 [.one (rp (zp p))] [.one (rp (zp (Gx p)))]:=by
 have hpl:=qX p;have cc:=KC (p:=zp (uD p (p.length-1)));rw[E4]at cc;refine Fx func91 rfl ?_;refine Ud [.o 3 51 4] rfl ?_;refine Ui (S:=Nat) 1 (λL1 j=>(4,.v (.oi ((j+1:Nat):Int)))::(3,.v (.one (.orow 0 4 none)))::L1) (λj=>[.row false 51 4 (frow (zp (uD p j)))]) (λj=>p.length-j) (λj=>j<=p.length-1) 0 (Qh _) rfl rfl λj hj=>?_
 have hfl:=qX (uD p j);rw[Qhc]at hfl;by_cases h:j+1<p.length
 ·have hk:Ff ((j+1:Nat):Int)<=40000000:=Qa (yY (t:=38) (k:=j+1) (Kh (show j+1<274877906944 by omega) (by decide))) (by decide);refine go tt [.T,.x (Ss h),.k (XZ (n:=((j+1:Nat):Int)) (by omega)),.k (Qe5 (Fv hp (j+1)) hk),.s (sz:=4) (Qc4 _)] rfl (by simp[U4,hfl,-List.getD_eq_getElem?_getD] <;> omega) ?_;exact rd (j+1) (by omega) (by omega) (by rw[Qcb,kN];rfl)
 ·have e:j=p.length-1:=by omega
  rw[e];exact Uf [.F,.k cc] rfl
theorem Qqm:[LV.nils,LV.bool false].map FB=ri 0:=by
 show _=[nd 0,sg 0];unfold nd dl;rw[Hy];rfl
end Orr
namespace Orr
def Hh(p:Um):Int:=p.getD (p.length-1) 0
def EC(a b:Um):Int:=if Hh b<0 then -(Hh a)else Hh a
def WB(a b:Um)(i:Nat):Int:=a.getD i 0*((Hh b).natAbs:Int)-(if a.length-b.length<=i then EC a b*b.getD (i-(a.length-b.length)) 0 else 0)
def tL(a b:Um):Um:=A7 a.length (WB a b)
inductive RRun (b:List Int):Nat->List Int->List Int->Prop
 |stop {a:List Int}:a.length<b.length->RRun b 0 a a
 |step {k:Nat} {a r:List Int}:b.length<=a.length->a.length<=1000->Bd 9000000 a->Bd 9000000 b->RRun b k (tL a b) r->RRun b (k+1) a r
def I8(p:Um):Nat->Nat
 | 0=>0
 |i+1=>Int.gcd (I8 p i:Nat) (p.getD i 0)
def UB(p:Um):Nat:=I8 p p.length
theorem RZ(p:Um):∀{i j:Nat},j<i->((I8 p i:Nat):Int)∣p.getD j 0
 | 0,_,h=>absurd h (Nat.not_lt_zero _)
 |
  i+1,j,h=>by
  simp only[I8];rcases Zb j i with h1|h1
  ·exact V6 (Int.gcd_dvd_left ..) (RZ p h1)
  ·rw[show j=i by omega];exact Wv ..
theorem uW(p:Um)(j:Nat):((UB p:Nat):Int)∣p.getD j 0:=by
 rcases Zb j p.length with h|h
 ·exact RZ p h
 ·rw[Qi,Qw h];exact Int.dvd_zero _
theorem XJ{s:Nat}{p:Um}(h:Bd s p):∀i,Ff ((I8 p i:Nat):Int)<=s
 | 0=>by simp[I8,Nk]
 |
  i+1=>by
  simp only[I8];by_cases h0:p.getD i 0=0
  ·rw[h0,Int.gcd_zero_right];exact XJ h i
  ·have h1:=Wv (I8 p i:Nat) (p.getD i 0);have h2:(Int.gcd (I8 p i:Nat) (p.getD i 0))<=(p.getD i 0).natAbs:=Kv (by omega) (by simpa using X4.2 h1);have h3:=Fv h i;rw[Sj]at h3 ⊢;simp only[Xh];omega
theorem Qb2{p:Um}{j i:Nat}(hj:j<i)(h:p.getD j 0≠0):0<I8 p i:=by
 have:=RZ p hj;rcases Q3 (I8 p i)with h0|h0
 ·rw[h0]at this;exact absurd (Int.zero_dvd.1 this) h
 ·exact h0
theorem uU{p:Um}(ht:Fg p)(h:0<p.length):0<UB p:=Qb2 (j:=p.length-1) (by omega) (H6 ht h)
def Ei(p:Um):Int:=if Hh p<0 then -((UB p:Nat):Int)else((UB p:Nat):Int)
def Tp(p:Um):Um:=A7 p.length λi=>p.getD i 0 / Ei p
def Bq(p:Um):Um:=if Hh p<0 then My (Tp p)else Tp p
theorem Qcg(p:Um)(j:Nat):Ei p∣p.getD j 0:=by
 unfold Ei
 split
 ·exact Uc.2 (uW p j)
 ·exact uW p j
theorem Qhr{p:Um}(ht:Fg p)(h:0<p.length):Ei p≠0:=by
 have:=uU ht h;unfold Ei
 split <;> omega
theorem OT{s:Nat}{p:Um}(h:Bd s p):Ff (Ei p)<=s:=by
 unfold Ei
 split
 ·rw[Hn];exact XJ h _
 ·exact XJ h _
theorem cE{p:Um}{c:Int}(hc:c≠0)(hd:∀j,c∣p.getD j 0):ZY (zp p) (1 / (c:Rat))=zp (A7 p.length λi=>p.getD i 0 / c):=by
 unfold ZY A7;rw[vE (g:=λi=>p.getD i 0 / c) _ λi _=>?_,E4,A6];obtain⟨k,hk⟩:=hd i;have hc':(c:Rat)≠0:=λe=>hc (by exact_mod_cast e)
 rw[NL,hk,Jf _ hc,X1];grind
theorem BK{s:Nat}{p:Um}(h:Bd s p):Bd s (Tp p):=YJ λi _=>Qa (XD _ _) (Fv h i)
theorem RO(p:Um):(Tp p).length<=p.length:=Oc _ _
theorem Qa2{s:Nat}{p:Um}(h:Bd s p):Bd s (Bq p):=by
 unfold Bq
 split
 ·exact MK (BK h)
 ·exact BK h
theorem nO(p:Um):(Bq p).length<=p.length:=by
 unfold Bq
 split
 ·exact Qa (XI _) (RO p)
 ·exact RO p
inductive GRun:Nat->List Int->List Int->List Int->Prop
 |stop (a:List Int):GRun 0 a [] a
 |step {k m:Nat} {a b r g:List Int}:0<b.length->b.length<=1000->Bd 9000000 b->RRun b m a r->r.length<=1000->Bd 9000000 r->Fg r->GRun k b (Tp r) g->GRun (k+1) a b g
theorem GRun.inv{k:Nat}{a b g:Um}(h:GRun k a b g):(k=0/\b.length=0/\a=g)\/∃j m r,k=j+1/\0<b.length/\b.length<=1000/\Bd 9000000 b/\RRun b m a r/\r.length<=1000/\Bd 9000000 r/\Fg r/\GRun j b (Tp r) g:=by
 cases h with
 |stop=>exact .inl ⟨rfl,rfl,rfl⟩
 |step h1 h2 h3 h4 h5 h6 h7 h8=>exact .inr ⟨_,_,_,rfl,h1,h2,h3,h4,h5,h6,h7,h8⟩
def ZV(k:Nat)(p:Um):Um:=List.replicate k 0++p
theorem dX(k:Nat)(p:Um):(ZV k p).length=k+p.length:=by simp[ZV]
theorem Qa3{s k:Nat}{p:Um}(h:Bd s p):Bd s (ZV k p):=λz hz=>by
 rcases Qq.1 hz with h1|h1
 ·rw[Zx h1,Nk];exact Qh _
 ·exact h z h1
inductive DRun (b:List Int):Nat->List Int->List Int->List Int->List Int->Prop
 |stop {a q:List Int}:a.length<b.length->DRun b 0 a q q a
 |step {k:Nat} {a q qf r:List Int}:b.length<=a.length->a.length<=1000->Bd 9000000 a->Hh b≠0->Hh b∣Hh a->a.length-b.length<q.length ->
  DRun b k (Nf a (ZV (a.length-b.length) (Fq b (Hh a / Hh b)))) (q.set (a.length-b.length) (Hh a / Hh b)) qf r->DRun b (k+1) a q qf r
theorem DRun.inv{b a q qf r:Um}{k:Nat}(h:DRun b k a q qf r):(k=0/\q=qf/\a=r/\a.length<b.length)\/∃j,k=j+1/\b.length<=a.length/\a.length<=1000/\Bd 9000000 a/\Hh b≠0/\Hh b∣Hh a/\a.length-b.length<q.length /\
 DRun b j (Nf a (ZV (a.length-b.length) (Fq b (Hh a / Hh b)))) (q.set (a.length-b.length) (Hh a / Hh b)) qf r:=by
 cases h with
 |stop h=>exact .inl ⟨rfl,rfl,rfl,h⟩
 |step h1 h2 h3 h4 h5 h6 h7=>exact .inr ⟨_,rfl,h1,h2,h3,h4,h5,h6,h7⟩
def M8(l:Un):Um:=l.getD (l.length-1) []
inductive LRun:Nat->List (List Int)->List (List Int)->Prop
 |stop {l:List (List Int)}:(M8 l).length<=1->LRun 0 l l
 |step {k m:Nat} {l f:List (List Int)} {g:List Int}:1<(M8 l).length->(M8 l).length<=1000->Fg (M8 l)->Bd 9000000 (M8 l)->Bd 9000000 (Gx (M8 l))->GRun m (Tp (M8 l)) (Tp (Gx (M8 l))) g->l.length<=1000->LRun k (l++[g]) f->LRun (k+1) l f
theorem LRun.inv{k:Nat}{l f:Un}(h:LRun k l f):(k=0/\l=f/\(M8 l).length<=1)\/∃j m g,k=j+1/\1<(M8 l).length/\(M8 l).length<=1000/\Fg (M8 l)/\Bd 9000000 (M8 l)/\Bd 9000000 (Gx (M8 l))/\GRun m (Tp (M8 l)) (Tp (Gx (M8 l))) g/\l.length<=1000/\LRun j (l++[g]) f:=by
 cases h with
 |stop h=>exact .inl ⟨rfl,rfl,h⟩
 |step h1 h2 h3 h4 h5 h6 h7 h8=>exact .inr ⟨_,_,_,rfl,h1,h2,h3,h4,h5,h6,h7,h8⟩
def DOk(a b q:Um):Prop:=0<b.length/\b.length<=1000/\a.length<=1000/\Bd 9000000 b/\∃qf r n,Bd 9000000 qf/\qf.length<=1000/\DRun b n a (List.replicate (a.length+1-b.length) 0) qf r/\q=trim qf
theorem DOk.bd{a b q:Um}(h:DOk a b q):Bd 9000000 q:=by
 obtain⟨_,_,_,_,qf,r,n,h1,_,_,rfl⟩:=h;exact Tz h1
theorem DOk.len{a b q:Um}(h:DOk a b q):q.length<=1000:=by
 obtain⟨_,_,_,_,qf,r,n,_,h1,_,rfl⟩:=h;exact Qa (H9 _) h1
theorem DOk.trim{a b q:Um}(h:DOk a b q):Fg q:=by
 obtain⟨_,_,_,_,qf,r,n,_,_,_,rfl⟩:=h;exact Rt _
def Qxn(a b c f:Um):Prop:=∃x y z,DOk a b x/\DOk b c y/\DOk (Tp x) (Tp y) z/\f=Tp z
structure FRun(a:List Int)(m:Nat)(f:Nat->List Int):Prop where
 run:∃n l,LRun n [Tp a] l/\l.length=m+1/\∀k,k<m->Qxn ((l++[[1]]).getD k []) ((l++[[1]]).getD (k+1) []) ((l++[[1]]).getD (k+2) []) (f k)
 small:m<=1000
def AQ(f:Nat->Um)(n:Nat):Un:=(List.range n).map f
theorem sG(f:Nat->Um)(n:Nat):(AQ f n).length=n:=by simp[AQ]
theorem Qdp(f:Nat->Um)(n:Nat):AQ f (n+1)=AQ f n++[f n]:=by simp[AQ,Wb]
theorem Qli{f:Nat->Um}{n i:Nat}(h:i<n):(AQ f n)[i]? = some (f i):=by simp[AQ,X3 h]
theorem nS{l:Un}{i:Nat}(h:i<l.length):l[i]? = some (l.getD i []):=by
 rw[Qi,Qe h];rfl
def O3(f:Nat->Um):Nat->Um
 | 0=>[1]
 |i+1=>Gm (O3 f i) (f i)
def Qxm(m:Nat)(f:Nat->Um):Prop:=∀i,i<m->Bd 9000000 (O3 f i)/\(O3 f i).length<=1000/\Bd 9000000 (f i)/\(f i).length<=1000
inductive CRun:Nat->List (List Int)->List Int->List (List Int)->Prop
 |stop {l:List (List Int)} {g:List Int}:g.length=0->CRun 0 l g l
 |step {k m:Nat} {l f:List (List Int)} {g r:List Int}:0<g.length->g.length<=1000->Bd 9000000 g->RRun g m (M8 l) r->Fg r->Bd 9000000 r->r.length<=1000->0<l.length->l.length<=1000->CRun k (l++[g]) (My (Bq r)) f->CRun (k+1) l g f
theorem CRun.inv{k:Nat}{l f:Un}{g:Um}(h:CRun k l g f):(k=0/\l=f/\g.length=0)\/∃j m r,k=j+1/\0<g.length/\g.length<=1000/\Bd 9000000 g/\RRun g m (M8 l) r/\Fg r/\Bd 9000000 r/\r.length<=1000/\0<l.length/\l.length<=1000/\CRun j (l++[g]) (My (Bq r)) f:=by
 cases h with
 |stop h=>exact .inl ⟨rfl,rfl,h⟩
 |step h1 h2 h3 h4 h5 h6 h7 h8 h9 h10=>exact .inr ⟨_,_,_,rfl,h1,h2,h3,h4,h5,h6,h7,h8,h9,h10⟩
structure ChRun(a:List Int)(sq:List Int)(c:List (List Int)):Prop where
 fac:∃m f,FRun a m f/\Qxm m f/\sq=O3 f m
 Eg:∃n,CRun n [sq] (Bq (Gx sq)) c
 bd:Bd 8000000 sq
 len:sq.length<=1000
 small:c.length<=1000
def Qd9(q:Rat)(c:Un):Prop:=∃sq,ChRun [-q.num,(q.den:Int)] sq c
end Orr
namespace Orr
open Go Go.Proofs Tryz
set_option maxRecDepth 10000
theorem RRun.inv{b a r:Um}{k:Nat}(h:RRun b k a r):(k=0/\a=r/\a.length<b.length)\/(∃j,k=j+1/\b.length<=a.length/\a.length<=1000/\Bd 9000000 a/\Bd 9000000 b/\RRun b j (tL a b) r):=by
 cases h with
 |stop h=>exact .inl ⟨rfl,rfl,h⟩
 |step h1 h2 h3 h4 h5=>exact .inr ⟨_,rfl,h1,h2,h3,h4,h5⟩
theorem Qqr{a b:Um}(ha:Bd 9000000 a):Ff (EC a b)<=9000000:=by
 unfold EC;split
 ·rw[Hn];exact Fv ha _
 ·exact Fv ha _
theorem Qql(n:Nat):ri (n:Int)=[nd n,.bool false]:=by
 show [nd n,sg (n:Int)]=_;unfold sg;rw[decide_eq_false (by omega)]
def vN(a b:Um)(n:Nat):Um:=(List.range n).map (WB a b)
theorem Qkp(a b:Um)(n:Nat):(vN a b n).length=n:=by simp[vN]
theorem zB(a b:Um)(n:Nat):vN a b (n+1)=vN a b n++[WB a b n]:=by simp[vN,Wb]
theorem eJ{a0 b res:Um}{n:Nat}(hb0:0<b.length)(hb1:b.length<=1000)(hbb0:Bd 9000000 b)(hrun:RRun b n a0 res):Uj 158 [.one (rp (zp a0)),.one (rp (zp b))] [.one (rp (zp res))]:=by
 have hbl:=qX b;have hle:Ff (((Hh b).natAbs:Nat):Int)<=9000000:=Fv hbb0 _;refine Fx func158 rfl ?_;refine Ue [.r 15 (eI (b:=((b.length-1:Nat):Int)) (by omega)),.x (Ss (p:=b) (i:=b.length-1) (by omega))] rfl ?_;refine sb [(0,.v (.one (rp (zp a0)))),(1,.v (.one (rp (zp b)))),(5,.v (.one (.ow 0 0))),(6,.v (.one (.ow 1 0)))] [.blk 49 (ri (Hh b)),.blk 49 [nd (Hh b).natAbs,.bool false]] rfl rfl ?_;refine Ui (S:=Nat×Um) 2 (λL1 s=>(0,.v (.one (rp (zp s.2))))::L1) (λ_=>[.blk 49 (ri (Hh b)),.blk 49 [nd (Hh b).natAbs,.bool false]]) (λs=>s.1) (λs=>RRun b s.1 s.2 res) (n,a0) hrun rfl rfl λ⟨k,a⟩ hs=>?_
 have hal:=qX a;have hs:RRun b k a res:=hs;rcases RRun.inv hs with⟨rfl,rfl,h1⟩|⟨j,rfl,h1,h2,ha,hb,hr⟩
 ·exact Uf [.f (decide_eq_false (by dsimp only;omega))] rfl
 obtain⟨K,hK⟩:=nmE (a.length-b.length);have htb:=Qqr (b:=b) ha;have cc:=KC (p:=zp (vN a b a.length));rw[E4,show trim (vN a b a.length)=tL a b from rfl]at cc;refine Ue [.t (decide_eq_true (by dsimp only;omega)),.r 30 (eI (b:=(K:Int)) (by dsimp only;omega)),.r 34 (eI (b:=((a.length-1:Nat):Int)) (by dsimp only;omega)),.x (Ss (p:=a) (i:=a.length-1) (by omega))] rfl ?_;refine ct 1 (S:=Unit) (λ_=>[(0,.v (.one (rp (zp a)))),(1,.v (.one (rp (zp b)))),(5,.v (.one (.ow 0 0))),(6,.v (.one (.ow 1 0))),(7,.v (.oi K)),(8,.v (.one (.ow 2 0)))]) (λ_=>[.blk 49 (ri (Hh b)),.blk 49 [nd (Hh b).natAbs,.bool false],.blk 49 (ri (EC a b))]) (λ_=>True) rfl ?_ (λ_ _=>?_)
 ·by_cases hn:Hh b<0
  ·have e:EC a b=-(Hh a):=if_pos hn;rw[e];exact go tt [.t (decide_eq_true hn),.k (QG (z:=Hh a))] rfl trivial (rc () trivial rfl)
  ·have e:EC a b=Hh a:=if_neg hn;rw[e];exact go tt [.f (decide_eq_false hn)] rfl trivial (rc () trivial rfl)
 refine Ud [.o 9 51 4] rfl ?_;refine Ui (S:=Nat) 4 (λL1 i=>(44,.v (.oi i))::(9,.v (.one (.orow 3 4 none)))::L1) (λi=>[.blk 49 (ri (Hh b)),.blk 49 [nd (Hh b).natAbs,.bool false],.blk 49 (ri (EC a b)),.row false 51 4 (frow (zp (vN a b i)))]) (λi=>a.length-i) (λi=>i<=a.length) 0 (Qh _) rfl rfl λi hi=>?_
 have hfl:=qX (vN a b i);rw[Qkp]at hfl;by_cases h:i<a.length
 ·have cm:=Ah (a:=a.getD i 0) (b:=(((Hh b).natAbs:Nat):Int)) (Qa (Fv ha i) (by decide)) (by omega);have hm:=Ga (a.getD i 0) (((Hh b).natAbs:Nat):Int);have hai:=Fv ha i;rw[Qql (Hh b).natAbs]at cm;by_cases hk:K<=i
  ·have hbi:=Fv hb (i-K);have hm2:=Ga (EC a b) (b.getD (i-K) 0);have e:WB a b i=a.getD i 0*(((Hh b).natAbs:Nat):Int)-EC a b*b.getD (i-K) 0:=by unfold WB;rw[if_pos (by omega),hK]
   refine go tt [.T,.x (Ss h),.k cm,.T,.r 62 (eI (b:=((i-K:Nat):Int)) (by omega)),.x (Ss (p:=b) (i:=i-K) (by omega)),.k (Ah (a:=EC a b) (b:=b.getD (i-K) 0) (by omega) (by omega)),.k (Qf3 (by omega) (by omega)),.k (ZH (n:=1) (by decide)),.k (Ag (n:=a.getD i 0*(((Hh b).natAbs:Nat):Int)-EC a b*b.getD (i-K) 0)),.s (sz:=4) (Qc4 _)] rfl (by simp[U4,hfl,-List.getD_eq_getElem?_getD] <;> omega) ?_;exact rd (i+1) (by omega) h (by rw[zB,kN,e];rfl)
  ·have e:WB a b i=a.getD i 0*(((Hh b).natAbs:Nat):Int):=by unfold WB;rw[if_neg (by omega),Int.sub_zero]
   refine go tt [.T,.x (Ss h),.k cm,.F,.k (ZH (n:=1) (by decide)),.k (Ag (n:=a.getD i 0*(((Hh b).natAbs:Nat):Int))),.s (sz:=4) (Qc4 _)] rfl (by simp[U4,hfl,-List.getD_eq_getElem?_getD] <;> omega) ?_;exact rd (i+1) (by omega) h (by rw[zB,kN,e];rfl)
 ·have e:i=a.length:=by omega
  rw[e];exact go tt [.F,.k cc] rfl trivial (rd (j,tL a b) (by omega) hr rfl)
theorem Qud:Uj 73 [.agg (ri 1),.agg (ri 1)] [.agg (ri 1)]:=Ah (a:=1) (b:=1) (by decide) (by decide)
theorem Qn1:Uj 138 [.agg (ri 1),.agg (ri 1)] [.agg (ri 1)]:=jW (a:=1) (b:=1) (by decide) (by decide)
theorem Qnf{z:Int}(hz:Ff z<=90000000):Uj 73 [.agg (ri z),.agg (ri 1)] [.agg (ri z)]:=by
 have h:=Ah (a:=z) (b:=1) (by omega) (by decide);rwa[Ub]at h
theorem lM{z:Int}(hz:Ff z<=90000000):Uj 139 [.agg (ri z),.agg (ri 1)] [.agg (ri z)]:=by
 have h:=BA (a:=z) (b:=1) hz (by decide) (by decide) (Int.emod_one z);rwa[Int.ediv_one]at h
theorem Qe6{z:Int}:Uj 87 [.agg (fr (z:Rat))] [.agg (fr ((-z:Int):Rat))]:=by
 have h:=Qt1 (a:=(z:Rat));rwa[<-Vn]at h
theorem Qwb{c:Int}(hc:c≠0)(hs:Ff c<=9000000):Qs 40000000 (((1:Int):Rat) / (c:Rat)):=by
 have h0:(c:Rat)≠0:=λe=>hc (by exact_mod_cast e)
 rw[<-zF h0];unfold Gj;rw[if_neg (X7 (Dq _) (λe=>hc (by simpa using e)))];refine Qs.divInt (by show Ff (1*1)<=_;decide) ?_ (by decide);show Ff (1*c)<=_;rw[Kq];omega
theorem mW{p:Um}{c:Int}(hc:c≠0)(hs:Ff c<=9000000)(hd:∀j,c∣p.getD j 0)(hp:Bd 9000000 p)(hl:p.length<=1000):Uj 221 [.one (rp (zp p)),.agg (fr (((1:Int):Rat) / (c:Rat)))] [.one (rp (zp (A7 p.length λi=>p.getD i 0 / c)))]:=by
 have h:=CQ ((zS hp (by omega)).mono (by omega)) (Qwb hc hs) (by rw[A6];omega);rwa[show((1:Int):Rat)=1 from rfl,cE hc hd]at h
theorem QR{p:Um}(tp:Fg p)(hp:Bd 9000000 p)(hl:p.length<=1000):Uj 189 [.one (rp (zp p))] [.agg (fr ((Ei p:Int):Rat)),.one (rp (zp (Tp p)))]:=by
 have hpl:=qX p;rcases Q3 p.length with h0|h0
 ·have e:=Qj h0;subst e;exact Ug func189 rfl [.t rfl,.k Qf2] rfl
 have hc:=Qhr tp h0;refine Fx func189 rfl ?_;refine Ud [.F,.k (ZH (n:=1) (by decide))] rfl ?_;refine Ui (S:=Nat) 2 (λL1 i=>(16,.v (.oi i))::L1) (λi=>[.blk 51 [.nils,.bool false,.nils,.bool false],.blk 49 (ri 1)]) (λi=>p.length-i) (λi=>i<=p.length) 0 (Qh _) rfl rfl λi hi=>?_
 by_cases h:i<p.length
 ·refine Ue [.T,.x (Ss h),.k Qud,.x (Ss h),.k Qn1,.k (lM (z:=1) (by decide))] rfl ?_;exact rd (i+1) (by omega) h rfl
 refine Ud [.F] rfl ?_;clear h hi;refine nlb 2 rfl rfl rfl ?_;rw[Qqm];refine Ui (S:=Nat) 3 (λL1 i=>(37,.v (.oi i))::L1) (λi=>[.blk 51 [.nils,.bool false,.nils,.bool false],.blk 49 (ri 1),.blk 49 (ri ((I8 p i:Nat):Int))]) (λi=>p.length-i) (λi=>i<=p.length) 0 (Qh _) rfl rfl λi hi=>?_
 by_cases h:i<p.length
 ·have hb:=Fv hp i;have hg:=XJ hp i;refine Ue [.T,.x (Ss h),.k (Qnf (z:=p.getD i 0) (by omega)),.x (Ss h),.k (lM (z:=p.getD i 0) (by omega)),.k (jW (a:=((I8 p i:Nat):Int)) (b:=p.getD i 0) (by omega) (by omega))] rfl ?_;exact rd (i+1) (by omega) h rfl
 have e:i=p.length:=by omega
 rw[e];have co:=XZ (n:=1) (by decide);have cs:=mW hc (OT hp) (Qcg p) hp hl;by_cases hn:Hh p<0
 ·have e2:Ei p=-((UB p:Nat):Int):=if_pos hn;rw[show(λi=>p.getD i 0 / Ei p)=λi=>p.getD i 0 / Ei p from rfl]at cs;have cn:=Qe6 (z:=((UB p:Nat):Int));rw[<-e2]at cn;exact Uf [.F,.k (Ag (n:=((UB p:Nat):Int))),.r 62 (eI (b:=((p.length-1:Nat):Int)) (by omega)),.x (Ss (p:=p) (i:=p.length-1) (by omega)),.t (decide_eq_true hn),.k cn,.k co,.k (mV (a:=((1:Int):Rat)) (b:=((Ei p:Int):Rat)) ⟨by decide,by decide⟩ (Ay (by have:=OT hp;omega) (by decide)) (λe=>hc (by exact_mod_cast e))),.k cs] rfl rfl (by simp[U4];omega)
 ·have e2:Ei p=((UB p:Nat):Int):=if_neg hn;have cm:=Ag (n:=Ei p);rw[e2]at cm cs hc ⊢;exact Uf [.F,.k cm,.r 62 (eI (b:=((p.length-1:Nat):Int)) (by omega)),.x (Ss (p:=p) (i:=p.length-1) (by omega)),.f (decide_eq_false hn),.k co,.k (mV (a:=((1:Int):Rat)) (b:=((((UB p:Nat):Int):Int):Rat)) ⟨by decide,by decide⟩ (Ay (by have:=XJ hp p.length;unfold UB;omega) (by decide)) (λe=>hc (by exact_mod_cast e))),.k cs] rfl (by unfold Tp;rw[e2];rfl) (by simp[U4];omega)
theorem QH{p:Um}(tp:Fg p)(hp:Bd 9000000 p)(hl:p.length<=1000):Uj 116 [.one (rp (zp p))] [.one (rp (zp (Tp p)))] :=
 Ug func116 rfl [.k (QR tp hp hl)] rfl
theorem OS{p:Um}(tp:Fg p):Ei p<0↔Hh p<0:=by
 unfold Ei;rcases Q3 p.length with h0|h0
 ·have:=Qj h0;subst this;decide
 ·have:=uU tp h0
  split <;> omega
theorem Qgb{p:Um}(hp:Bd 9000000 p)(hl:p.length<=1000000):Uj 157 [.one (rp (zp p))] [.one (rp (zp (My p)))]:=by
 have h:=Qgf ((zS hp (by decide)).mono (by decide)) (by rw[A6];exact hl);rwa[Qac]at h
theorem uQ{p:Um}(tp:Fg p)(hp:Bd 9000000 p)(hl:p.length<=1000):Uj 156 [.one (rp (zp p))] [.one (rp (zp (Bq p)))]:=by
 by_cases hn:Hh p<0
 ·have e:Bq p=My (Tp p):=if_pos hn;rw[e];exact Ug func156 rfl [.k (QR tp hp hl),.t (decide_eq_true ((OS tp).2 hn)),.k (Qgb (BK hp) (Qa (RO p) (by omega)))] rfl
 ·have e:Bq p=Tp p:=if_neg hn;rw[e];exact Ug func156 rfl [.k (QR tp hp hl),.f (decide_eq_false λh=>hn ((OS tp).1 h))] rfl
end Orr
namespace Orr
section
variable{x d:Int}(hd:0<d)(hg:Int.gcd x d=1)(hx:Ff x<=2000000)(hs:Ff d<=2000000)
include hd in
include hd in
include hd in
include hd hx hs in
include hd hx hs in
include hd hx hs in
include hd hg hx hs in
include hd hg hx hs in
end
end Orr
namespace Orr
open Go Go.Proofs Tryz
set_option maxRecDepth 10000
theorem Quf{a b g:Um}{n:Nat}(ta:Fg a)(tb:Fg b)(ha:Bd 9000000 a)(hb:Bd 9000000 b)(la:a.length<=1000)(lb:b.length<=1000)(hrun:GRun n (Tp a) (Tp b) g):Uj 161 [.one (rp (zp a)),.one (rp (zp b))] [.one (rp (zp g))]:=by
 refine Fx func161 rfl ?_;refine Ud [.k (QH ta ha la),.k (QH tb hb lb)] rfl ?_;refine sb [(0,.v (.one (rp (zp (Tp a))))),(1,.v (.one (rp (zp (Tp b)))))] [] rfl rfl ?_;refine Ui (S:=Nat×Um×Um) 0 (λL1 s=>(0,.v (.one (rp (zp s.2.1))))::(1,.v (.one (rp (zp s.2.2))))::L1) (λ_=>[]) (λs=>s.1) (λs=>GRun s.1 s.2.1 s.2.2 g) (n,Tp a,Tp b) hrun rfl rfl λ⟨k,x,y⟩ hs=>?_
 have hs:GRun k x y g:=hs;have hyl:=qX y;rcases hs.inv with⟨hk,hy0,hxg⟩|⟨j,m2,r,hk,hy0,hy1,hyb,hrr,hrl,hrb,hrt,hgr⟩
 ·rw[<-hxg];exact Uf [.f (decide_eq_false (by dsimp only;omega))] rfl
 ·subst hk;refine Ud [.t (decide_eq_true (by dsimp only;omega)),.k (eJ (a0:=x) (b:=y) (res:=r) hy0 hy1 hyb hrr),.k (QH (p:=r) hrt hrb hrl)] rfl ?_;exact rd (j,y,Tp r) (by dsimp only;omega) hgr rfl
theorem Qni{x y:Int}(hx:Ff x<=9000000)(hy:Ff y<=9000000)(h0:y≠0)(hd:y∣x):Uj 247 [.agg (fr (x:Rat)),.agg (fr (y:Rat))] [.agg (fr ((x / y:Int):Rat))]:=by
 have hy0:(y:Rat)≠0:=λe=>h0 (by exact_mod_cast e)
 have h:=mV (Ay (s:=40000000) (z:=x) (by omega) (by omega)) (Ay (s:=40000000) (z:=y) (by omega) (by omega)) hy0;obtain⟨k,rfl⟩:=hd;rw[Jf _ h0];rwa[show(((y*k:Int):Rat)) / (y:Rat)=(k:Rat) by rw[X1];grind]at h
theorem Qbx{p:Um}{c:Int}(hp:Bd 40000000 p)(hc:Ff c<=40000000)(hl:p.length<=1000000):Uj 221 [.one (rp (zp p)),.agg (fr (c:Rat))] [.one (rp (zp (Fq p c)))]:=by
 have h:=CQ (zS hp (by omega)) (Ay hc (by omega)) (by rw[A6];exact hl);rwa[zN]at h
theorem Qq1(k:Nat)(p:Um):frow (zp (List.replicate k 0))++frow (zp p)=frow (zp (ZV k p)):=by simp[zp,ZV,frow]
theorem Qcj(l:Um)(i:Nat)(z:Int):(frow (zp l)).set i [nd ((z:Rat)).num.natAbs,sg ((z:Rat)).num,nd (((z:Rat)).den:Int).natAbs,sg (((z:Rat)).den:Int)]=frow (zp (l.set i z)):=fU l i z
theorem Qoa{p q:Um}(hp:Bd 18000000 p)(hq:Bd 18000000 q)(hlp:p.length<=1000000)(hlq:q.length<=1000000):U7 prog 262 [.one (rp (zp p)),.one (.orow 0 4 none)] [.row false 51 4 (frow (zp q))] [.one (rp (zp (Nf p q)))] [.gone]:=by
 have hn:=Qgf ((zS hq (by decide)).mono (by decide)) (by rw[A6];exact hlq);have ha:=Que (p:=zp p) (q:=vP (zp q)) ((zS hp (by decide)).mono (by decide)) ((Qwd (zS hq (by decide))).mono (by decide)) (by rw[A6];exact hlp) (Qa (Qki _) (by rw[A6];exact hlq));have e:Qde (zp p) (vP (zp q))=zp (Nf p q):=Qqq p q;rw[e]at ha;refine Fx func262 rfl ?_;exact Uh [] [0] [.k hn,.k ha] rfl
theorem Qby{a0 b qf rem:Um}{n:Nat}(hb0:0<b.length)(hb1:b.length<=1000)(hl0:a0.length<=1000)(hbb:Bd 9000000 b)(hqb:Bd 9000000 qf)(hrun:DRun b n a0 (List.replicate (a0.length+1-b.length) 0) qf rem):Uj 230 [.one (rp (zp a0)),.one (rp (zp b))] [.one (rp (zp (trim qf))),.one (rp (zp rem))]:=by
 have h0l:=qX a0;have hbl:=qX b;obtain⟨N,hN⟩:=nmE (a0.length+1-b.length);rw[<-hN]at hrun;have cc:=KC (p:=zp qf);rw[E4]at cc;refine Fx func230 rfl ?_;refine Ue [.r 18 (eI (b:=(N:Int)) (by omega)),.i N,.i N,.r 21 (eI (b:=(N:Int)) (by simp))] rfl ?_;refine Ui (S:=Nat) 1 (λL1 i=>(22,.v (.oi i))::L1) (λi=>[.row false 51 4 (List.replicate i (fr 0)++List.replicate (N-i) zR)]) (λi=>N-i) (λi=>i<=N) 0 (Qh _) rfl rfl λi hi=>?_
 by_cases hlt:i<N
 ·refine Ue [.T,.k Qf2,.i i] rfl ?_;rw[jA hlt];exact rd (i+1) (by omega) hlt rfl
 have hiN:i=N:=by omega
 rw[hiN,AP];clear hiN hlt hi;refine Ud [.F] rfl ?_;refine sb [(0,.v (.one (rp (zp a0)))),(1,.v (.one (rp (zp b)))),(6,.v (.one (.orow 0 4 none)))] [.row false 51 4 (frow (zp (List.replicate N 0)))] rfl rfl ?_;refine Ui (S:=Nat×Um×Um) 1 (λL1 s=>(0,.v (.one (rp (zp s.2.1))))::L1) (λs=>[.row false 51 4 (frow (zp s.2.2))]) (λs=>s.1) (λs=>DRun b s.1 s.2.1 s.2.2 qf rem/\s.2.2.length=N) (n,a0,List.replicate N 0) ⟨hrun,Jg⟩ rfl rfl λ⟨k,a,q⟩ ⟨hr0,hr1⟩=>?_
 have hr0:DRun b k a q qf rem:=hr0;have hr1:q.length=N:=hr1;have hal:=qX a;have hql:=qX q;rcases hr0.inv with⟨hk,hqf,har,hlt⟩|⟨j,hk,hba,hal2,hab,hpb,hpd,hkq,hrj⟩
 ·subst hqf;subst har;exact Uf [.f (decide_eq_false (by dsimp only;omega)),.k cc] rfl
 subst hk;obtain⟨K,hK⟩:=nmE (a.length-b.length);rw[<-hK]at hrj hkq;have hla:Ff (Hh a)<=9000000:=Fv hab _;have hlb:Ff (Hh b)<=9000000:=Fv hbb _;obtain⟨c,hc⟩:=nmE (Hh a / Hh b);have cq:=Qni hla hlb hpb hpd;have hcs:Ff (Hh a / Hh b)<=9000000:=Qa (XD _ _) hla;rw[<-hc]at cq hcs hrj;have hsl:=Fy b c;have hqs:∀x,(q.set K x).length=N:=λx=>by rw[Xd];exact hr1
 dsimp only;refine go tt [.T,.r 39 (eI (b:=(K:Int)) (by omega)),.r 43 (eI (b:=((a.length-1:Nat):Int)) (by omega)),.x (Ss (p:=a) (i:=a.length-1) (by omega)),.r 49 (eI (b:=((b.length-1:Nat):Int)) (by omega)),.x (Ss (p:=b) (i:=b.length-1) (by omega)),.k cq,.i K,.i K,.i K,.r 60 (eI (b:=(K:Int)) (by simp))] rfl (by simp[U4,hql] <;> omega) ?_;rw[Qcj];refine Ui (S:=Nat) 3 (λL1 i=>(61,.v (.oi i))::L1) (λi=>[.row false 51 4 (frow (zp (q.set K c))),.blk 51 (fr (c:Rat)),.row false 51 4 (List.replicate i (fr 0)++List.replicate (K-i) zR)]) (λi=>K-i) (λi=>i<=K) 0 (Qh _) rfl rfl λi hi=>?_
 by_cases hlt:i<K
 ·refine Ue [.T,.k Qf2,.i i] rfl ?_;rw[jA hlt];exact rd (i+1) (by omega) hlt rfl
 have hiK:i=K:=by omega
 rw[hiK,AP];clear hiK hlt hi;have hzl:=qX (List.replicate K 0);rw[Jg]at hzl;have hpl:=qX (Fq b c);refine Ud [.F] rfl ?_;refine sb [(10,.v (.one (.orow 2 4 none))),(9,.v (.one (.ow 1 0))),(0,.v (.one (rp (zp a)))),(1,.v (.one (rp (zp b)))),(6,.v (.one (.orow 0 4 none)))] [.row false 51 4 (frow (zp (q.set K c))),.blk 51 (fr (c:Rat)),.row false 51 4 (frow (zp (List.replicate K 0)))] rfl rfl ?_;have p2:=Qoa (p:=a) (q:=ZV K (Fq b c)) (U6 hab (by decide)) (U6 (Qa3 (Ge hbb hcs)) (by decide)) (by omega) (by rw[dX];omega);rw[<-Qq1]at p2;refine go tt [.k (Qbx (c:=c) (U6 hbb (by decide)) (by omega) (by omega)),.s (sz:=4) (Qci (zp (Fq b c))),.c [2] p2] rfl (by simp[U4,hzl,hpl];omega) ?_;exact rd (j,Nf a (ZV K (Fq b c)),q.set K c) (by dsimp only;omega) ⟨hrj,hqs c⟩ rfl
def sO(l:Un):Us:=l.map λp=>[rp (zp p)]
theorem VP(l:Un):(sO l).length=l.length:=by simp[sO]
theorem HK(l:Un)(g:Um):sO l++[[rp (zp g)]]=sO (l++[g]):=by simp[sO]
theorem VS{l:Un}{i:Nat}(h:i<l.length):(sO l)[i]? = some [rp (zp (l.getD i []))]:=G6 (nS h)
theorem Qpx(x:LV):∀c∈[[x]],c.length=1:=λc hc=>by rw[Qk.1 hc];rfl
theorem BO{a b q:Um}(h:DOk a b q):∃r,Uj 230 [.one (rp (zp a)),.one (rp (zp b))] [.one (rp (zp q)),.one (rp (zp r))]:=by
 obtain⟨h1,h2,h3,h4,qf,r,n,h5,h6,h7,rfl⟩:=h;exact⟨r,Qby h1 h2 h3 h4 h5 h7⟩
theorem mP{a:Um}{mf:Nat}{f:Nat->Um}(ta:Fg a)(ha:Bd 9000000 a)(la:a.length<=1000)(h2:2<=a.length)(hF:FRun a mf f):Uj 164 [.one (rp (zp a))] [.one (.row (sO (AQ f mf)))]:=by
 obtain⟨⟨n,ls,hrun,hlen,hq⟩,hms⟩:=hF;have hal:=qX a;refine Fx func164 rfl ?_;refine Ud [.F,.k (QH ta ha la),.o 3 87 1,.lo] rfl ?_;refine sb [(3,.v (.one (.orow 0 1 none))),(4,.v (.one (.orow 1 1 none)))] [.row false 87 1 [],.row false 87 1 (sO [Tp a])] rfl rfl ?_;refine Ui (S:=Nat×Un) 2 (λL1 s=>(4,.v (.one (.orow 1 1 none)))::L1) (λs=>[.row false 87 1 [],.row false 87 1 (sO s.2)]) (λs=>s.1) (λs=>LRun s.1 s.2 ls/\0<s.2.length/\s.2.length<=1001) (n,[Tp a]) ⟨hrun,by show 0<1;decide,by show 1<=1001;decide⟩ rfl rfl λ⟨k,l⟩ ⟨hs1,hs2,hs3⟩=>?_
 have hs1:LRun k l ls:=hs1;have hs2:0<l.length:=hs2;have hs3:l.length<=1001:=hs3;have hll:=VP l;have hlast:(sO l)[l.length-1]? = some [rp (zp (M8 l))]:=VS (by omega);have hpl:=qX (M8 l);dsimp only;rcases hs1.inv with⟨hk,hlf,hl1⟩|⟨j,m2,g,hk,hg1,hg2,hg3,hg4,hg5,hg6,hg7,hlr⟩
 ·have hlm:l.length=mf+1:=by rw[hlf];exact hlen
  rw[<-hlf]at hq;have hl2:=VP (l++[[1]]);have hl3:(l++[[1]]).length=mf+2:=by simp[hlm]
  refine go tt [.r 23 (eI (b:=((l.length-1:Nat):Int)) (by omega)),.i (l.length-1),.x hlast,.F,.k Qgg,.s (sz:=1) (Qpx _)] rfl (by simp[U4,hll];omega) ?_;rw[HK];refine Ui (S:=Nat) 2 (λL1 i=>(6,.v (.oi i))::(3,.v (.one (.orow 0 1 none)))::L1) (λi=>[.row false 87 1 (sO (AQ f i)),.row false 87 1 (sO (l++[[1]]))]) (λi=>mf-i) (λi=>i<=mf) 0 (Qh _) rfl rfl λi hi=>?_
  have htl:=VP (AQ f i);rw[sG]at htl;by_cases h:i<mf
  ·obtain⟨x,y,z,hx,hy,hz,hf⟩:=hq i h;obtain⟨rx,hdx⟩:=BO hx;obtain⟨ry,hdy⟩:=BO hy;obtain⟨rz,hdz⟩:=BO hz;refine go tt [.T,.i i,.x (VS (by omega)),.i (i+1),.x (VS (by omega)),.k hdx,.i (i+1),.x (VS (by omega)),.i (i+2),.x (VS (by omega)),.k hdy,.k (QH hx.trim hx.bd hx.len),.k (QH hy.trim hy.bd hy.len),.k hdz,.k (QH hz.trim hz.bd hz.len),.s (sz:=1) (Qpx _)] rfl (by simp[U4,hl2,htl];omega) ?_;exact rd (i+1) (by omega) h (by rw[HK,Qdp,hf];rfl)
  ·have e:i=mf:=by omega
   rw[e];exact Uf [.F] rfl rfl (by simp[U4];omega)
 ·subst hk;refine go tt [.r 23 (eI (b:=((l.length-1:Nat):Int)) (by omega)),.i (l.length-1),.x hlast,.T,.r 31 (eI (b:=((l.length-1:Nat):Int)) (by omega)),.i (l.length-1),.x hlast,.k (Qge (U6 hg4 (by decide)) (by omega)),.k (Quf hg3 (Fz _ _) hg4 hg5 hg2 (Qa (Nl _) (by omega)) hg6),.s (sz:=1) (Qpx _)] rfl (by simp[U4,hll];omega) ?_;exact rd (j,l++[g]) (by dsimp only;omega) ⟨hlr,by simp,by simp;omega⟩ (by rw[HK];rfl)
theorem Qbz{a:Um}{mf:Nat}{f:Nat->Um}(ta:Fg a)(ha:Bd 9000000 a)(la:a.length<=1000)(h2:2<=a.length)(hF:FRun a mf f)(hP:Qxm mf f):Uj 155 [.one (rp (zp a))] [.one (rp (zp (O3 f mf)))]:=by
 have hms:=hF.small;have hal:=qX a;have htl:=VP (AQ f mf);rw[sG]at htl;refine Fx func155 rfl ?_;refine Ud [.F,.k Qgg,.k (mP ta ha la h2 hF)] rfl ?_;refine Ui (S:=Nat) 0 (λL1 i=>(15,.v (.oi i))::(3,.v (.one (rp (zp (O3 f i)))))::L1) (λ_=>[]) (λi=>mf-i) (λi=>i<=mf) 0 (Qh _) rfl rfl λi hi=>?_
 by_cases h:i<mf
 ·obtain⟨g1,g2,g3,g4⟩:=hP i h;refine Ue [.T,.x (G6 (f:=λp=>[rp (zp p)]) (Qli h)),.k (Qug (p:=O3 f i) (q:=f i) (by omega) (by omega) g1 g3 (by decide))] rfl ?_;exact rd (i+1) (by omega) h rfl
 ·have e:i=mf:=by omega
  rw[e];exact Uf [.F] rfl
theorem Qcu{l:Un}(g:Um)(h:0<l.length):(sO l++[[rp (zp g)]])[l.length-1]? = some [rp (zp (M8 l))]:=by
 rw[Zi (by rw[VP];omega)];exact VS (by omega)
theorem Qgd{a sq:Um}{c:Un}(ta:Fg a)(ha:Bd 9000000 a)(la:a.length<=1000)(h2:2<=a.length)(hC:ChRun a sq c):Uj 88 [.one (rp (zp a))] [.one (.row (sO c))]:=by
 obtain⟨⟨mf,f,hF,hP,rfl⟩,⟨n,hcr⟩,hbd,hle,hsm⟩:=hC;refine Fx func88 rfl ?_;refine Ud [.k (Qbz ta ha la h2 hF hP),.lo,.k (Qge (p:=O3 f mf) (U6 hbd (by decide)) (by omega)),.k (uQ (p:=Gx (O3 f mf)) (Fz _ _) (U6 (xB (t:=10) hbd (by omega)) (by decide)) (Qa (Nl _) (by omega)))] rfl ?_;refine sb [(5,.v (.one (rp (zp (Bq (Gx (O3 f mf))))))),(4,.v (.one (.orow 0 1 none)))] [.row false 87 1 (sO [O3 f mf])] rfl rfl ?_;refine Ui (S:=Nat×Un×Um) 1 (λL1 s=>(5,.v (.one (rp (zp s.2.2))))::(4,.v (.one (.orow 0 1 none)))::L1) (λs=>[.row false 87 1 (sO s.2.1)]) (λs=>s.1) (λs=>CRun s.1 s.2.1 s.2.2 c/\0<s.2.1.length/\s.2.1.length<=1001) (n,[O3 f mf],Bq (Gx (O3 f mf))) ⟨hcr,by show 0<1;decide,by show 1<=1001;decide⟩ rfl rfl λ⟨k,l,g⟩ ⟨hs1,hs2,hs3⟩=>?_
 have hs1:CRun k l g c:=hs1;have hs2:0<l.length:=hs2;have hs3:l.length<=1001:=hs3;have hll:=VP l;have hgl:=qX g;dsimp only;rcases hs1.inv with⟨hk,hlf,hg0⟩|⟨j,m2,r,hk,hg1,hg2,hg3,hrr,hrt,hrb,hrl,hl0,hl1,hcj⟩
 ·subst hlf;exact Uf [.F] rfl
 ·subst hk;refine go tt [.T,.s (sz:=1) (Qpx _),.r 23 (eI (b:=((l.length-1:Nat):Int)) (by simp;omega)),.i (l.length-1),.x (Qcu g hl0),.k (eJ (a0:=M8 l) (b:=g) (res:=r) hg1 hg2 hg3 hrr),.k (uQ (p:=r) hrt hrb hrl),.k (Qgb (p:=Bq r) (Qa2 hrb) (Qa (nO r) (by omega)))] rfl (by simp[U4,hll];omega) ?_;exact rd (j,l++[g],My (Bq r)) (by dsimp only;omega) ⟨hcj,by simp,by simp;omega⟩ (by rw[HK];rfl)
theorem Qxs{q:Rat}(h1:Ff q.num<=2000000)(h2:Ff (q.den:Int)<=2000000):Bd 9000000 [-q.num,(q.den:Int)]:=λz hz=>by
 simp only[Qn,X2,or_false]at hz;rcases hz with rfl|rfl
 ·rw[Hn];omega
 ·omega
abbrev aq(q:Rat)(c:Un):Ur:=[rp (zp [-q.num,(q.den:Int)]),.row (sO c)]++fr q++fr q
theorem wO{q:Rat}{c:Un}(hq:Qs 2000000 q)(hC:Qd9 q c):Uj 31 [.agg (fr q)] [.agg (aq q c)]:=by
 obtain⟨sq,hch⟩:=hC;have co:=ZH (n:=1) (by decide);exact Ug func31 rfl [.k co,.k (Ag (n:=q.num)),.k (Qe6 (z:=q.num)),.k co,.k (Ag (n:=(q.den:Int))),.k (Qgd (a:=[-q.num,(q.den:Int)]) (Qar q) (Qxs hq.1 hq.2) (by show 2<=1000;decide) (Ql 2) hch)] rfl
end Orr
namespace Orr
end Orr
namespace Orr
open Go Go.Proofs Tryz
set_option maxRecDepth 10000
structure Rs(k:Crv):Prop where
 n:ZI k
 c:Cs 100000 16 k



theorem Qph(l:Uo)(n:Nat):(lm l).take (min l.length n)=lm (l.take n):=by
 rw[lm,lm,<-Jv];rcases Nat.le_total l.length n with h|h
 ·rw[Zy h,Q6,Qm h]
 ·rw[V4 h]
theorem Qub{l:Uo}{n:Nat}(hn:n<=1000):Uj 264 [.one (.row (lm l)),.oi n] [.one (.row (lm (l.take n)))]:=by
 rw[<-Qph];have hll:(lm l).length=l.length:=by simp[lm]
 exact Ug func264 rfl [.r 9 (eI (b:=((min l.length n:Nat):Int)) (by omega)),.i (min l.length n)] rfl rfl (by simp[U4,hll];omega)
def Ir(l:List RawInt):Us:=l.map Ed
theorem O9(l:List RawInt):(Ir l).length=l.length:=by simp[Ir]
abbrev rcw(z:RawPt):Ur:=[.row (Ir z.x),.row (Ir z.y),.bool z.d.b,.row (lm z.d.l)]
theorem US{z:RawInt}(hz:z.Ok){most:Int}(hm:0<=most/\most<=999):Uj 204 [.agg (Ed z),.oi most] [.agg (G9 (H7 most z))]:=by
 obtain⟨b,l⟩:=z;have hb:=WY hm.1 ⟨b,l⟩;have hs:Ff (H7 most ⟨b,l⟩)<=100000000:=Qa (Sj.2 (show(H7 most ⟨b,l⟩).natAbs<2^10 by omega)) (by decide);cases l with
 |nil=>exact Ug func204 rfl [.t rfl] rfl (by simp[H7,Lo]) trivial
 |
  cons u l =>
  have hu:=hz.u u (Qy ..);have co:=ZH (n:=H7 most ⟨b,u::l⟩) (by omega);have ct:=Qnv hs;have hr:Int.tmod (u:Int) (most+1)=(u:Int) % (most+1):=Y5 (by omega);have h1:=Ye (u:Int) (b:=most+1) (by omega);have h2:=Js (u:Int) (b:=most+1) (by omega);cases b with
  |
   true =>
   rw[show H7 most ⟨true,u::l⟩=-((u:Int) % (most+1)) from rfl]at co ct ⊢;exact Ug func204 rfl [.f (decide_eq_false (by simp[lm];try omega)),.x (l:=lm (u::l)) (i:=0) (xs:=[.int .u32 (u:Int)]) rfl,.r 18 (eI hr),.t rfl,.k co,.k ct] rfl rfl (by simp[U4];omega)
  |
   false =>
   rw[show H7 most ⟨false,u::l⟩=(u:Int) % (most+1) from rfl]at co ct ⊢;exact Ug func204 rfl [.f (decide_eq_false (by simp[lm];try omega)),.x (l:=lm (u::l)) (i:=0) (xs:=[.int .u32 (u:Int)]) rfl,.r 18 (eI hr),.f rfl,.k co,.k ct] rfl rfl (by simp[U4];omega)
theorem oz2{P:Program}[Mo P]{n:Nat}{Q:Exit->Sg->Ut->Prop}{L L':Sg}{B B':Ut}(d off T sz:Nat){it:List It}(hs:Rm it=true)(h:cK (P:=P) d L B [.oc d off T sz]=some (L',B',[],[]))(k:AK P n Q it L' B'):AK P n Q it L B:=AK.sub (ER h EqOk.nil) hs k
theorem pz{P:Program}[Mo P]{n:Nat}{Q:Exit->Sg->Ut->Prop}{L L':Sg}{B B':Ut}(i:Nat){it:List It}(hs:Rm it=true)(h:Qdc [i] L B=some (L',B'))(k:AK P n Q it L' B'):AK P n Q it L B:=AK.sub (GU h) hs k
def Ar(l:Um):Us:=l.map G9
theorem qT(l:Um):(Ar l).length=l.length:=by simp[Ar]
theorem TX{most:Int}{l:List RawInt}{i:Nat}{a:RawInt}(hi:i<3)(h:l[i]? = some a):Ar (Gq most (l.take (i+1)))=Ar (Gq most (l.take i))++[G9 (H7 most a)]:=by
 rw[yH hi h];simp[Ar]
theorem yF{most:Int}{l:List RawInt}{i:Nat}(hi:i<=3)(h:i<=l.length):(Ar (Gq most (l.take i))).length=i:=by
 rw[qT];unfold Gq;rw[List.length_map,List.length_take,List.length_take];omega
def rwq(z:RawPt):Ur:=rcw z++[.int .i64 z.id]
end Orr
namespace Orr
open Go Go.Proofs Tryz Orq
set_option maxRecDepth 10000
theorem Qnp{l:Uo}(hl:l.length<=1000000000):Uj 218 [.one (.row (lm l)),.one (.row (lm l))] [.one (.bool true)]:=by
 have hll:(lm l).length=l.length:=by simp[lm]
 refine Fx func218 rfl ?_;refine Ud [.f (decide_eq_false (λh=>h rfl))] rfl ?_;refine Ui (S:=Nat) 0 (λL1 i=>(5,.v (.oi i))::L1) (λ_=>[]) (λi=>l.length-i) (λi=>i<=l.length) 0 (Qh _) rfl rfl λi hi=>?_
 by_cases h:i<l.length
 ·have hx:(lm l)[i]? = some [.int .u32 ((l[i]:Nat):Int)]:=G6 (Qe h);refine Ue [.T,.x hx,.x hx,.f (decide_eq_false (λh=>h rfl))] rfl ?_;exact rd (i+1) (by omega) h rfl
 ·exact Uf [.F] rfl
theorem Qnn{z:Int}(hz:Ff z<=4294967295):Uj 149 [.agg (G9 z),.agg (G9 z)] [.one (.bool true)] :=
 Ug func149 rfl [.g 10 true (decide_eq_true rfl),.k (Qnp (l:=Gd z.natAbs) (by have:=Rp (x:=z.natAbs) (k:=4294967295) hz;omega))] rfl
theorem Qno{p:Um}(hp:Bd 4294967295 p)(hl:p.length<=1000000):Uj 78 [pr p,pr p] [.one (.bool true)]:=by
 have hpl:(p.map G9).length=p.length:=by simp
 show Uj 78 [.one (.row (p.map G9)),.one (.row (p.map G9))] _;refine Fx func78 rfl ?_;refine Ud [.f (decide_eq_false (λh=>h rfl))] rfl ?_;refine Ui (S:=Nat) 0 (λL1 i=>(13,.v (.oi i))::L1) (λ_=>[]) (λi=>p.length-i) (λi=>i<=p.length) 0 (Qh _) rfl rfl λi hi=>?_
 by_cases h:i<p.length
 ·have hx:=Pi (Rj h);refine Ue [.T,.x hx,.x hx,.k (Qnn (Fv hp i)),.f rfl] rfl ?_;exact rd (i+1) (by omega) h rfl
 ·exact Uf [.F] rfl
theorem Qfn{l:List Ct}(hl:∀c∈l,Cp c.p)(hn:l.length≤1000000):Uj 23 [.one (.row (U9 l)),.one (.row (U9 l))] [.one (.bool true)]:=by
 have hcl:=Pu l;refine Fx func23 rfl ?_;refine Ud [.f (decide_eq_false (λh=>h rfl))] rfl ?_;refine Ui (S:=Nat) 0 (λL1 i=>(13,.v (.oi i))::L1) (λ_=>[]) (λi=>l.length-i) (λi=>i<=l.length) 0 (Qh _) rfl rfl λi hi=>?_
 by_cases h:i<l.length
 ·obtain⟨c,hc⟩:=gxE (l:=l) (i:=i) h;have hx:=XY hc;have hp:=hl c (Qc hc);refine Ue [.T,.x hx,.x hx,.g 27 false (by simp),.x hx,.x hx,.g 40 false (by simp),.x hx,.x hx,.k (Qno (U6 hp.b (by decide)) (by have:=hp.l;omega)),.f rfl] rfl ?_;exact rd (i+1) (by omega) h rfl
 ·exact Uf [.F] rfl
end Orr
namespace Orr
open Go Go.Proofs Tryz
set_option maxRecDepth 10000
abbrev Q09:Crv:=⟨[0,1],[],1⟩
theorem Cs.up{s n s' n':Nat}{k:Crv}(h:Cs s n k)(hs:s<=s')(hn:n<=n'):Cs s' n' k:=⟨U6 h.x hs,U6 h.y hs,Qa h.d hs,Qa h.lx hn,Qa h.ly hn⟩
end Orr
namespace Orr
open Go Go.Proofs Tryz Orq
set_option maxRecDepth 10000


theorem BL{c:Cr}{l l':List Pt}{r1:Us×Us}{ws:List Wt}(hc:CrOk c)(hl:∀p∈l',Sc p.c)(hn:l'.length≤1000)(h:Tn c.l c.now (Fp (AE l' c.now))=some ws) :
 U7 prog 421 [.one (.ow 0 0),.agg [pts l'],.oi 0] [.blk 223 (Tf c (U3 l) r1)] [.oi 0] [.blk 223 (Tf ⟨c.now,ws,c.ev⟩ (U3 l') (pI l' c.now))]:=by
 have hB:=pS hl hn;have cn:=mF (T:=223) (c:=c) (r0:=U3 l') (r1:=r1) hc.n;have cb:=ID (c:=c) (r1:=r1) hl hn hc.n;have cg:=Qbn (T:=223) (r0:=U3 l') (r1:=pI l' c.now) hc hc.n (I7 hc.n) (Yd 0) (hB.p _ hc.n) (hB.n _ hc.n) h;refine Fx func421 rfl ?_;exact Uh [] [0] [.f rfl,.c [0] cn,.c [0] cb,.c [0] cg] rfl
theorem Qnx{lx ly:Us}{px py:Um}{x y:LV}{d id:Int}{c:Cr}{l:List Pt}{r1:Us×Us}{ws:List Wt}(hx:IsInts lx px)(hy:IsInts ly py)(hd:Gg x y d)(hk:Cs 4294967294 1073741824 (Crv.mk px py d))(hll:l.length<=900)
 (he:WT l ⟨Crv.norm (Crv.mk px py d),id⟩=0) (hc:CrOk c) (hl:∀p∈put l ⟨Crv.norm (Crv.mk px py d),id⟩,Sc p.c) (hn:(put l ⟨Crv.norm (Crv.mk px py d),id⟩).length≤1000) (h:Tn c.l c.now (Fp (AE (put l ⟨Crv.norm (Crv.mk px py d),id⟩) c.now))=some ws) :
 U7 prog 419 [.one (.ow 0 0),.agg [.row lx,.row ly,x,y,.int .i64 id]] [.blk 223 (Tf c (U3 l) r1)] [.oi 0] [.blk 223 (Tf ⟨c.now,ws,c.ev⟩ (U3 (put l ⟨Crv.norm (Crv.mk px py d),id⟩)) (pI (put l ⟨Crv.norm (Crv.mk px py d),id⟩) c.now))]:=by
 have cp:=wN (l:=l) (id:=id) hx hy hd hk (by omega);rw[if_pos he,he]at cp;have cw:=BL (l:=l) (r1:=r1) hc hl hn h;refine Fx func419 rfl ?_;obtain⟨b,l',rfl,rfl,_⟩:=hd;exact Uh [] [0] [.k cp,.c [0] cw] rfl
theorem Qft{lx ly:Us}{px py:Um}{x y:LV}{d id:Int}{c:Cr}{l l':List Pt}{r1:Us×Us}{ws:List Wt}(hx:IsInts lx px)(hy:IsInts ly py)(hd:Gg x y d)(hk:Cs 4294967294 1073741824 (Crv.mk px py d))(hll:l.length<=1000)(h:has l id=true)(hc:CrOk c)
 (hl':l'=l.set (Rk l id) (Pt.mk (Crv.norm (Crv.mk px py d)) id)) (hs:∀p∈l',Sc p.c) (hw:Tn c.l c.now (Fp (AE l' c.now))=some ws) :
 U7 prog 420 [.one (.ow 0 0),.agg [.row lx,.row ly,x,y,.int .i64 id]] [.blk 223 (Tf c (U3 l) r1)] [.oi 0] [.blk 223 (Tf ⟨c.now,ws,c.ev⟩ (U3 l') (pI l' c.now))]:=by
 have ct1:=UR (l:=l) hx hy hd hk (by omega) h;rw[<-hl']at ct1;have cw:=BL (c:=c) (l:=l) (l':=l') (r1:=r1) hc hs (by rw[hl',Xd];omega) hw;obtain⟨b,r,rfl,rfl,_⟩:=hd;refine Fx func420 rfl ?_;exact Uh [] [0] [.k ct1,.c [0] cw] rfl
theorem Qfs{id:Int}{c:Cr}{l l':List Pt}{r1:Us×Us}{ws:List Wt}(hll:l.length<=1000)(h:has l id=true)(hc:CrOk c)
 (hl':l'=l.take (Rk l id)++l.drop (Rk l id+1)) (hs:∀p∈l',Sc p.c) (hw:Tn c.l c.now (Fp (AE l' c.now))=some ws) :
 U7 prog 418 [.one (.ow 0 0),.oi id] [.blk 223 (Tf c (U3 l) r1)] [.oi 0] [.blk 223 (Tf ⟨c.now,ws,c.ev⟩ (U3 l') (pI l' c.now))]:=by
 have ct1:=UG (l:=l) (id:=id) (by omega) h;rw[<-hl']at ct1;have cw:=BL (c:=c) (l:=l) (l':=l') (r1:=r1) hc hs (by rw[hl',Qu,Qp,Q8];omega) hw;refine Fx func418 rfl ?_;exact Uh [] [0] [.k ct1,.c [0] cw] rfl
theorem Qbp{c:Cr}{r0:Us}{r1:Us×Us}:U7 prog 64 [.one (.ow 0 0)] [.blk 223 (Tf c r0 r1)] [.one (.ow 1 0)] [.blk 223 (Tf c r0 r1),.blk 223 (Tf c r0 r1)]:=by
 refine Fx func64 rfl ?_;exact Uh [] [0,1] [] rfl
end Orr
namespace Orq
open Orr Go
def p3j(W:List Pt)(x:Pt)(i j:Nat):List P3:=Lx i W++(H8 j (W.drop (i+1))).map (λm=>(x,m))
def qA(W:List Pt)(x y:Pt)(i j k:Nat):List P3:=Lx i W++(H8 j (W.drop (i+1))++(((W.drop (i+1)).drop (j+1)).take k).map (λz=>(y,z))).map (λm=>(x,m))
theorem LA(W:List Pt)(x:Pt)(i:Nat):p3j W x i 0=Lx i W:=by simp[p3j,H8]
theorem LO(W:List Pt)(x y:Pt)(i j:Nat):qA W x y i j 0=p3j W x i j:=by simp[qA,p3j]
theorem LI{W:List Pt}{x y z:Pt}{i j k:Nat}(h:((W.drop (i+1)).drop (j+1))[k]? = some z):qA W x y i j (k+1)=qA W x y i j k++[(x,y,z)]:=by
 unfold qA;rw[Zv,h];simp
theorem vQ{W:List Pt}{x y:Pt}{i j k:Nat}(hy:(W.drop (i+1))[j]? = some y)(hk:((W.drop (i+1)).drop (j+1)).length<=k):qA W x y i j k=p3j W x i (j+1):=by
 unfold qA p3j;rw[Qm hk,Lq _ j y hy]
theorem yO{W:List Pt}{x:Pt}{i j:Nat}(hx:W[i]? = some x)(hj:j=(W.drop (i+1)).length):p3j W x i j=Lx (i+1) W:=by
 unfold p3j;rw[hj,VF W i x hx];rfl
theorem Qaq{W:List Pt}{i:Nat}(h:i=W.length):Lx i W=Rx W:=by rw[h];rfl
def p4j(W:List Pt)(x:Pt)(i j:Nat):List P4:=Ex i W++(Lx j (W.drop (i+1))).map (λm=>(x,m))
def p4k(W:List Pt)(x y:Pt)(i j k:Nat):List P4:=Ex i W++(p3j (W.drop (i+1)) y j k).map (λm=>(x,m))
def p4m(W:List Pt)(x y z:Pt)(i j k m:Nat):List P4:=Ex i W++(qA (W.drop (i+1)) y z j k m).map (λm=>(x,m))
theorem Qjk(W:List Pt)(x:Pt)(i:Nat):p4j W x i 0=Ex i W:=by simp[p4j,Lx]
theorem Qjl(W:List Pt)(x y:Pt)(i j:Nat):p4k W x y i j 0=p4j W x i j:=by unfold p4k p4j;rw[LA]
theorem Qjn(W:List Pt)(x y z:Pt)(i j k:Nat):p4m W x y z i j k 0=p4k W x y i j k:=by unfold p4m p4k;rw[LO]
theorem Qjm{W:List Pt}{x y z u:Pt}{i j k m:Nat}(h:(((W.drop (i+1)).drop (j+1)).drop (k+1))[m]? = some u):p4m W x y z i j k (m+1)=p4m W x y z i j k m++[(x,y,z,u)]:=by
 unfold p4m;rw[LI h];simp
theorem Qp2{W:List Pt}{x y z:Pt}{i j k m:Nat}(hz:((W.drop (i+1)).drop (j+1))[k]? = some z)(hm:(((W.drop (i+1)).drop (j+1)).drop (k+1)).length<=m):p4m W x y z i j k m=p4k W x y i j (k+1):=by
 unfold p4m p4k;rw[vQ hz hm]
theorem Qp1{W:List Pt}{x y:Pt}{i j k:Nat}(hy:(W.drop (i+1))[j]? = some y)(hk:k=((W.drop (i+1)).drop (j+1)).length):p4k W x y i j k=p4j W x i (j+1):=by
 unfold p4k p4j;rw[yO hy hk]
theorem Qp0{W:List Pt}{x:Pt}{i j:Nat}(hx:W[i]? = some x)(hj:j=(W.drop (i+1)).length):p4j W x i j=Ex (i+1) W:=by
 unfold p4j;rw[hj,TS W i x hx];rfl
theorem Qqh{W:List Pt}{i:Nat}(h:i=W.length):Ex i W=O8 W:=by rw[h];rfl
theorem WG:∀(k:Nat) (l:List Pt),∃r,Gt l=H8 k l++r
 | 0,l=>⟨Gt l,rfl⟩
 |k+1,[]=>⟨[],rfl⟩
 |
  k+1,x::l=>by
  obtain⟨r,h⟩:=WG k l;exact⟨r,by show l.map _++H8 l.length l=l.map _++H8 k l++r;rw[show H8 l.length l=Gt l from rfl,h,Zd]⟩
theorem AU:∀(k:Nat) (l:List Pt),∃r,Rx l=Lx k l++r
 | 0,l=>⟨Rx l,rfl⟩
 |k+1,[]=>⟨[],rfl⟩
 |
  k+1,x::l=>by
  obtain⟨r,h⟩:=AU k l;exact⟨r,by show(Gt l).map _++Lx l.length l=(Gt l).map _++Lx k l++r;rw[show Lx l.length l=Rx l from rfl,h,Zd]⟩
theorem tW:∀(k:Nat) (l:List Pt),∃r,O8 l=Ex k l++r
 | 0,l=>⟨O8 l,rfl⟩
 |k+1,[]=>⟨[],rfl⟩
 |
  k+1,x::l=>by
  obtain⟨r,h⟩:=tW k l;exact⟨r,by show(Rx l).map _++Ex l.length l=(Rx l).map _++Ex k l++r;rw[show Ex l.length l=O8 l from rfl,h,Zd]⟩
theorem oZ{W:List Pt}(h6:W.length<=6){x y:Pt}{i j k:Nat}(hx:W[i]? = some x)(hy:(W.drop (i+1))[j]? = some y):(qA W x y i j k).length<=20:=by
 have h0:=(VV h6).1;obtain⟨r,hr⟩:=AU (i+1) W;rw[VF W i x hx]at hr;obtain⟨r2,hr2⟩:=WG (j+1) (W.drop (i+1));rw[Lq _ j y hy]at hr2;have e1:=congrArg List.length hr;have e2:=congrArg List.length hr2;have e3:(((W.drop (i+1)).drop (j+1)).take k).length<=((W.drop (i+1)).drop (j+1)).length:=by rw[Qp];exact Nat.min_le_right _ _
 unfold qA;simp only[Qu,Q9]at e1 e2 ⊢;omega
theorem Qp3{W:List Pt}(h6:W.length<=6){x y z:Pt}{i j k m:Nat}(hx:W[i]? = some x)(hy:(W.drop (i+1))[j]? = some y)(hz:((W.drop (i+1)).drop (j+1))[k]? = some z):(p4m W x y z i j k m).length<=15:=by
 have h0:=(VV h6).2;obtain⟨r,hr⟩:=tW (i+1) W;rw[TS W i x hx]at hr;obtain⟨r1,hr1⟩:=AU (j+1) (W.drop (i+1));rw[VF _ j y hy]at hr1;obtain⟨r2,hr2⟩:=WG (k+1) ((W.drop (i+1)).drop (j+1));rw[Lq _ k z hz]at hr2;have e1:=congrArg List.length hr;have e2:=congrArg List.length hr1;have e4:=congrArg List.length hr2;have e3:((((W.drop (i+1)).drop (j+1)).drop (k+1)).take m).length<=(((W.drop (i+1)).drop (j+1)).drop (k+1)).length:=by rw[Qp];exact Nat.min_le_right _ _
 unfold p4m qA;simp only[Qu,Q9]at e1 e2 e4 ⊢;omega
theorem Qcq{sg:Um->Int}(hg:∀p,-1<=Hk sg p/\Hk sg p<=1)(ps:List P3):kO (A4 (ZL sg ps)):=by
 have key:∀(ps:List P3) (M:Bf),kO M->kO ((ZL sg ps).foldl (λM e=>Ec M e.1 (.int .i64 e.2)) M):=by
  intro ps
  induction ps with
  |nil=>intro M h;exact h
  |cons m ps ih=>intro M h;exact ih _ (Qij h (hg _))
 exact key ps [] Qii
theorem pL(sg:Um->Int)(T:Bf)(ps:List P4):VE (Og T (VC sg ps)):=by
 have key:∀(ps:List P4) (F:Bf),VE F->VE ((VC sg ps).foldl (λF e=>OP T e.2 e.1 F) F):=by
  intro ps
  induction ps with
  |nil=>intro M h;exact h
  |cons m ps ih=>intro M h;exact ih _ (pD h)
 exact key ps [] Qa5
theorem zK(p:Um)(q:Rat):-1<=Re p q/\Re p q<=1:=by
 rw[Ns];unfold Fh
 split
 ·exact⟨by decide,by decide⟩
 ·split <;> exact⟨by decide,by decide⟩
theorem Qk2{p:Um}{a:Tm}{s:Int}(h:GM p a=some s):-1<=s/\s<=1:=by
 unfold GM at h
 split at h
 ·injection h with h;subst h;exact⟨by decide,by decide⟩
 ·split at h
  ·injection h with h;subst h;exact zK _ _
  ·obtain⟨g,_,h⟩:=Qd.1 h
   split at h
   ·injection h with h;subst h;exact⟨by decide,by decide⟩
   ·obtain⟨c,_,h⟩:=Qd.1 h;obtain⟨x,_,h⟩:=Qd.1 h;injection h with h;subst h;exact zK _ _
theorem Qh6(a:Tm)(p:Um):-1<=Hk (Fw a) p/\Hk (Fw a) p<=1:=by
 have hs:∀p,-1<=Fw a p/\Fw a p<=1:=λp=>by
  unfold Fw;cases h:GM p a with
  |none=>exact⟨by decide,by decide⟩
  |some s=>exact Qk2 h
 have key:∀(k:Nat) (p:Um),-1<=Tw (Fw a) k p/\Tw (Fw a) k p<=1:=by
  intro k
  induction k with
  |zero=>intro p;exact⟨by simp[Tw],by simp[Tw]⟩
  |
   succ k ih =>
   intro p;simp only[Tw]
   split
   ·exact⟨by decide,by decide⟩
   ·split
    ·exact ih _
    ·exact hs p
 exact key _ p
end Orq
namespace Orr
open Go Go.Proofs Tryz Orq
set_option maxRecDepth 10000
theorem lR{a b c:Pt}{t:Tm}(ha:Sc a.c)(hb:Sc b.c)(hc:Sc c.c)(ht:Va t):Uj 255 [.oi 3,.agg (ta t),.one (.row [Fe a,Fe b,Fe c])] [.agg (Du (Lk (Fw t) a b c)),.oi 0]:=by
 have hp:=(YH ha hb hc).dp;have e:Du (Lk (Fw t) a b c)=[.int .i64 3,.int .i64 a.id,.int .i64 b.id,.int .i64 c.id,.int .i64 0,pl (Hi a.c b.c c.c),.int .i64 (Hk (Fw t) (Hi a.c b.c c.c))]:=by rw[Lk]
 rw[e];have cg:=SU hp ht;have cf:=wP ha hb hc;generalize Hi a.c b.c c.c=F at *;refine Fx func255 rfl ?_;refine Ud [.k Qbu,.f rfl] rfl ?_;refine Ui (S:=Nat) 3 (λL1 i=>(22,.v (.oi i))::L1) (λi=>[.blk 105 (ta t),.blk 99 zCt,.blk 99 [.int .i64 3,.int .i64 (if 1<=i then a.id else 0),.int .i64 (if 2<=i then b.id else 0),.int .i64 (if 3<=i then c.id else 0),.int .i64 0,.nils,.int .i64 0]]) (λi=>3-i) (λi=>i<=3) 0 (Qh _) rfl rfl λi hi=>?_
 rcases(show i=0\/i=1\/i=2\/i=3 by omega)with rfl|rfl|rfl|rfl
 ·refine Ud [.t rfl,.x (i:=0) (xs:=Fe a) rfl,.i 0] rfl ?_ (by simp[U4]);exact rd 1 (by omega) (by omega) rfl
 ·refine Ud [.t rfl,.x (i:=1) (xs:=Fe b) rfl,.i 1] rfl ?_ (by simp[U4]);exact rd 2 (by omega) (by omega) rfl
 ·refine Ud [.t rfl,.x (i:=2) (xs:=Fe c) rfl,.i 2] rfl ?_ (by simp[U4]);exact rd 3 (by omega) (by omega) rfl
 ·exact Uf [.f rfl,.f rfl,.f rfl,.t rfl,.x (i:=0) (xs:=Fe a) rfl,.x (i:=1) (xs:=Fe b) rfl,.x (i:=2) (xs:=Fe c) rfl,.k cf,.k cg] rfl
theorem If{α:Type}(s:α->α->α->Bool):∀(l acc:List α) (c:α),P9 s acc (l++[c])=c::Lt s c (P9 s acc l)
 | [],_,_=>rfl
 |_::l,_,c=>If s l _ c
theorem lE{R:List Pt}{t:Tm}(hR:∀p∈R,Sc p.c)(hn:R.length≤1000000)(ht:Va t):Uj 292 [.agg (ta t),.one (pts R)] [.one (pts (Pq (Fw t) R))]:=by
 have hcl:=G7 R;show Uj 292 [.agg (ta t),.one (.row (U3 R))] [.one (.row (U3 (P9 (FR (Fw t)) [] R).reverse))];obtain⟨s,hs⟩:=nmE (FR (Fw t));have hs':∀a b c,s a b c=decide (0<Hk (Fw t) (Hi a.c b.c c.c)):=λa b c=>by rw[hs];rfl
 rw[<-hs];refine Fx func292 rfl ?_;refine Ud [.o 5 40 5] rfl ?_;refine Ui (S:=Nat) 2 (λL1 i=>(10,.v (.oi i))::(5,.v (.one (.orow 1 5 none)))::L1) (λi=>[.blk 105 (ta t),.row false 40 5 (U3 (P9 s [] (R.take i)).reverse)]) (λi=>R.length-i) (λi=>i<=R.length) 0 (Qh _) rfl rfl λi hi=>?_
 by_cases hlt:i<R.length
 ·obtain⟨c,hc⟩:=gxE (l:=R) (i:=i) hlt;have hcp:=hR c (Qc hc);have hst:P9 s [] (R.take (i+1))=c::Lt s c (P9 s [] (R.take i)):=by rw[Zv,hc];exact If s _ _ c
  obtain⟨O,hO⟩:=nmE (P9 s [] (R.take i));have hOl:O.length<=1000000:=by
   have:=KD s (R.take i) [];rw[<-hO,Qp]at this;simp at this;omega
  have hOm:∀x∈O,Sc x.c:=λx hx=>by
   rw[hO]at hx;rcases KL hx with h|h
   ·cases h
   ·exact hR x (Qo h)
  rw[<-hO]at hst ⊢;have hrl:(U3 O.reverse).length=O.length:=by rw[G7,Xq]
  have hm:∀y∈[Fe c],y.length=5:=λy hy=>by rw[Qk.1 hy];rfl
  have hget:∀{pre r:List Pt} {x:Pt},O=pre++x::r->∀j,j=r.length->(U3 O.reverse)[j]? = some (Fe x):=λ{pre r x} e j hj=>by
   refine Ty ?_;rw[e,hj];simp
  have hfin:∀{pre st:List Pt},O=pre++st->U3 (c::st).reverse=(U3 O.reverse).take st.length++[Fe c]:=λ{pre st} e=>by
   rw[e];simp[U3,Jv,List.take_append]
  have hfull:U3 (c::O).reverse=U3 O.reverse++[Fe c]:=by simp[U3]
  refine Ud [.t (by simp[hcl];omega),.x (Ty hc)] rfl ?_;refine Ui (S:=Bool×List Pt) 3 (λL1 s=>(5,.v (.one (.orow 1 5 (cond s.1 (some (0,s.2.length)) none))))::L1) (λ_=>[.blk 105 (ta t),.row false 40 5 (U3 O.reverse),.blk 40 (Fe c)]) (λs=>s.2.length) (λst=>(∃pre,O=pre++st.2/\(st.1=false->pre=[]))/\Lt s c st.2=Lt s c O) (false,O) ⟨⟨[],rfl,λ_=>rfl⟩,rfl⟩ rfl rfl λ⟨b,st⟩ ⟨⟨pre,h1,h2⟩,h3⟩=>?_
  have h1:O=pre++st:=h1;have h3:Lt s c st=Lt s c O:=h3;have hl1:O.length=pre.length+st.length:=by rw[h1,Qu]
  have fin:∀{st:List Pt},O=pre++st->Lt s c st=Lt s c O->Lt s c st=st->U3 (P9 s [] (R.take (i+1))).reverse=(U3 O.reverse).take st.length++[Fe c]/\(pre=[]->U3 (P9 s [] (R.take (i+1))).reverse=U3 O.reverse++[Fe c]):=λ{st} e1 e2 e3=>by
   rw[hst,<-e2,e3];refine⟨hfin e1,λhp=>?_⟩;rw[hp]at e1;rw[<-hfull,e1];rfl
  rcases st with _|⟨z,_|⟨y,r⟩⟩
  ·obtain⟨f1,f2⟩:=fin h1 h3 rfl;cases b with
   |
    false =>
    have hp:=h2 rfl;have f2:=f2 hp;rw[hp]at hl1;have hl2:(U3 O.reverse).length<=1:=by rw[hrl,hl1];simp
    refine Ue [.g 17 false Uk,.f rfl,.s (sz:=5) hm] rfl ?_;exact rd (i+1) (by omega) hlt (by rw[f2];rfl)
   |
    true =>
    refine Ue [.g 17 false (decide_eq_false (by simp)),.f rfl,.s (sz:=5) hm] rfl ?_;exact rd (i+1) (by omega) hlt (by rw[f1];rfl)
  ·obtain⟨f1,f2⟩:=fin h1 h3 rfl;cases b with
   |
    false =>
    have hp:=h2 rfl;have f2:=f2 hp;rw[hp]at hl1;have hl2:(U3 O.reverse).length<=1:=by rw[hrl,hl1];simp
    refine Ue [.g 17 false Uk,.f rfl,.s (sz:=5) hm] rfl ?_;exact rd (i+1) (by omega) hlt (by rw[f2];rfl)
   |
    true =>
    refine Ue [.g 17 false (decide_eq_false (by simp)),.f rfl,.s (sz:=5) hm] rfl ?_;exact rd (i+1) (by omega) hlt (by rw[f1];rfl)
  ·have sz:=hOm z (by rw[h1];simp);have sy:=hOm y (by rw[h1];simp);have co:=wP sy sz hcp;have cg:=SU (YH sy sz hcp).dp ht;have gz:=hget h1 (r.length+1) rfl;have gy:=hget (pre:=pre++[z]) (r:=r) (x:=y) (by rw[h1];simp) r.length rfl;have hl1:O.length=pre.length+(r.length+2):=hl1;have hls:=hs' y z c;by_cases hq:s y z c=true
   ·have hg:¬Hk (Fw t) (Hi y.c z.c c.c)<=0:=by rw[hls]at hq;have:=of_decide_eq_true hq;omega
    obtain⟨f1,f2⟩:=fin h1 h3 (by simp only[Lt];rw[if_pos hq]);cases b with
    |
     false =>
     have hp:=h2 rfl;have f2:=f2 hp;rw[hp]at hl1;have hl2:(U3 O.reverse).length=r.length+2:=by rw[hrl,hl1];simp
     refine Ue [.g 17 true Ul,.r 21 (eI (b:=(r.length:Int)) (by omega)),.i r.length,.x gy,.r 28 (eI (b:=((r.length+1:Nat):Int)) (by omega)),.i (r.length+1),.x gz,.k co,.k cg,.f (decide_eq_false hg),.s (sz:=5) hm] rfl ?_;exact rd (i+1) (by omega) hlt (by rw[f2];rfl)
    |
     true =>
     refine Ue [.g 17 true (decide_eq_true (by simp;omega)),.r 21 (eI (b:=(r.length:Int)) (by simp;omega)),.i r.length,.x (l:=U3 O.reverse) (i:=0+r.length) (xs:=Fe y) (by rw[Zz];exact gy),.r 28 (eI (b:=((r.length+1:Nat):Int)) (by simp)),.i (r.length+1),.x (l:=U3 O.reverse) (i:=0+(r.length+1)) (xs:=Fe z) (by rw[Zz];exact gz),.k co,.k cg,.f (decide_eq_false hg),.s (sz:=5) hm] rfl ?_;exact rd (i+1) (by omega) hlt (by rw[f1];rfl)
   ·have hg:Hk (Fw t) (Hi y.c z.c c.c)<=0:=by
     rw[hls]at hq;have:=of_decide_eq_false (Wu.2 hq);omega
    have hpop:Lt s c (y::r)=Lt s c O:=by rw[<-h3];simp only[Lt];rw[if_neg hq]
    have hin:(∃pre',O=pre'++(y::r)/\((true:Bool)=false->pre'=[]))/\Lt s c (y::r)=Lt s c O:=⟨⟨pre++[z],by rw[h1];simp,λh=>by cases h⟩,hpop⟩;cases b with
    |
     false =>
     have hp:=h2 rfl;rw[hp]at hl1;have hl2:(U3 O.reverse).length=r.length+2:=by rw[hrl,hl1];simp
     refine Ue [.g 17 true Ul,.r 21 (eI (b:=(r.length:Int)) (by omega)),.i r.length,.x gy,.r 28 (eI (b:=((r.length+1:Nat):Int)) (by omega)),.i (r.length+1),.x gz,.k co,.k cg,.t (decide_eq_true hg),.r 42 (eI (b:=((r.length+1:Nat):Int)) (by omega)),.i (r.length+1)] rfl ?_;exact rd (true,y::r) (by simp) hin rfl
    |
     true =>
     refine Ue [.g 17 true (decide_eq_true (by simp;omega)),.r 21 (eI (b:=(r.length:Int)) (by simp;omega)),.i r.length,.x (l:=U3 O.reverse) (i:=0+r.length) (xs:=Fe y) (by rw[Zz];exact gy),.r 28 (eI (b:=((r.length+1:Nat):Int)) (by simp)),.i (r.length+1),.x (l:=U3 O.reverse) (i:=0+(r.length+1)) (xs:=Fe z) (by rw[Zz];exact gz),.k co,.k cg,.t (decide_eq_true hg),.r 42 (eI (b:=((r.length+1:Nat):Int)) (by simp)),.i (r.length+1)] rfl ?_;exact rd (true,y::r) (by simp) hin rfl
 ·obtain rfl:i=R.length:=by omega
  rw[Q6];exact Uf [.f (by simp[hcl])] rfl
theorem mE{sg:Um->Int}{R:List Pt}(h:R≠[]):0<(Pq sg R).length:=by
 unfold Pq;rw[Xq];obtain⟨x,hx⟩:∃x,R.getLast? = some x:=⟨_,Yq h⟩;obtain⟨l,hl⟩:=Y9.1 hx;rw[hl,If];simp
theorem rB{α:Type}(s:α->α->α->Bool)(c:α):∀{st:List α},st≠[]->0<(Lt s c st).length
 | [],h=>absurd rfl h
 | [_],_=>by simp[Lt]
 |
  b::a::r,_=>by
  simp only[Lt]
  split
  ·simp
  ·exact rB s c (by simp)
theorem CY{sg:Um->Int}{R:List Pt}(h:2<=R.length):2<=(Pq sg R).length:=by
 unfold Pq;rw[Xq];obtain⟨x,hx⟩:∃x,R.getLast? = some x:=⟨_,Yq (by intro e;rw[e]at h;simp at h)⟩;obtain⟨l,hl⟩:=Y9.1 hx;have hl0:l≠[]:=by intro e;rw[hl,e]at h;simp at h
 have:=mE (sg:=sg) hl0;unfold Pq at this;rw[Xq]at this;have:=rB (FR sg) x (st:=P9 (FR sg) [] l) (by intro e;rw[e]at this;simp at this);rw[hl,If,Q5];omega
theorem eY{R:List Pt}{t:Tm}(hR:∀p∈R,Sc p.c)(hn:R.length≤1000000)(ht:Va t):Uj 256 [.agg (ta t),.one (pts R)] [.one (pts (Ee (Fw t) R))]:=by
 have hcl:=G7 R;have hrl:=G7 R.reverse;rw[Xq]at hrl;show Uj 256 [.agg (ta t),.one (.row (U3 R))] [.one (.row (U3 (Ee (Fw t) R)))];refine Fx func256 rfl ?_;by_cases h3:R.length<3
 ·have e:Ee (Fw t) R=R:=if_pos h3;rw[e];exact Uf [.T] rfl
 have c1:=lE hR hn ht;have c2:=lE (R:=R.reverse) (λp hp=>hR p (Jm.1 hp)) (by rw[Xq];exact hn) ht;have p1:=CY (sg:=Fw t) (R:=R) (by omega);have p2:=CY (sg:=Fw t) (R:=R.reverse) (by rw[Xq];omega);have k1:=QT (Fw t) R;have k2:=QT (Fw t) R.reverse;rw[Xq]at k2;refine go tt [.F,.o 5 40 5,.r 15 (eI (b:=(R.length:Int)-1-((0:Nat):Int)) (by omega))] rfl (by simp[U4,hcl];omega) ?_;refine Ui (S:=Nat) 2 (λL1 j=>(6,.v (.oi ((R.length:Int)-1-(j:Int))))::(5,.v (.one (.orow 1 5 none)))::L1) (λj=>[.blk 105 (ta t),.row false 40 5 (U3 (R.reverse.take j))]) (λj=>R.length-j) (λj=>j<=R.length) 0 (Qh _) rfl rfl λj hj=>?_
 by_cases hlt:j<R.length
 ·obtain⟨x,hx⟩:=gxE (l:=R) (i:=R.length-1-j) (by omega);have hx':R.reverse[j]? = some x:=by rw[List.getElem?_reverse (by omega)];exact hx
  have hm:∀y∈[Fe x],y.length=5:=λy hy=>by rw[Qk.1 hy];rfl
  have e:U3 (R.reverse.take (j+1))=U3 (R.reverse.take j)++[Fe x]:=by rw[Zv,hx'];simp[U3]
  have htl:(U3 (R.reverse.take j)).length=j:=by rw[G7,Qp,Xq];omega
  refine go tt [.T,.r 22 (eI (b:=((R.length-1-j:Nat):Int)) (by omega)),.x (Ty hx),.s (sz:=5) hm,.r 19 (eI (b:=(R.length:Int)-1-((j+1:Nat):Int)) (by omega))] rfl (by simp[U4,htl];omega) ?_;exact rd (j+1) (by omega) hlt (by rw[e];rfl)
 ·obtain rfl:j=R.length:=by omega
  rw[Qm (by rw[Xq];exact Ql _)];obtain⟨A,hA⟩:=nmE (Pq (Fw t) R);obtain⟨C,hC⟩:=nmE (Pq (Fw t) R.reverse);have e:Ee (Fw t) R=A.dropLast++C.dropLast:=by rw[hA,hC];exact if_neg h3
  rw[<-hA]at c1 p1 k1;rw[<-hC]at c2 p2 k2;rw[e];have hs:∀y∈(C.map Fe).take (C.length-1),y.length=5:=λy hy=>VJ C y (Qo hy)
  have hs2:∀y∈(A.map Fe).take (A.length-1),y.length=5:=λy hy=>VJ A y (Qo hy)
  refine Uf [.F,.p 1,.k c1,.k c2,.r 36 (eI (b:=((A.length-1:Nat):Int)) (by simp;omega)),.r 39 (eI (b:=((A.length-1:Nat):Int)) (by simp;omega)),.i (A.length-1),.r 44 (eI (b:=((C.length-1:Nat):Int)) (by simp;omega)),.i (C.length-1),.s (sz:=5) hs] rfl (by simp[U3,Jv,List.dropLast_eq_take]) ?_;simp only[U4,Qp,Q9]
  and_intros <;> first|exact hs2|omega
theorem SK{l:List Pt}{t:Tm}(hl:∀p∈l,Sc p.c)(hn:l.length≤1000000)(ht:Va t):U7 prog 253 [.agg (ta t),.one (pts l)] [] [.one (.orow 0 7 none)] [.row false 99 7 (U9 (Pa (Fw t) l))]:=by
 have hcl:=G7 l;show U7 prog 253 [.agg (ta t),.one (.row (U3 l))] [] [.one (.orow 0 7 none)] [.row false 99 7 (U9 (Pa (Fw t) l))];refine Fx func253 rfl ?_;refine Ud [.o 5 99 7] rfl ?_;refine Ui (S:=Nat) 2 (λL1 i=>(6,.v (.oi ((i+1:Nat):Int)))::(5,.v (.one (.orow 1 7 none)))::L1) (λi=>[.blk 105 (ta t),.row false 99 7 (U9 ((Pa (Fw t) l).take i))]) (λi=>l.length-i) (λi=>i<=l.length-1) 0 (Qh _) rfl rfl λi hi=>?_
 by_cases hlt:i+1<l.length
 ·obtain⟨a,ha⟩:=gxE (l:=l) (i:=i) (by omega);obtain⟨b,hb⟩:=gxE (l:=l) (i:=i+1) hlt;have hg:=TN (Fw t) ha hb;have hm:∀y∈[Du (ZX (Fw t) a b)],y.length=7:=λy hy=>by rw[Qk.1 hy];rfl
  refine go tt [.t (by simp[hcl];omega),.r 19 (eI (b:=(i:Int)) (by simp)),.x (Ty ha),.x (Ty hb),.k (lH (hl a (Qc ha)) (hl b (Qc hb)) ht),.s (sz:=7) hm,.r 14 (eI (b:=((i+1+1:Nat):Int)) (by simp))] rfl (by simp[U4,G7,Pu,B8];omega) ?_;exact rd (i+1) (by omega) (by omega) (by rw[hg];simp[U9];rfl)
 ·have e:(Pa (Fw t) l).take i=Pa (Fw t) l:=Qm (by rw[B8];omega);rw[e];exact Uh [] [1] [.f (by simp[hcl];omega)] rfl
theorem uI{C:List Pt}{i:Nat}{a b:Pt}(ha:C[i]? = some a)(hb:C[(i+1) % C.length]? = some b):(Rv C)[i]? = some (a,b):=by
 have hi:=(Qf.1 ha).1;unfold Rv;rw[List.getElem?_zip_eq_some];refine⟨ha,?_⟩;by_cases h:i+1<C.length
 ·rw[Xu h]at hb;rw[Zi (by rw[Q8];omega),Xc,Ju];exact hb
 ·have e:i+1=C.length:=by omega
  rw[e,Nat.mod_self]at hb;rw[Z8 (by rw[Q8];omega),Q8,show i-(C.length-1)=0 by omega,Kf (by omega)];exact hb
theorem uO(C:List Pt):(Rv C).length=C.length:=by
 unfold Rv;rw[List.length_zip,Qu,Q8,Qp];omega
theorem AX{α β:Type}{f:α->List β}{l:List α}{i:Nat}{x:α}(h:l[i]? = some x):(l.take (i+1)).flatMap f=(l.take i).flatMap f++f x:=by
 rw[Zv,h];simp
theorem TE{α β:Type}{f:α->β}{p:α->Bool}{l:List α}{i:Nat}{x:α}(h:l[i]? = some x):((l.take (i+1)).filter p).map f=((l.take i).filter p).map f++if p x=true then [f x]else []:=by
 rw[Zv,h,Vk,Yh];congr 1;simp only[Option.toList];by_cases hp:p x=true
 ·rw[if_pos hp,X6 hp];rfl
 ·rw[if_neg hp,Jy hp];rfl
theorem fV{α β:Type}{f:α->List β}{n:Nat}(hf:∀x,(f x).length<=n)(l:List α):(l.flatMap f).length<=l.length*n:=KI f n l λx _=>hf x
theorem Qax{l:List Pt}(hl:∀p∈l,Sc p.c):∀p∈l,Qd8 4294967294 1073741824 p:=λp hp=>⟨(hl p hp).n,(hl p hp).c.mono (by decide) (by decide)⟩
set_option maxHeartbeats 4000000 in
theorem IN{l:List Pt}{a:Tm}{c:Cr}{r1:Us}(hl:∀p∈l,Sc p.c)(hn:l.length≤10)(ha:Va a):U7 prog 197 [.one (.ow 0 0),.agg (ta a)] [.blk 225 (Hm c (U3 l) r1)] [.one (.row (U9 (BX l a)))] [.blk 225 (Hm c (U3 l) (brH l a))]:=by
 have hwl:=QJ l;have cw:=mG (l:=l) (Qax hl) (by omega);have cr:=wB (l:=Tq l) (λp hp=>hl p (Nx hp)) (by omega) ha;have cn:=eY (R:=Sf a (Tq l)) (λp hp=>hl p (Nx (Hr.1 hp))) (by rw[Nu];omega) ha;have cr2:=wB hl (by omega) ha;have cc:=SK (l:=Sf a l) (t:=a) (λp hp=>hl p (Hr.1 hp)) (by rw[Nu];omega) ha;have hCm:∀p∈S9 l a,p∈l:=λp hp=>I9 hp
 have hCl:=YG l a;have e0:BX l a=VI l a++Bl (Fw a) l (S9 l a):=rfl;rw[e0];show U7 prog 197 _ _ _ [.blk 225 (Hm c (U3 l) (U3 (S9 l a)))];have cn:Uj 256 [.agg (ta a),.one (pts (Sf a (Tq l)))] [.one (pts (S9 l a))]:=cn;have cc:U7 prog 253 [.agg (ta a),.one (pts (Sf a l))] [] [.one (.orow 0 7 none)] [.row false 99 7 (U9 (VI l a))]:=cc;have hbl:(VI l a).length<=10:=by unfold VI;rw[B8,Nu];omega
 obtain⟨C,hC⟩:=nmE (S9 l a);obtain⟨cs0,hc0⟩:=nmE (VI l a);rw[<-hC]at cn hCm hCl ⊢;rw[<-hc0]at cc hbl ⊢;have hcp:=G7 C;have hlp:=G7 l;have eel:∀x,(Al (Fw a) l x).length<=l.length:=λx=>by unfold Al;rw[List.length_map];exact List.length_filter_le _ _
 refine Fx func197 rfl ?_;refine Ud [.k cw,.k cr,.k cn,.k Iu,.k cr2,.c [2] cc] rfl ?_;by_cases h2:C.length<2
 ·have e:Bl (Fw a) l C=[]:=if_pos h2;rw[e,Zw];exact Uh [2] [0] [.t (decide_eq_true (by simp;omega))] rfl
 have e:Bl (Fw a) l C=(Rv C).flatMap (Al (Fw a) l):=if_neg h2;rw[e];refine Ud [.f (decide_eq_false (by simp;omega))] rfl ?_;refine sb [(48,.v (.oi 0)),(47,.v (.oi ((C.map Fe).length:Int))),(46,.v (.one (pts C))),(6,.v (.one (.orow 2 7 none))),(3,.v (.one (.ow 1 0))),(0,.v (.one (.ow 0 0)))] [.blk 225 (Hm c (U3 l) (U3 C)),.blk 105 (ta a),.row false 99 7 (U9 cs0)] rfl rfl ?_;rw[show U9 cs0=U9 (cs0++((Rv C).take 0).flatMap (Al (Fw a) l)) by simp];refine Ui (S:=Nat) 3 (λL1 i=>(48,.v (.oi i))::(6,.v (.one (.orow 2 7 none)))::L1) (λi=>[.blk 225 (Hm c (U3 l) (U3 C)),.blk 105 (ta a),.row false 99 7 (U9 (cs0++((Rv C).take i).flatMap (Al (Fw a) l)))]) (λi=>C.length-i) (λi=>i<=C.length) 0 (Qh _) rfl rfl λi hi=>?_
 by_cases hlt:i<C.length
 ·obtain⟨x,hx⟩:=gxE (l:=C) (i:=i) hlt;obtain⟨y,hy⟩:=gxE (l:=C) (i:=(i+1) % C.length) (Z4 _ (by omega));have he:=uI hx hy;have sx:=hl x (hCm x (Qc hx));have sy:=hl y (hCm y (Qc hy));have hflat:=AX (f:=Al (Fw a) l) he;obtain⟨F,hF⟩:=nmE (cs0++((Rv C).take i).flatMap (Al (Fw a) l));have hFl:F.length<=10+20*10:=by
   have h1:=fV eel ((Rv C).take i);have h2:((Rv C).take i).length*l.length<=20*10:=Zc (by rw[Qp];omega) hn;rw[hF,Qu];omega
  have hmod:(((i+1:Nat):Int)).tmod ((C.map Fe).length:Int)=(((i+1) % C.length:Nat):Int):=by rw[Q9];exact(Int.ofNat_tmod _ _).symm
  have hm0:=Ye ((i+1:Nat):Int) (show(C.length:Int)≠0 by omega);have hm1:=Js ((i+1:Nat):Int) (show(0:Int)<C.length by omega);have hnext:cs0++((Rv C).take (i+1)).flatMap (Al (Fw a) l)=F++(l.filter (VB (x,y))).map λc=>Lk (Fw a) x y c:=by rw[hflat,<-Zd,<-hF];rfl
  rw[<-hF];refine go tt [.t (decide_eq_true (by simp;omega)),.x (Ty hx),.r 58 (eI (b:=((i+1:Nat):Int)) (by simp)),.r 64 (eI (b:=(((i+1) % C.length:Nat):Int)) hmod),.x (Ty hy),.k Iu] rfl (by simp only[U4];omega) ?_;rw[show U9 F=U9 (F++((l.take 0).filter (VB (x,y))).map λc=>Lk (Fw a) x y c) by simp];refine Ui (S:=Nat) 5 (λL1 k=>(73,.v (.oi k))::(6,.v (.one (.orow 2 7 none)))::L1) (λk=>[.blk 225 (Hm c (U3 l) (U3 C)),.blk 105 (ta a),.row false 99 7 (U9 (F++((l.take k).filter (VB (x,y))).map λc=>Lk (Fw a) x y c)),.blk 40 (Fe x),.blk 40 (Fe y)]) (λk=>l.length-k) (λk=>k<=l.length) 0 (Qh _) rfl rfl λk hk=>?_
  by_cases hlk:k<l.length
  ·obtain⟨z,hz⟩:=gxE (l:=l) (i:=k) hlk;have sz:=hl z (Qc hz);have hflt:=TE (f:=λc=>Lk (Fw a) x y c) (p:=VB (x,y)) hz;obtain⟨G,hG⟩:=nmE (((l.take k).filter (VB (x,y))).map λc=>Lk (Fw a) x y c);have hGl:G.length<=10:=by
    have h1:=Y0 (VB (x,y)) (l.take k);rw[Qp]at h1;rw[hG,Q9];omega
   rw[<-hG]at hflt ⊢;by_cases h1:z.id=x.id
   ·rw[if_neg (show ¬VB (x,y) z=true by simp[VB,h1]),Zw]at hflt;refine Ue [.t (decide_eq_true (by simp;omega)),.x (Ty hz),.g 82 false (decide_eq_false (by simp[h1])),.f rfl] rfl ?_;exact rd (k+1) (by omega) hlk (by rw[hflt];rfl)
   ·by_cases h2:z.id=y.id
    ·rw[if_neg (show ¬VB (x,y) z=true by simp[VB,h2]),Zw]at hflt;refine Ue [.t (decide_eq_true (by simp;omega)),.x (Ty hz),.g 82 true (decide_eq_true h1),.f (decide_eq_false (by simp[h2]))] rfl ?_;exact rd (k+1) (by omega) hlk (by rw[hflt];rfl)
    ·rw[if_pos (show VB (x,y) z=true by simp[VB,h1,h2])]at hflt;have hm:∀q∈[Du (Lk (Fw a) x y z)],q.length=7:=λq hq=>by rw[Qk.1 hq];rfl
     refine go tt [.t (decide_eq_true (by simp;omega)),.x (Ty hz),.g 82 true (decide_eq_true h1),.t (decide_eq_true h2),.k (lR sx sy sz ha),.s (sz:=7) hm] rfl (by simp[U4,Pu];omega) ?_;have e3:U9 (F++(G++[Lk (Fw a) x y z]))=U9 (F++G)++[Du (Lk (Fw a) x y z)]:=by simp[U9]
     exact rd (k+1) (by omega) hlk (by rw[hflt,e3];rfl)
  ·obtain rfl:k=l.length:=by omega
   rw[Q6,<-hnext];refine Ue [.f (decide_eq_false (by simp))] rfl ?_;exact rd (i+1) (by omega) hlt rfl
 ·obtain rfl:i=C.length:=by omega
  rw[Qm (by rw[uO];exact Ql _)];exact Uh [2] [0] [.f (decide_eq_false (by simp))] rfl
theorem ozM{P:Program}[Mo P]{n:Nat}{Q:Exit->Sg->Ut->Prop}{L L':Sg}{B B':Ut}(d off T sz:Nat){it:List It}(hs:Rm it=true)(h:cK (P:=P) d L B [.oc d off T sz]=some (L',B',[],[]))(k:AK P n Q it L' B'):AK P n Q it L B:=AK.sub (ER h EqOk.nil) hs k
theorem jV{k:Crv}(hk:Sc k):Uj 279 [.agg (cl k)] [.one (.row (JB (ZT k)))]:=by
 have ok:=GQ hk.n hk.c;have l1:=Tx k.x k.x;have l2:=Tx k.y k.y;have:=hk.c.lx;have:=hk.c.ly;have bx:Bd 258 (Gm k.x k.x):=Po (u:=2) hk.c.x hk.c.x (by omega);have by_:Bd 258 (Gm k.y k.y):=Po (u:=2) hk.c.y hk.c.y (by omega);have c1:=Sr (p:=k.x) (c:=k.d) (by omega) (U6 hk.c.x (by decide)) (Qa hk.c.d (by decide));have c2:=Sr (p:=k.y) (c:=k.d) (by omega) (U6 hk.c.y (by decide)) (Qa hk.c.d (by decide));have c3:=KN (p:=k.x) (q:=k.x) hk.n.1 hk.n.1 (by omega) (by omega) hk.c.x hk.c.x (by decide);have c4:=KN (p:=k.y) (q:=k.y) hk.n.2.1 hk.n.2.1 (by omega) (by omega) hk.c.y hk.c.y (by decide);have c5:=BM (p:=Gm k.x k.x) (q:=Gm k.y k.y) (by omega) (by omega) (U6 bx (by decide)) (U6 by_ (by decide));have c6:=Pp (U5 k.d) (U5 k.d) (Qa hk.c.d (by decide)) (Qa hk.c.d (by decide));have hl:∀p∈ZT k,p.length≤1000000:=λp hp=>by
  obtain⟨j,hj⟩:=Xv hp;have h1:=ok.2 j p hj;have:[2,2,4,0].getD j 0<=4:=by
   match j with
   | 0=>decide
   | 1=>decide
   | 2=>decide
   | 3=>decide
   |j+4=>simp
  omega
 have cd:=Qeq (r:=ZT k) (λp hp=>(ok.1 p hp).1) (λp hp=>U6 (ok.1 p hp).2 (by decide)) hl (by show 4<=1000;decide);exact Ug func279 rfl [.k (D2 hk.n (hk.c.mono (by decide) (by decide))),.k c1,.k c2,.k c3,.k c4,.k c5,.k c6,.k cd] rfl
theorem Qez{a b c d:Crv}(ha:Sc a)(hb:Sc b)(hc:Sc c)(hd:Sc d):Uj 238 [.agg (cl a),.agg (cl b),.agg (cl c),.agg (cl d)] [pr (KJ a b c d)]:=by
 have cd:=Qr2 (by decide) (k:=4) (ds:=[2,2,4,0]) (by decide) rfl (by decide) (sV ha.n hb.n hc.n hd.n ha.c hb.c hc.c hd.c);exact Ug func238 rfl [.k (jV ha),.k (jV hb),.k (jV hc),.k (jV hd),.k cd] rfl
set_option maxHeartbeats 1000000 in
theorem Qnc{a b c d:Pt}{t:Tm}(ha:Sc a.c)(hb:Sc b.c)(hc:Sc c.c)(hd:Sc d.c)(ht:Va t):Uj 255 [.oi 4,.agg (ta t),.one (.row [Fe a,Fe b,Fe c,Fe d])] [.agg (Du (qM (Fw t) a b c d)),.oi 0]:=by
 have hp:=(aZ ha hb hc hd).dp;have e:Du (qM (Fw t) a b c d)=[.int .i64 4,.int .i64 a.id,.int .i64 b.id,.int .i64 c.id,.int .i64 d.id,pl (KJ a.c b.c c.c d.c),.int .i64 (Hk (Fw t) (KJ a.c b.c c.c d.c))]:=by rw[qM]
 rw[e];have cg:=SU hp ht;have cf:=Qez ha hb hc hd;generalize KJ a.c b.c c.c d.c=F at *;refine Fx func255 rfl ?_;refine Ud [.k Qbv,.f rfl] rfl ?_;refine Ui (S:=Nat) 3 (λL1 i=>(22,.v (.oi i))::L1) (λi=>[.blk 105 (ta t),.blk 99 zCt,.blk 99 [.int .i64 4,.int .i64 (if 1<=i then a.id else 0),.int .i64 (if 2<=i then b.id else 0),.int .i64 (if 3<=i then c.id else 0),.int .i64 (if 4<=i then d.id else 0),.nils,.int .i64 0]]) (λi=>4-i) (λi=>i<=4) 0 (Qh _) rfl rfl λi hi=>?_
 rcases(show i=0\/i=1\/i=2\/i=3\/i=4 by omega)with rfl|rfl|rfl|rfl|rfl
 ·refine Ud [.t rfl,.x (i:=0) (xs:=Fe a) rfl,.i 0] rfl ?_ (by simp[U4]);exact rd 1 (by omega) (by omega) rfl
 ·refine Ud [.t rfl,.x (i:=1) (xs:=Fe b) rfl,.i 1] rfl ?_ (by simp[U4]);exact rd 2 (by omega) (by omega) rfl
 ·refine Ud [.t rfl,.x (i:=2) (xs:=Fe c) rfl,.i 2] rfl ?_ (by simp[U4]);exact rd 3 (by omega) (by omega) rfl
 ·refine Ud [.t rfl,.x (i:=3) (xs:=Fe d) rfl,.i 3] rfl ?_ (by simp[U4]);exact rd 4 (by omega) (by omega) rfl
 ·exact Uf [.f rfl,.f rfl,.f rfl,.f rfl,.t rfl,.x (i:=0) (xs:=Fe a) rfl,.x (i:=1) (xs:=Fe b) rfl,.x (i:=2) (xs:=Fe c) rfl,.x (i:=3) (xs:=Fe d) rfl,.k cf,.k cg] rfl
def fY(T:Bf)(s:Int)(n:Um)(F:Bf)(k:Nat):Bf:=(List.range k).foldl (Od T s n) F
theorem nU(T:Bf)(s:Int)(n:Um)(F:Bf)(k:Nat):fY T s n F (k+1)=Od T s n (fY T s n F k) k:=by unfold fY;rw[List.range_succ,List.foldl_append];rfl
theorem nW(T:Bf)(s:Int)(n:Um)(F:Bf):fY T s n F 4=OP T s n F:=rfl
set_option maxHeartbeats 4000000 in
theorem Qua{F T:Bf}{s n0 n1 n2 n3:Int}(hT:kO T)(hs:-1<=s/\s<=1):U7 prog 261 [.one (.omap 0),.one (.omap 1),.oi s,.agg [.int .i64 n0,.int .i64 n1,.int .i64 n2,.int .i64 n3]] [.mpb F,.mpb T] [] [.mpb (OP T s [n0,n1,n2,n3] F),.mpb T]:=by
 have hm:Qmi T:=λk=>(hT k).1
 have hb:=λ(k:Um) (x:Int) (hx:-1<=x/\x<=1)=>Qcy (hT k).2 hx
 rw[<-nW];obtain⟨f,hf⟩:=nmE (fY T s [n0,n1,n2,n3] F);have f0:F=f 0:=by rw[hf];rfl
 have fs:∀k,f (k+1)=Od T s [n0,n1,n2,n3] (f k) k:=λk=>by rw[hf];exact nU ..
 rw[<-hf];rw[f0];clear hf f0;refine Fx func261 rfl ?_;refine Ud [] rfl ?_;refine Ui (S:=Nat) 3 (λL1 k=>(14,.v (.oi k))::L1) (λk=>[.mpb (f k),.mpb T,.blk 95 [.int .i64 n0,.int .i64 n1,.int .i64 n2,.int .i64 n3]]) (λk=>4-k) (λk=>k<=4) 0 (by decide) rfl rfl λk hk=>?_
 rcases(show k=0\/k=1\/k=2\/k=3\/k=4 by omega)with rfl|rfl|rfl|rfl|rfl
 ·have e1:=fs 0;have e2:Od T s [n0,n1,n2,n3] (f 0) 0=if ZC T [n1,n2,n3]*(-s)>0 then Ec (f 0) [n1,n2,n3] (.bool true)else f 0:=rfl
  rw[e2]at e1;refine Ud [.t rfl] rfl ?_;refine Ui (S:=Nat) 4 (λL1 i=>(18,.v (.oi i))::(10,.v (.oi (if i<=0 then(i:Int)else(i:Int)-1)))::L1) (λi=>[.mpb (f 0),.mpb T,.blk 95 [.int .i64 n0,.int .i64 n1,.int .i64 n2,.int .i64 n3],.blk 84 [.int .i64 (if 2<=i then n1 else 0),.int .i64 (if 3<=i then n2 else 0),.int .i64 (if 4<=i then n3 else 0)]]) (λi=>4-i) (λi=>i<=4) 0 (by decide) rfl rfl λi hi=>?_
  rcases(show i=0\/i=1\/i=2\/i=3\/i=4 by omega)with rfl|rfl|rfl|rfl|rfl
  ·refine Ud [.t rfl,.i 0,.f rfl] rfl ?_ (by simp[U4]);exact rd 1 (by omega) (by omega) rfl
  ·refine Ud [.t rfl,.i 1,.t rfl,.i 0] rfl ?_ (by simp[U4]);exact rd 2 (by omega) (by omega) rfl
  ·refine Ud [.t rfl,.i 2,.t rfl,.i 1] rfl ?_ (by simp[U4]);exact rd 3 (by omega) (by omega) rfl
  ·refine Ud [.t rfl,.i 3,.t rfl,.i 2] rfl ?_ (by simp[U4]);exact rd 4 (by omega) (by omega) rfl
  ·have hbb:=hb [n1,n2,n3] (-s) (by omega);by_cases hc:ZC T [n1,n2,n3]*(-s)>0
   ·rw[if_pos hc]at e1;refine go tt [.f rfl,.t rfl,.t (decide_eq_true hc)] rfl (by simp only[U4];first|exact⟨⟨by omega,by omega⟩,hbb,hm,⟨by omega,by omega⟩,by decide,by omega,by omega⟩|exact⟨⟨by omega,by omega⟩,hbb,hm,by decide,by omega,by omega⟩) ?_;exact rd 1 (by omega) (by omega) (by rw[e1];rfl)
   ·rw[if_neg hc]at e1;refine go tt [.f rfl,.t rfl,.f (decide_eq_false hc)] rfl (by simp only[U4];first|exact⟨⟨by omega,by omega⟩,hbb,hm,⟨by omega,by omega⟩,by decide,by omega,by omega⟩|exact⟨⟨by omega,by omega⟩,hbb,hm,by decide,by omega,by omega⟩) ?_;exact rd 1 (by omega) (by omega) (by rw[e1];rfl)
 ·have e1:=fs 1;have e2:Od T s [n0,n1,n2,n3] (f 1) 1=if ZC T [n0,n2,n3]*s>0 then Ec (f 1) [n0,n2,n3] (.bool true)else f 1:=rfl
  rw[e2]at e1;refine Ud [.t rfl] rfl ?_;refine Ui (S:=Nat) 4 (λL1 i=>(18,.v (.oi i))::(10,.v (.oi (if i<=1 then(i:Int)else(i:Int)-1)))::L1) (λi=>[.mpb (f 1),.mpb T,.blk 95 [.int .i64 n0,.int .i64 n1,.int .i64 n2,.int .i64 n3],.blk 84 [.int .i64 (if 1<=i then n0 else 0),.int .i64 (if 3<=i then n2 else 0),.int .i64 (if 4<=i then n3 else 0)]]) (λi=>4-i) (λi=>i<=4) 0 (by decide) rfl rfl λi hi=>?_
  rcases(show i=0\/i=1\/i=2\/i=3\/i=4 by omega)with rfl|rfl|rfl|rfl|rfl
  ·refine Ud [.t rfl,.i 0,.t rfl,.i 0] rfl ?_ (by simp[U4]);exact rd 1 (by omega) (by omega) rfl
  ·refine Ud [.t rfl,.i 1,.f rfl] rfl ?_ (by simp[U4]);exact rd 2 (by omega) (by omega) rfl
  ·refine Ud [.t rfl,.i 2,.t rfl,.i 1] rfl ?_ (by simp[U4]);exact rd 3 (by omega) (by omega) rfl
  ·refine Ud [.t rfl,.i 3,.t rfl,.i 2] rfl ?_ (by simp[U4]);exact rd 4 (by omega) (by omega) rfl
  ·have hbb:=hb [n0,n2,n3] s (by omega);by_cases hc:ZC T [n0,n2,n3]*s>0
   ·rw[if_pos hc]at e1;refine go tt [.f rfl,.f rfl,.t (decide_eq_true hc)] rfl (by simp only[U4];first|exact⟨⟨by omega,by omega⟩,hbb,hm,⟨by omega,by omega⟩,by decide,by omega,by omega⟩|exact⟨⟨by omega,by omega⟩,hbb,hm,by decide,by omega,by omega⟩) ?_;exact rd 2 (by omega) (by omega) (by rw[e1];rfl)
   ·rw[if_neg hc]at e1;refine go tt [.f rfl,.f rfl,.f (decide_eq_false hc)] rfl (by simp only[U4];first|exact⟨⟨by omega,by omega⟩,hbb,hm,⟨by omega,by omega⟩,by decide,by omega,by omega⟩|exact⟨⟨by omega,by omega⟩,hbb,hm,by decide,by omega,by omega⟩) ?_;exact rd 2 (by omega) (by omega) (by rw[e1];rfl)
 ·have e1:=fs 2;have e2:Od T s [n0,n1,n2,n3] (f 2) 2=if ZC T [n0,n1,n3]*(-s)>0 then Ec (f 2) [n0,n1,n3] (.bool true)else f 2:=rfl
  rw[e2]at e1;refine Ud [.t rfl] rfl ?_;refine Ui (S:=Nat) 4 (λL1 i=>(18,.v (.oi i))::(10,.v (.oi (if i<=2 then(i:Int)else(i:Int)-1)))::L1) (λi=>[.mpb (f 2),.mpb T,.blk 95 [.int .i64 n0,.int .i64 n1,.int .i64 n2,.int .i64 n3],.blk 84 [.int .i64 (if 1<=i then n0 else 0),.int .i64 (if 2<=i then n1 else 0),.int .i64 (if 4<=i then n3 else 0)]]) (λi=>4-i) (λi=>i<=4) 0 (by decide) rfl rfl λi hi=>?_
  rcases(show i=0\/i=1\/i=2\/i=3\/i=4 by omega)with rfl|rfl|rfl|rfl|rfl
  ·refine Ud [.t rfl,.i 0,.t rfl,.i 0] rfl ?_ (by simp[U4]);exact rd 1 (by omega) (by omega) rfl
  ·refine Ud [.t rfl,.i 1,.t rfl,.i 1] rfl ?_ (by simp[U4]);exact rd 2 (by omega) (by omega) rfl
  ·refine Ud [.t rfl,.i 2,.f rfl] rfl ?_ (by simp[U4]);exact rd 3 (by omega) (by omega) rfl
  ·refine Ud [.t rfl,.i 3,.t rfl,.i 2] rfl ?_ (by simp[U4]);exact rd 4 (by omega) (by omega) rfl
  ·have hbb:=hb [n0,n1,n3] (-s) (by omega);by_cases hc:ZC T [n0,n1,n3]*(-s)>0
   ·rw[if_pos hc]at e1;refine go tt [.f rfl,.t rfl,.t (decide_eq_true hc)] rfl (by simp only[U4];first|exact⟨⟨by omega,by omega⟩,hbb,hm,⟨by omega,by omega⟩,by decide,by omega,by omega⟩|exact⟨⟨by omega,by omega⟩,hbb,hm,by decide,by omega,by omega⟩) ?_;exact rd 3 (by omega) (by omega) (by rw[e1];rfl)
   ·rw[if_neg hc]at e1;refine go tt [.f rfl,.t rfl,.f (decide_eq_false hc)] rfl (by simp only[U4];first|exact⟨⟨by omega,by omega⟩,hbb,hm,⟨by omega,by omega⟩,by decide,by omega,by omega⟩|exact⟨⟨by omega,by omega⟩,hbb,hm,by decide,by omega,by omega⟩) ?_;exact rd 3 (by omega) (by omega) (by rw[e1];rfl)
 ·have e1:=fs 3;have e2:Od T s [n0,n1,n2,n3] (f 3) 3=if ZC T [n0,n1,n2]*s>0 then Ec (f 3) [n0,n1,n2] (.bool true)else f 3:=rfl
  rw[e2]at e1;refine Ud [.t rfl] rfl ?_;refine Ui (S:=Nat) 4 (λL1 i=>(18,.v (.oi i))::(10,.v (.oi (if i<=3 then(i:Int)else(i:Int)-1)))::L1) (λi=>[.mpb (f 3),.mpb T,.blk 95 [.int .i64 n0,.int .i64 n1,.int .i64 n2,.int .i64 n3],.blk 84 [.int .i64 (if 1<=i then n0 else 0),.int .i64 (if 2<=i then n1 else 0),.int .i64 (if 3<=i then n2 else 0)]]) (λi=>4-i) (λi=>i<=4) 0 (by decide) rfl rfl λi hi=>?_
  rcases(show i=0\/i=1\/i=2\/i=3\/i=4 by omega)with rfl|rfl|rfl|rfl|rfl
  ·refine Ud [.t rfl,.i 0,.t rfl,.i 0] rfl ?_ (by simp[U4]);exact rd 1 (by omega) (by omega) rfl
  ·refine Ud [.t rfl,.i 1,.t rfl,.i 1] rfl ?_ (by simp[U4]);exact rd 2 (by omega) (by omega) rfl
  ·refine Ud [.t rfl,.i 2,.t rfl,.i 2] rfl ?_ (by simp[U4]);exact rd 3 (by omega) (by omega) rfl
  ·refine Ud [.t rfl,.i 3,.f rfl] rfl ?_ (by simp[U4]);exact rd 4 (by omega) (by omega) rfl
  ·have hbb:=hb [n0,n1,n2] s (by omega);by_cases hc:ZC T [n0,n1,n2]*s>0
   ·rw[if_pos hc]at e1;refine go tt [.f rfl,.f rfl,.t (decide_eq_true hc)] rfl (by simp only[U4];first|exact⟨⟨by omega,by omega⟩,hbb,hm,⟨by omega,by omega⟩,by decide,by omega,by omega⟩|exact⟨⟨by omega,by omega⟩,hbb,hm,by decide,by omega,by omega⟩) ?_;exact rd 4 (by omega) (by omega) (by rw[e1];rfl)
   ·rw[if_neg hc]at e1;refine go tt [.f rfl,.f rfl,.f (decide_eq_false hc)] rfl (by simp only[U4];first|exact⟨⟨by omega,by omega⟩,hbb,hm,⟨by omega,by omega⟩,by decide,by omega,by omega⟩|exact⟨⟨by omega,by omega⟩,hbb,hm,by decide,by omega,by omega⟩) ?_;exact rd 4 (by omega) (by omega) (by rw[e1];rfl)
 ·exact Uh [] [0,1] [.f rfl] rfl
end Orr
