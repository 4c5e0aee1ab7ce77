/- TW1 TW2 R3 R4 RefPL R5 R6 RefGL R7 RatOkL R8 R9 RefCL R10 R11 R12 R13 R14 R15 R16 R17 R18 SC1 W1 W2 WR18 WS18 X19 MeshK H2 H3 MD1 MD2 -/
import Derived.Test.YtoohlnnpalgnaaaGreatPart08
import Derived.Test.YtoohlnnpalgnaaaGreatPart00
import Derived.Test.YtoohlnnpalgnaaaGreatPart07
import Derived.Test.YtoohlnnpalgnaaaGreatPart04
import Derived.Test.YtoohlnnpalgnaaaGreatPart05
set_option linter.all false
namespace Orr
open Go Go.Proofs Tryz Orq
set_option maxRecDepth 10000
def Od (l:List (Pt×Pt)):Us:=l.map Qcp
theorem Qod {l m:Us} (h:l=m):TV.one (LV.row l)=.one (.row m):=h ▸ rfl
theorem oz {P:Program} [Mo P] {n:Nat} {Q:Exit->Sg->Ut->Prop} {L L':Sg} {B B':Ut} (d off T sz:Nat) {it:List It} (hs:Rk it=true) (h:bC (P:=P) d L B [.oc d off T sz]=some (L',B',[],[])) (k:AK P n Q it L' B'):AK P n Q it L B:=AK.sub (EF h EqOk.nil) hs k
theorem Qmx {a b:Pt} {t:Tm} (ha:Sc a.c) (hb:Sc b.c) (ht:Va t):Uj 255 [.oi 2,.agg (ta t),.one (.row [Fc a,Fc b])] [.agg (Lx (Dy (Fq t) a b)),.oi 0]:=by
 have h1:=M7 hb ha;have h2:=M8 hb ha;refine Fw func255 rfl ?_;refine Ud [.k Qbj,.f rfl] rfl ?_;refine Ui (S:=Nat) 3 (λL1 i=>(22,.v (.oi i))::L1) (λi=>[.blk 105 (ta t),.blk 99 zCt,.blk 99 [.int .i64 2,.int .i64 (if 1<=i then a.id else 0),.int .i64 (if 2<=i then b.id else 0),.int .i64 0,.int .i64 0,.nils,.int .i64 0]]) (λi=>2-i) (λi=>i<=2) 0 (Qh _) rfl rfl λi hi=>?_
 rcases (show i=0\/i=1\/i=2 by omega) with rfl | rfl | rfl
 ·refine Ud [.t rfl,.x (i:=0) (xs:=Fc a) rfl,.i 0] rfl ?_ (by simp [U4]);exact rd 1 (by omega) (by omega) rfl
 ·refine Ud [.t rfl,.x (i:=1) (xs:=Fc b) rfl,.i 1] rfl ?_ (by simp [U4]);exact rd 2 (by omega) (by omega) rfl
 ·exact Uf [.f rfl,.f rfl,.t rfl,.x (i:=1) (xs:=Fc b) rfl,.x (i:=0) (xs:=Fc a) rfl,.k (UJ hb.n ha.n hb.cb ha.cb),.x (i:=1) (xs:=Fc b) rfl,.x (i:=0) (xs:=Fc a) rfl,.k (UV hb.n ha.n hb.cb ha.cb),.k wR,.k (SQ (YF h1 h2).dp ht)] rfl
theorem Qfb {a:Tm} (ha:Va a) {c:Cr} {r0 r1:Us}:∀ (k:Nat) (l:List Pt) (ms:List (Pt×Pt)),l.length≤k->l.length≤1000->ms.length+l.length≤1000000->(∀ p∈l,Sc p.c)->U7 prog 254 [.one (.ow 0 0),.agg (ta a),.one (pts l)] [.blk 223 [.bool true,pl c.now.p,sg c.now.lo.num,mg c.now.lo.num,sg (c.now.lo.den:Int),mg (c.now.lo.den:Int),sg c.now.hi.num,mg c.now.hi.num,sg (c.now.hi.den:Int),mg (c.now.hi.den:Int),.row (C7 c.l),.int .i64 c.ev,.row r0,.row r1,.orow 1 10 none],.row false 323 10 (Od ms)] [.one (.row (U3 (Ni (Fq a) l).1))] [.blk 223 [.bool true,pl c.now.p,sg c.now.lo.num,mg c.now.lo.num,sg (c.now.lo.den:Int),mg (c.now.lo.den:Int),sg c.now.hi.num,mg c.now.hi.num,sg (c.now.hi.den:Int),mg (c.now.hi.den:Int),.row (C7 c.l),.int .i64 c.ev,.row r0,.row r1,.orow 1 10 none],.row false 323 10 (Od (ms++(Ni (Fq a) l).2))]
 := by
  intro k
  induction k with
  | zero=>?_
  | succ k ih=>?_
  all_goals
   intro l ms hk hn hms hl;have hcl:=G7 l;show U7 prog 254 [.one (.ow 0 0),.agg (ta a),.one (.row (U3 l))] _ _ _;by_cases hs:l.length<2
   ·rw [Co _ hs,Zv];refine Fw func254 rfl ?_;exact Uh [] [0,1] [.t (by simp [hcl]; omega)] rfl
   first
    | (exfalso; omega)
    |
     skip
     obtain ⟨k1,k2,k3,k4⟩:=Qhy hs hk;obtain ⟨h,hh⟩:=nmE ((l.length+1) / 2);obtain ⟨u,hu,hul,_⟩:=Nj (Fq a) k (l.take ((l.length+1) / 2)) k1 k3;obtain ⟨v,hv,hvl,_⟩:=Nj (Fq a) k (l.drop ((l.length+1) / 2)) k2 k4;have g1:=Dn (Fq a) _ (l.take ((l.length+1) / 2)) (Ql _);have g2:=Dn (Fq a) _ (l.drop ((l.length+1) / 2)) (Ql _);have hlt:(l.take ((l.length+1) / 2)).length+(l.drop ((l.length+1) / 2)).length=l.length:=by rw [Qq,Q8]; omega
     have c1:=ih (l.take ((l.length+1) / 2)) ms k1 (by omega) (by omega) λp hp=>hl p (Qn hp)
     have c2:=ih (l.drop ((l.length+1) / 2)) (ms++(Ni (Fq a) (l.take ((l.length+1) / 2))).2) k2 (by omega) (by rw [Qy]; omega) λp hp=>hl p (Qz hp)
     have hpl:=Ox (Fq a) hs hu hv;rw [hpl];rw [hu] at c1;rw [hv] at c2;generalize (Ni (Fq a) (l.take ((l.length+1) / 2))).2=G1 at *;generalize (Ni (Fq a) (l.drop ((l.length+1) / 2))).2=G2 at *;have hsu:=hl u (Qn hul);have hsv:=hl v (Qz hvl);have cb:=Qmk (t:=a) hsu hsv ha;have htd:((l.length:Int)+1).tdiv 2=(((l.length+1) / 2:Nat):Int):=rfl;have hg:∀ m,Od (ms++(G1++G2++[m]))=Od ((ms++G1)++G2)++[Qcp m]:=λm=>by simp [Od]
     have hml:(Od ((ms++G1)++G2)).length=ms.length+G1.length+G2.length:=by simp [Od]; omega
     have hml2:(Od (ms++(G1++G2))).length=ms.length+G1.length+G2.length:=by simp [Od]; omega
     have h5:=eq_true (p:=∀ z,z∈U3 l->z.length=ti40.sz) (YI l);have e1:(U3 l).take ((l.length+1) / 2)=U3 (l.take ((l.length+1) / 2)):=by simp [U3,Jv]
     have e2:(U3 l).drop ((l.length+1) / 2)=U3 (l.drop ((l.length+1) / 2)):=by simp [U3,Vh]
     unfold PP;refine Fw func254 rfl ?_;by_cases hb:Ca (Fq a) u v=true
     ·rw [if_pos hb,hg];exact Uh [] [0,1] [.f (by simp [hcl]; omega),.r 17 (eI (b:=(((l.length+1) / 2:Nat):Int)) (by rw [hcl]; rfl)),.i ((l.length+1) / 2),.r 22 (Qod e1),.c [0,1] c1,.i ((l.length+1) / 2),.r 28 (Qod e2),.c [0,1] c2,.x (i:=0) (l:=U3 [u]) (xs:=Fc u) rfl,.x (i:=0) (l:=U3 [v]) (xs:=Fc v) rfl,.k cb,.f (by rw [hb]; rfl),.x (i:=0) (l:=U3 [u]) (xs:=Fc u) rfl,.x (i:=0) (l:=U3 [v]) (xs:=Fc v) rfl,.s (sz:=10) (l:=[Qcp (u,v)]) (λc hc=>by rw [Qk.1 hc]; rfl),.i 1] rfl (by simp [U4,G7,hml2,h5]; omega)
     ·have hb:Ca (Fq a) u v=false:=by simpa using hb
      rw [if_neg (by simp [hb]),hg];exact Uh [] [0,1] [.f (by simp [hcl]; omega),.r 17 (eI (b:=(((l.length+1) / 2:Nat):Int)) (by rw [hcl]; rfl)),.i ((l.length+1) / 2),.r 22 (Qod e1),.c [0,1] c1,.i ((l.length+1) / 2),.r 28 (Qod e2),.c [0,1] c2,.x (i:=0) (l:=U3 [u]) (xs:=Fc u) rfl,.x (i:=0) (l:=U3 [v]) (xs:=Fc v) rfl,.k cb,.t (by rw [hb]; rfl),.x (i:=0) (l:=U3 [v]) (xs:=Fc v) rfl,.x (i:=0) (l:=U3 [u]) (xs:=Fc u) rfl,.s (sz:=10) (l:=[Qcp (v,u)]) (λc hc=>by rw [Qk.1 hc]; rfl),.i 1] rfl (by simp [U4,G7,hml2,h5]; omega)
theorem IN {l:List Pt} {a:Tm} {c:Cr} {r1:Us×Us} (hl:∀ p∈l,Sc p.c) (hn:l.length≤1000) (ha:Va a):U7 prog 196 [.one (.ow 0 0),.agg (ta a)] [.blk 223 (Tt c (U3 l) r1)] [.one (.row (Fo (xG l a)))] [.blk 223 (Tt c (U3 l) (pR l a))]:=by
 have cp:=Qfb (r0:=U3 l) (c:=c) (r1:=r1.1) ha l.length l [] (Ql _) hn (by show 0+l.length≤1000000; omega) hl;have hms:=Dn (Fq a) l.length l (Ql _);unfold xG pR;obtain ⟨M,hM⟩:=nmE ((Ni (Fq a) l).2);have hmm:∀ m∈M,Sc m.1.c/\Sc m.2.c:=λm hm=>by
  rw [hM] at hm;exact ⟨hl _ (JV m hm).1,hl _ (JV m hm).2⟩
 rw [<-hM] at cp hms ⊢;rw [Yj] at cp;have hgl:(Od M).length=M.length:=by simp [Od]
 refine Fw func196 rfl ?_;refine Ud [] rfl ?_;refine oz 0 14 323 10 rfl rfl ?_;refine Ud [.k Ip,.c [0,2] cp,.o 5 99 7] rfl ?_;refine Ui (S:=Nat) 4 (λL1 i=>(29,.v (.oi i))::(5,.v (.one (.orow 3 7 none)))::L1) (λi=>[.blk 223 [.bool true,pl c.now.p,sg c.now.lo.num,mg c.now.lo.num,sg (c.now.lo.den:Int),mg (c.now.lo.den:Int),sg c.now.hi.num,mg c.now.hi.num,sg (c.now.hi.den:Int),mg (c.now.hi.den:Int),.row (C7 c.l),.int .i64 c.ev,.row (U3 l),.row (U3 (Ni (Fq a) l).1),.orow 2 10 none],.blk 105 (ta a),.row false 323 10 (Od M),.row false 99 7 (Fo ((M.map λm=>Dy (Fq a) m.1 m.2).take i))]) (λi=>M.length-i) (λi=>i<=M.length) 0 (Qh _) rfl rfl λi hi=>?_
 by_cases hlt:i<M.length
 ·obtain ⟨m,hm⟩:=gxE (l:=M) (i:=i) hlt;obtain ⟨s1,s2⟩:=hmm m (Qc hm);have hg:(Od M)[i]? = some (Qcp m):=G6 hm;have hq:∀ y∈[Lx (Dy (Fq a) m.1 m.2)],y.length=7:=λy hy=>by rw [Qk.1 hy]; rfl
  have ht:(M.map λm=>Dy (Fq a) m.1 m.2).take (i+1)=(M.map λm=>Dy (Fq a) m.1 m.2).take i++[Dy (Fq a) m.1 m.2]:=by
   rw [Z1,Q9,hm]; rfl
  refine go tt [.T,.i i,.x hg,.i 0,.i 1,.k (Qmx s1 s2 ha),.s (sz:=7) hq] rfl (by simp [U4,hgl,Nz]; omega) ?_;exact rd (i+1) (by omega) hlt (by rw [ht]; simp [Fo]; rfl)
 ·obtain rfl:i=M.length:=by omega
  rw [Qo (by simp)];exact Uh [2,3] [0] [.F] rfl
def Qxf (l:List Pt) (a:Tm):Cr:=⟨a,(Fx (xG l a)).map fresh,0⟩
theorem Qne {t:Rat} {l:List Pt} {K:Nat} {c c':Cr} {r1 r1':Us×Us} {n:Int} (ht:Qs 1640000 t) (hl:∀ p∈l,Sc p.c) (hn:l.length≤1000) (hc:CrOk c) (hev:0≤c.ev/\c.ev+K≤1000000000000000000) (h:Fp c.now t≤0) (hg:KI (xG l) (pR l) t K c r1 0=some (c',r1',n)) :
 U7 prog 417 [.one (.ow 0 0),.agg (rl t)] [.blk 223 (Tt c (U3 l) r1)] [.oi n,.oi 0] [.blk 223 (Tt c' (U3 l) r1')]:=by
 have cg:=Qxr (T:=223) (r0:=U3 l) ht (pJ hl hn) (λa c r1 ha _=>IN (c:=c) (r1:=r1) hl hn ha) hc hev h hg;refine Fw func417 rfl ?_;exact Uh [] [0] [.k (Nu (ht.mono (by decide))),.c [0] cg] rfl
theorem Qng {c:Cr} {r0 r2:Us} {w:Pt}:U7 prog 84 [.one (.ow 0 0)] [.blk 223 (Tt c r0 ([Fc w],r2))] [.oi w.id,.one (.bool true)] [.blk 223 (Tt c r0 ([Fc w],r2))]:=by
 refine Fw func84 rfl ?_;exact Uh [] [0] [.f rfl,.x (i:=0) (xs:=Fc w) rfl] rfl
theorem Qfe {c:Cr} {r0 r2:Us}:U7 prog 84 [.one (.ow 0 0)] [.blk 223 (Tt c r0 ([],r2))] [.oi 0,.one (.bool false)] [.blk 223 (Tt c r0 ([],r2))]:=by
 refine Fw func84 rfl ?_;exact Uh [] [0] [.t rfl] rfl
end Orr
namespace Orr
open Go Go.Proofs Tryz
set_option maxRecDepth 10000
theorem UN (x:Nat):(Bt (Gj x)).length=(Gj x).length:=T0 _
theorem Qcq (z:Int):∀ c∈[[LV.int .i64 z]],c.length=1:=λc hc=>by rw [Qk.1 hc]; rfl
theorem Qxz {x:Nat} (h:x<=1000000000):(Gj x).length<=3:=Qbw (by omega)
theorem tdn (n:Nat):((n:Nat):Int).tdiv 10000=((n / 10000:Nat):Int):=rfl
theorem WB (n:Nat):((n:Nat):Int).tdiv 2=((n / 2:Nat):Int):=rfl
theorem UH {x mu c0:Nat} (hx:sz x<=100000000) (hmu:mu<=65536) (hc:c0<=1000000000):Uj 180 [.one (nd x),.oi mu,.oi c0] [.one (nd (x*mu+c0))]:=by
 have hxl:=Qa (Ml x) hx;have hll:=UN x;show Uj 180 [.one (.row (Bt (Gj x))),.oi mu,.oi c0] _;refine Fw func180 rfl ?_;refine Ue [.r 11 (eI (b:=(((Gj x).length+2:Nat):Int)) (by rw [hll]; omega)),.i 0,.i ((Gj x).length+2)] rfl ?_;refine Ui (S:=Nat×Nat×Uo) 1 (λL1 s=>(8,.v (.oi (s.1:Int)))::(7,.v (.one (.orow 0 1 none)))::(2,.v (.oi (s.2.1:Int)))::L1.filter (λx=>x.1 != 12)) (λs=>[.row false 3 1 (Bt s.2.2)]) (λs=>((Gj x).length-s.1)*4+(Gj s.2.1).length) (λs=>Dg s.2.2/\s.2.2.length=s.1/\Tj s.2.2+s.2.1*10000^s.1=Tj ((Gj x).take s.1)*mu+c0/\(s.1<=(Gj x).length\/s.1+(Gj s.2.1).length<=(Gj x).length+3)/\s.2.1<=1000000000) (0,c0,[]) ⟨Dg.nil,rfl,by simp [Tj],.inl (Qh _),hc⟩ rfl rfl λs hs=>?_
 obtain ⟨i,c,o⟩:=s;obtain ⟨hp0,hp1,hp2,hp3,hp4⟩:=hs;dsimp only at hp0 hp1 hp2 hp3 hp4 ⊢;have hcl:=Qxz (x:=c) hp4;by_cases h1:i<(Gj x).length
 ·obtain ⟨d,hd⟩:=gxE (l:=(Gj x)) (i:=i) h1;have hd9:=Cg x d (Qc hd);have hdm:d*mu<=9999*65536:=Zc (by omega) hmu;have hc3:=Qxz (x:=(c+d*mu) / 10000) (by omega);have hol:(Bt o).length=i:=by rw [T0,hp1]
  refine go tt [.g 17 true Ul,.t rfl,.T,.x (Gz hd),.r 33 (eI (b:=((d*mu:Nat):Int)) (by simp)),.r 34 (eI (b:=((c+d*mu:Nat):Int)) (by omega)),.r 37 (eI (b:=(((c+d*mu) % 10000:Nat):Int)) (by rfl)),.s (sz:=1) (Qcq _),.r 41 (eI (b:=(((c+d*mu) / 10000:Nat):Int)) (by rfl))] rfl (by simp [U4,hol,tdn,WB,-Int.natCast_add,-Int.natCast_mul]; omega) ?_;exact rd (i+1,(c+d*mu) / 10000,o++[(c+d*mu) % 10000]) (by dsimp only; omega) ⟨hp0.snoc (Nat.mod_lt _ (by decide)),by dsimp only; rw [List.length_append]; show o.length+1=_; omega,by
   dsimp only;rw [Pj,Tw hd,hp1,Nat.pow_succ]; simp only [Tj,Nat.mul_zero,Nat.add_zero]; have:=OZ (d:=d) (m:=mu) rfl hp2; rw [this]; grind,.inl (by dsimp only; omega),by dsimp only; omega⟩ (by rw [Ig]; rfl)
 ·by_cases h2:0<c
  ·have hdc:=Ie (x:=c) (by omega);have hol:(Bt o).length=i:=by rw [T0,hp1]
   refine go tt [.g 17 false Uk,.T,.F,.r 37 (eI (b:=((c % 10000:Nat):Int)) (by rfl)),.s (sz:=1) (Qcq _),.r 41 (eI (b:=((c / 10000:Nat):Int)) (by rfl))] rfl (by simp [U4,hol,tdn,WB,-Int.natCast_add]; omega) ?_;exact rd (i+1,c / 10000,o++[c % 10000]) (by dsimp only; omega) ⟨hp0.snoc (Nat.mod_lt _ (by decide)),by dsimp only; rw [List.length_append]; show o.length+1=_; omega,by
    dsimp only;rw [Pj,hp1,Nat.pow_succ]; simp only [Tj,Nat.mul_zero,Nat.add_zero]; have:=OZ (d:=0) (m:=mu) rfl hp2; simp only [Nat.zero_mul,Nat.mul_zero,Nat.add_zero] at this; rw [this,List.take_of_length_le (by omega),List.take_of_length_le (by omega)],.inr (by dsimp only; omega),by dsimp only; omega⟩ (by rw [Ig]; rfl)
  ·have cc:=HM hp0;rw [show Tj o=x*mu+c0 from by
    have h:=hp2; rw [Qo (by omega),Rf,show c=0 by omega] at h; omega] at cc
   exact Uf [.g 17 false Uk,.F,.k cc] rfl
theorem Qdh {l:Uo} {j d:Nat} (h:l[j]? = some d):val (l.drop j)=d+4294967296*val (l.drop (j+1)):=by
 have hi:=(Qf.1 h).1;rw [Zp hi,(Qf.1 h).2]; rfl
theorem PU:∀ (l:Uo) (j:Nat),val (l.drop j)<=val l
 | l,0=>Ql _
 | [],j+1=>by simp
 |
  x::l,j+1=>by
  have:=PU l j;rw [Wh]; simp only [val]; omega
theorem Qmq {l:Uo} (hu:∀ u∈l,u<4294967296) (hl:l.length≤1099511627776) (hx:sz (val l)≤100000000):Uj 146 [lr l] [.one (nd (val l))]:=by
 have hll:=U8 l;show Uj 146 [.one (.row (lm l))] _;refine Fw func146 rfl ?_;refine Ue [.z 3,.r 7 (eI (b:=((l.length:Nat):Int)-1) (by rw [hll]))] rfl ?_;refine Ui (S:=Nat×Uo) 0 (λL1 s=>(4,.v (.oi ((s.1:Int)-1)))::(3,.v (.one (.row (Bt s.2))))::L1) (λ_=>[]) (λs=>s.1) (λs=>s.1<=l.length/\s.2=Gj (val (l.drop s.1))) (l.length,[]) ⟨Nat.le_refl _,by dsimp only; rw [List.drop_eq_nil_of_le (Nat.le_refl _)]; show []=Gj 0; rw [Hx]⟩ rfl rfl λs hs=>?_
 obtain ⟨j,o⟩:=s;obtain ⟨hj,ho⟩:=hs;dsimp only at hj ho ⊢;subst ho;cases j with
 | zero=>exact Uf [.f (by simp)] rfl (by rw [Xx]; rfl) trivial
 |
  succ j =>
  obtain ⟨d,hd⟩:=gxE (l:=l) (i:=j) (by omega);have hd9:=hu d (Qc hd);have hdd:=Qdh hd;have hle:=PU l j;have hs2:sz (val (l.drop (j+1))*65536+d / 65536)<=100000000:=Qa (Ri (by omega)) hx;have hs1:sz (val (l.drop (j+1)))<=100000000:=Qa (Ri (by omega)) hx;have c1:=UH (x:=val (l.drop (j+1))) (mu:=65536) (c0:=d / 65536) hs1 (by omega) (by omega);have c2:=UH (x:=val (l.drop (j+1))*65536+d / 65536) (mu:=65536) (c0:=d % 65536) hs2 (by omega) (by omega);have ej:((j+1:Nat):Int)-1=(j:Int):=by omega
  have e2:(val (l.drop (j+1))*65536+d / 65536)*65536+d % 65536=val (l.drop j):=by rw [hdd]; omega
  rw [e2] at c2;rw [ej];refine go tt [.T,.x (G5 hd),.r 17 (Ek (b:=((d / 65536:Nat):Int)) (by rfl)),.k c1,.x (G5 hd),.r 25 (Ek (b:=((d % 65536:Nat):Int)) (by rfl)),.k c2] rfl (by simp [U4,IntKind.bits]; omega) ?_;exact rd (j,Gj (val (l.drop j))) (by dsimp only; omega) ⟨by dsimp only; omega,rfl⟩ rfl
theorem pM {x y:Nat} (hx:sz x<=200000000) (hy:sz y<=200000000):Uj 187 [.one (nd x),.one (nd y)] [.oi (ZH x y)]:=by
 have hxl:=Qa (Ml x) hx;have hyl:=Qa (Ml y) hy;have lx:=UN x;have ly:=UN y;show Uj 187 [.one (.row (Bt (Gj x))),.one (.row (Bt (Gj y)))] _;refine Fw func187 rfl ?_;by_cases hl:(Gj x).length=(Gj y).length
 ·refine Ue [.f (by simp; omega),.r 18 (eI (b:=((Gj x).length:Int)-1) (by rw [lx]))] rfl ?_;refine Ui (S:=Nat) 0 (λL1 j=>(5,.v (.oi ((j:Int)-1)))::L1) (λ_=>[]) (λj=>j) (λj=>j<=(Gj x).length/\(Gj x).drop j=(Gj y).drop j) (Gj x).length ⟨Ql _,by rw [Yv (Ql _),Yv (by omega)]⟩ rfl rfl λj hs=>?_
  obtain ⟨hj,hp⟩:=hs;cases j with
  |
   zero =>
   have hxy:x=y:=by rw [Xx,Xx] at hp; rw [<-Rf x,<-Rf y,hp]
   exact Uf [.f (by simp)] rfl (by rw [eK hxy]) trivial
  |
   succ j =>
   obtain ⟨d,hd⟩:=gxE (l:=(Gj x)) (i:=j) (by omega);obtain ⟨e,he⟩:=gxE (l:=(Gj y)) (i:=j) (by omega);have ej:((j+1:Nat):Int)-1=(j:Int):=by omega
   rw [ej];by_cases h2:d=e
   ·refine Ue [.T,.x (Gz hd),.x (Gz he),.f (by simp [h2])] rfl ?_;exact rd j (by omega) ⟨by omega,by rw [Zp (by omega:j<(Gj x).length),Zp (by omega:j<(Gj y).length),hp,(Qf.1 hd).2,(Qf.1 he).2,h2]⟩ rfl
   ·by_cases h3:d<e
    ·have hxy:=CG (Cg x) hd he hp h3;rw [Rf,Rf] at hxy;exact Uf [.T,.x (Gz hd),.x (Gz he),.t (by simp; omega),.x (Gz hd),.x (Gz he),.T] rfl (by rw [MF hxy]) trivial
    ·have hxy:=CG (Cg y) he hd hp.symm (by omega);rw [Rf,Rf] at hxy;exact Uf [.T,.x (Gz hd),.x (Gz he),.t (by simp; omega),.x (Gz hd),.x (Gz he),.F] rfl (by rw [MU hxy]) trivial
 ·by_cases hlt:(Gj x).length<(Gj y).length
  ·exact Uf [.t (by simp; omega),.T] rfl (by rw [MF (uK hlt)]) trivial
  ·exact Uf [.t (by simp; omega),.F] rfl (by rw [MU (uK (by omega))]) trivial
theorem YW {o c s P V:Nat} (h:o+c*P=V):o+P*((c+s) % 10000)+(c+s) / 10000*(P*10000)=V+P*s:=by
 have e:=Xe (c+s) 10000;generalize (c+s) / 10000=q at *;generalize (c+s) % 10000=r at *;have e2:P*(c+s)=P*(10000*q+r):=by rw [e]
 grind
theorem I6 {l:Uo} {i:Nat} (h:l.length<=i):Tj (l.take (i+1))=Tj (l.take i):=by rw [Qo (by omega),Qo h]
theorem eO {l:Uo} {p v u:Nat} (h:l[p]? = some v):Tj (l.set p u)+10000^p*v=Tj l+10000^p*u:=by
 have hp:=(Qf.1 h).1;rw [MS (l.set p u) p (by rw [Xd]; omega),MS l p (by omega),XX h,HE hp,List.take_set_of_le (Ql _)];simp only [Tj];generalize 10000^p=P;grind
theorem Ih {l:Uo} {p u:Nat} (h:p<l.length):Tj ((l.set p u).take (p+1))=Tj (l.take p)+10000^p*u:=by
 rw [Tw (l:=l.set p u) (i:=p) (x:=u) (by simp [h]),List.take_set_of_le (Ql _)]
structure AddI (x y:Nat) (s:Nat×Nat×List Nat):Prop where
 d:Dg s.2.2
 l:s.2.2.length=s.1
 v:Tj s.2.2+s.2.1*10000^s.1=Tj ((Gj x).take s.1)+Tj ((Gj y).take s.1)
 c:s.2.1<=1
 b:s.1<=max (Gj x).length (Gj y).length\/s.1=max (Gj x).length (Gj y).length+1/\10000^(max (Gj x).length (Gj y).length)<=x+y/\s.2.1=0
theorem Qs6 {x y:Nat} (hx:sz x<=200000000) (hy:sz y<=200000000):Uj 186 [.one (nd x),.one (nd y)] [.one (nd (x+y))]:=by
 have hxl:=Qa (Ml x) hx;have hyl:=Qa (Ml y) hy;have lx:=UN x;have ly:=UN y;show Uj 186 [.one (.row (Bt (Gj x))),.one (.row (Bt (Gj y)))] _;refine Fw func186 rfl ?_;refine Ud [.o 5 3 1] rfl ?_;refine Ui (S:=Nat×Nat×Uo) 1 (λL1 s=>(7,.v (.oi (s.1:Int)))::(6,.v (.oi (s.2.1:Int)))::(5,.v (.one (.orow 0 1 none)))::L1) (λs=>[.row false 3 1 (Bt s.2.2)]) (λs=>(max (Gj x).length (Gj y).length-s.1)*2+s.2.1) (AddI x y) (0,0,[]) ⟨Dg.nil,rfl,by simp [Tj],by decide,.inl (Qh _)⟩ rfl rfl λs hs=>?_
 obtain ⟨i,c,o⟩:=s;obtain ⟨hp0,hp1,hp2,hp3,hp4⟩:=hs;dsimp only at hp0 hp1 hp2 hp3 hp4 ⊢;have hol:(Bt o).length=i:=by rw [T0,hp1]
 by_cases h1:i<(Gj x).length
 ·obtain ⟨d,hd⟩:=gxE (l:=(Gj x)) (i:=i) h1;have hd9:=Cg x d (Qc hd);by_cases h2:i<(Gj y).length
  ·obtain ⟨e,he⟩:=gxE (l:=(Gj y)) (i:=i) h2;have he9:=Cg y e (Qc he);refine go tt [.g 12 true Ul,.g 18 true rfl,.t rfl,.T,.x (Gz hd),.r 33 (eI (b:=((c+d:Nat):Int)) (by omega)),.T,.x (Gz he),.r 43 (eI (b:=((c+(d+e):Nat):Int)) (by omega)),.r 46 (eI (b:=(((c+(d+e)) % 10000:Nat):Int)) (by rfl)),.s (sz:=1) (Qcq _),.r 50 (eI (b:=(((c+(d+e)) / 10000:Nat):Int)) (by rfl))] rfl (by simp [U4,hol,tdn,WB,-Int.natCast_add]; omega) ?_;exact rd (i+1,(c+(d+e)) / 10000,o++[(c+(d+e)) % 10000]) (by dsimp only; omega) ⟨hp0.snoc (Nat.mod_lt _ (by decide)),by dsimp only; rw [List.length_append]; show o.length+1=_; omega,by
    dsimp only;rw [Pj,hp1,Nat.pow_succ]; simp only [Tj,Nat.mul_zero,Nat.add_zero]; have:=YW (s:=d+e) hp2; rw [this,Tw hd,Tw he]; grind,by dsimp only; omega,.inl (by dsimp only; omega)⟩ (by rw [Ig]; rfl)
  ·refine go tt [.g 12 true Ul,.g 18 true rfl,.t rfl,.T,.x (Gz hd),.r 33 (eI (b:=((c+d:Nat):Int)) (by omega)),.F,.r 46 (eI (b:=(((c+d) % 10000:Nat):Int)) (by rfl)),.s (sz:=1) (Qcq _),.r 50 (eI (b:=(((c+d) / 10000:Nat):Int)) (by rfl))] rfl (by simp [U4,hol,tdn,WB,-Int.natCast_add]; omega) ?_;exact rd (i+1,(c+d) / 10000,o++[(c+d) % 10000]) (by dsimp only; omega) ⟨hp0.snoc (Nat.mod_lt _ (by decide)),by dsimp only; rw [List.length_append]; show o.length+1=_; omega,by
    dsimp only;rw [Pj,hp1,Nat.pow_succ]; simp only [Tj,Nat.mul_zero,Nat.add_zero]; have:=YW (s:=d) hp2; rw [this,Tw hd,I6 (l:=Gj y) (by omega)]; grind,by dsimp only; omega,.inl (by dsimp only; omega)⟩ (by rw [Ig]; rfl)
 ·by_cases h2:i<(Gj y).length
  ·obtain ⟨e,he⟩:=gxE (l:=(Gj y)) (i:=i) h2;have he9:=Cg y e (Qc he);refine go tt [.g 12 false Uk,.g 18 true Ul,.t rfl,.F,.T,.x (Gz he),.r 43 (eI (b:=((c+e:Nat):Int)) (by omega)),.r 46 (eI (b:=(((c+e) % 10000:Nat):Int)) (by rfl)),.s (sz:=1) (Qcq _),.r 50 (eI (b:=(((c+e) / 10000:Nat):Int)) (by rfl))] rfl (by simp [U4,hol,tdn,WB,-Int.natCast_add]; omega) ?_;exact rd (i+1,(c+e) / 10000,o++[(c+e) % 10000]) (by dsimp only; omega) ⟨hp0.snoc (Nat.mod_lt _ (by decide)),by dsimp only; rw [List.length_append]; show o.length+1=_; omega,by
    dsimp only;rw [Pj,hp1,Nat.pow_succ]; simp only [Tj,Nat.mul_zero,Nat.add_zero]; have:=YW (s:=e) hp2; rw [this,Tw he,I6 (l:=Gj x) (by omega)]; grind,by dsimp only; omega,.inl (by dsimp only; omega)⟩ (by rw [Ig]; rfl)
  ·by_cases h3:0<c
   ·refine go tt [.g 12 false Uk,.g 18 false Uk,.T,.F,.F,.r 46 (eI (b:=((c % 10000:Nat):Int)) (by rfl)),.s (sz:=1) (Qcq _),.r 50 (eI (b:=((c / 10000:Nat):Int)) (by rfl))] rfl (by simp [U4,hol,tdn,WB,-Int.natCast_add]; omega) ?_;exact rd (i+1,c / 10000,o++[c % 10000]) (by dsimp only; omega) ⟨hp0.snoc (Nat.mod_lt _ (by decide)),by dsimp only; rw [List.length_append]; show o.length+1=_; omega,by
     dsimp only;rw [Pj,hp1,Nat.pow_succ]; simp only [Tj,Nat.mul_zero,Nat.add_zero]; have:=YW (s:=0) hp2; rw [Nat.add_zero,Nat.mul_zero,Nat.add_zero] at this; rw [this,I6 (l:=Gj y) (by omega),I6 (l:=Gj x) (by omega)],by dsimp only; omega,.inr ⟨by dsimp only; omega,by
      have h:=hp2; rw [List.take_of_length_le (by omega),List.take_of_length_le (by omega),Rf,Rf,show c=1 by omega,Nat.one_mul,show i=(max (Gj x).length (Gj y).length) by omega] at h; omega,by dsimp only; omega⟩⟩ (by rw [Ig]; rfl)
   ·have hv:Tj o=x+y:=by
     have h:=hp2;rw [Qo (by omega),Qo (by omega),Rf,Rf,show c=0 by omega] at h;omega
    have hfin:o=Gj (x+y):=by
     have h:=Qgp (o:=o) hp0;rw [hv] at h;refine h ?_;have m1:=ZO (x:=x) (y:=x+y) (by omega);have m2:=ZO (x:=y) (y:=x+y) (by omega);rcases hp4 with hb | ⟨_,hb,_⟩
     ·omega
     ·have:=Qbv hb; omega
    exact Uf [.g 12 false Uk,.g 18 false Uk,.F] rfl (by rw [hfin]; rfl) trivial
theorem YG {o b a c P u d e c':Nat} (h:o+b=a+c*P) (hs:u+e+c=d+10000*c'):(o+P*u)+(b+P*e)=(a+P*d)+c'*(P*10000):=by
 have e2:P*(u+e+c)=P*(d+10000*c'):=by rw [hs]
 grind
theorem QT (o:Uo) (i u:Nat):Bt (o.set i u)=(Bt o).set i [.int .i64 (u:Int)]:=by simp [Bt,Vs]
theorem pA {x y:Nat} (hx:sz x<=200000000) (hy:sz y<=200000000) (hyx:y<=x):Uj 188 [.one (nd x),.one (nd y)] [.one (nd (x-y))]:=by
 have hxl:=Qa (Ml x) hx;have hyl:=Qa (Ml y) hy;have lx:=UN x;have ly:=UN y;have hmy:=ZO hyx;show Uj 188 [.one (.row (Bt (Gj x))),.one (.row (Bt (Gj y)))] _;refine Fw func188 rfl ?_;refine Ue [.i (Bt (Gj x)).length,.i (Bt (Gj x)).length] rfl ?_;rw [lx,show List.replicate (Gj x).length [LV.int .i64 0]=Bt (List.replicate (Gj x).length 0) from by simp [Bt]];refine Ui (S:=Nat×Nat×Uo) 1 (λL1 s=>(14,.v (.oi (s.1:Int)))::(6,.v (.oi (s.2.1:Int)))::L1) (λs=>[.row false 3 1 (Bt s.2.2)]) (λs=>(Gj x).length-s.1) (λs=>s.1<=(Gj x).length/\s.2.2.length=(Gj x).length/\Dg s.2.2/\Tj (s.2.2.take s.1)+Tj ((Gj y).take s.1)=Tj ((Gj x).take s.1)+s.2.1*10000^s.1/\s.2.1<=1) (0,0,List.replicate (Gj x).length 0) ⟨Qh _,Jd ..,Dg.zeros _,by simp [Tj],Qh _⟩ rfl rfl λs hs=>?_
 obtain ⟨i,c,o⟩:=s;obtain ⟨hp0,hp1,hp2,hp3,hp4⟩:=hs;dsimp only at hp0 hp1 hp2 hp3 hp4 ⊢;have hol:(Bt o).length=(Gj x).length:=by rw [T0,hp1]
 by_cases h1:i<(Gj x).length
 ·obtain ⟨d,hd⟩:=gxE (l:=(Gj x)) (i:=i) h1;have hd9:=Cg x d (Qc hd);by_cases h2:i<(Gj y).length
  ·obtain ⟨e,he⟩:=gxE (l:=(Gj y)) (i:=i) h2;have he9:=Cg y e (Qc he);by_cases h3:d<c+e
   ·refine go tt [.T,.x (Gz hd),.T,.x (Gz he),.T,.r 36 (eI (b:=((d+10000-c-e:Nat):Int)) (by omega)),.i i] rfl (by simp [U4,hol,tdn,WB,-Int.natCast_add]; omega) ?_;exact rd (i+1,1,o.set i (d+10000-c-e)) (by dsimp only; omega) ⟨by dsimp only; omega,by dsimp only; rw [List.length_set]; exact hp1,hp2.set (by omega),by
     dsimp only;rw [Ih (by omega),Tw hd,Tw he,Nat.pow_succ]; exact YG hp3 (u:=d+10000-c-e) (d:=d) (e:=e) (c':=1) (by omega),by dsimp only; omega⟩ (by rw [QT]; rfl)
   ·refine go tt [.T,.x (Gz hd),.T,.x (Gz he),.r 32 (eI (b:=((d-c-e:Nat):Int)) (by omega)),.F,.i i] rfl (by simp [U4,hol,tdn,WB,-Int.natCast_add]; omega) ?_;exact rd (i+1,0,o.set i (d-c-e)) (by dsimp only; omega) ⟨by dsimp only; omega,by dsimp only; rw [List.length_set]; exact hp1,hp2.set (by omega),by
     dsimp only;rw [Ih (by omega),Tw hd,Tw he,Nat.pow_succ]; exact YG hp3 (u:=d-c-e) (d:=d) (e:=e) (c':=0) (by omega),by dsimp only; omega⟩ (by rw [QT]; rfl)
  ·have hy0:Tj ((Gj y).take (i+1))=Tj ((Gj y).take i)+10000^i*0:=by rw [I6 (by omega),Yz,Xl]
   by_cases h3:d<c
   ·refine go tt [.T,.x (Gz hd),.F,.T,.r 36 (eI (b:=((d+10000-c:Nat):Int)) (by omega)),.i i] rfl (by simp [U4,hol,tdn,WB,-Int.natCast_add]; omega) ?_;exact rd (i+1,1,o.set i (d+10000-c)) (by dsimp only; omega) ⟨by dsimp only; omega,by dsimp only; rw [List.length_set]; exact hp1,hp2.set (by omega),by
     dsimp only;rw [Ih (by omega),Tw hd,hy0,Nat.pow_succ]; exact YG hp3 (u:=d+10000-c) (d:=d) (e:=0) (c':=1) (by omega),by dsimp only; omega⟩ (by rw [QT]; rfl)
   ·refine go tt [.T,.x (Gz hd),.r 22 (eI (b:=((d-c:Nat):Int)) (by omega)),.F,.F,.i i] rfl (by simp [U4,hol,tdn,WB,-Int.natCast_add]; omega) ?_;exact rd (i+1,0,o.set i (d-c)) (by dsimp only; omega) ⟨by dsimp only; omega,by dsimp only; rw [List.length_set]; exact hp1,hp2.set (by omega),by
     dsimp only;rw [Ih (by omega),Tw hd,hy0,Nat.pow_succ]; exact YG hp3 (u:=d-c) (d:=d) (e:=0) (c':=0) (by omega),by dsimp only; omega⟩ (by rw [QT]; rfl)
 ·have hi:i=(Gj x).length:=by omega
  have hv:Tj o=x-y:=by
   have h:=hp3;rw [Qo (by omega),Qo (by omega),Qo (by omega),Rf,Rf] at h;have hlt:=CN hp2;rw [hp1,<-hi] at hlt;have hc0:c=0:=by
    rcases Q3 c with h0 | h0
    ·exact h0
    ·exfalso;have:c=1:=by omega
     rw [this,Wn] at h; omega
   rw [hc0] at h; omega
  have cc:=HM hp2;rw [hv] at cc;exact Uf [.F,.k cc] rfl
theorem CP {o o2 c P u v s V:Nat} (h:o+c*P=V) (hs:o2+P*v=o+P*u) {q:Nat} (hu:u+10000*q=v+c+s):o2+q*(P*10000)=V+P*s:=by
 have e2:P*(u+10000*q)=P*(v+c+s):=by rw [hu]
 grind
theorem Qx0 (S:Nat):S % 10000+10000*(S / 10000)=S:=We S 10000
structure MulI (x y i d:Nat) (s:Nat×Nat×List Nat):Prop where
 l:s.2.2.length=(Gj x).length+(Gj y).length
 dg:Dg s.2.2
 v:Tj s.2.2+s.2.1*10000^(i+s.1)=Tj ((Gj x).take i)*y+10000^i*d*Tj ((Gj y).take s.1)
 c:s.2.1<10000
 b:s.1<=(Gj y).length/\(∀ j v,i+(Gj y).length<=j->s.2.2[j]? = some v->v=0)\/s.1=(Gj y).length+1/\s.2.1=0/\∀ j v,i+(Gj y).length+1<=j->s.2.2[j]? = some v->v=0
theorem Qth {x y:Nat} (hx:sz x<=200000000) (hy:sz y<=200000000):Uj 145 [.one (nd x),.one (nd y)] [.one (nd (x*y))]:=by
 have hxl:=Qa (Ml x) hx;have hyl:=Qa (Ml y) hy;have lx:=UN x;have ly:=UN y;show Uj 145 [.one (.row (Bt (Gj x))),.one (.row (Bt (Gj y)))] _;refine Fw func145 rfl ?_;refine Ue [.r 14 (eI (b:=(((Gj x).length+(Gj y).length:Nat):Int)) (by rw [lx,ly]; omega)),.i ((Gj x).length+(Gj y).length),.i ((Gj x).length+(Gj y).length)] rfl ?_;rw [show List.replicate ((Gj x).length+(Gj y).length) [LV.int .i64 0]=Bt (List.replicate ((Gj x).length+(Gj y).length) 0) from by simp [Bt]];refine Ui (S:=Nat×Uo) 1 (λL1 s=>(18,.v (.oi (s.1:Int)))::L1) (λs=>[.row false 3 1 (Bt s.2)]) (λs=>(Gj x).length-s.1) (λs=>s.1<=(Gj x).length/\s.2.length=(Gj x).length+(Gj y).length/\Dg s.2/\Tj s.2=Tj ((Gj x).take s.1)*y/\∀ j v,s.1+(Gj y).length<=j->s.2[j]? = some v->v=0) (0,List.replicate ((Gj x).length+(Gj y).length) 0) ⟨Qh _,Jd ..,Dg.zeros _,by rw [CB (λx hx=>Zw hx)]; simp [Tj],λj v _ hv=>Zw (Qc hv)⟩ rfl rfl λs hs=>?_
 obtain ⟨i,o⟩:=s;obtain ⟨hp0,hp1,hp2,hp3,hp4⟩:=hs;dsimp only at hp0 hp1 hp2 hp3 hp4 ⊢;by_cases h1:i<(Gj x).length
 ·obtain ⟨d,hd⟩:=gxE (l:=(Gj x)) (i:=i) h1;have hd9:=Cg x d (Qc hd);refine Ud [.T] rfl ?_;refine Ui (S:=Nat×Nat×Uo) 1 (λL1 s=>(8,.v (.oi (s.1:Int)))::(7,.v (.oi (s.2.1:Int)))::L1) (λs=>[.row false 3 1 (Bt s.2.2)]) (λs=>((Gj y).length-s.1)*2+min s.2.1 1) (MulI x y i d) (0,0,o) ⟨hp1,hp2,by dsimp only; rw [hp3]; simp [Tj],by show 0<10000; decide,.inl ⟨Nat.zero_le _,hp4⟩⟩ rfl rfl λs hs=>?_
  obtain ⟨k,c,o2⟩:=s;obtain ⟨hq0,hq1,hq2,hq3,hq4⟩:=hs;dsimp only at hq0 hq1 hq2 hq3 hq4 ⊢;have hol:(Bt o2).length=(Gj x).length+(Gj y).length:=by rw [T0,hq0]
  by_cases h2:k<(Gj y).length
  ·obtain ⟨e,he⟩:=gxE (l:=(Gj y)) (i:=k) h2;have he9:=Cg y e (Qc he);have hde:d*e<=9999*9999:=Zc (by omega) (by omega);obtain ⟨v,hoi⟩:=gxE (l:=o2) (i:=i+k) (by omega);have hv9:=hq1 v (Qc hoi);refine go tt [.g 25 true Ul,.t rfl,.r 34 (eI (b:=((i+k:Nat):Int)) (by omega)),.i (i+k),.x (Gz hoi),.r 38 (eI (b:=((v+c:Nat):Int)) (by omega)),.T,.x (Gz hd),.x (Gz he),.r 52 (eI (b:=((d*e:Nat):Int)) (by simp)),.r 53 (eI (b:=((v+c+d*e:Nat):Int)) (by omega)),.r 57 (eI (b:=((i+k:Nat):Int)) (by omega)),.r 59 (eI (b:=(((v+c+d*e) % 10000:Nat):Int)) (by rfl)),.i (i+k),.r 62 (eI (b:=(((v+c+d*e) / 10000:Nat):Int)) (by rfl))] rfl (by simp [U4,hol,tdn,WB,-Int.natCast_add,-Int.natCast_mul]; omega) ?_;exact rd (k+1,(v+c+d*e) / 10000,o2.set (i+k) ((v+c+d*e) % 10000)) (by dsimp only; omega) ⟨by dsimp only; rw [List.length_set]; exact hq0,hq1.set (Nat.mod_lt _ (by decide)),by
    dsimp only;rw [<-Nat.add_assoc i k 1,Nat.pow_succ]; have:=CP hq2 (eO hoi (u:=((v+c)+(d*e)) % 10000)) (s:=d*e) (q:=((v+c)+(d*e)) / 10000) (by rw [Qx0]); rw [this,Tw he,Nat.pow_add]; grind,by dsimp only; omega,.inl ⟨by dsimp only; omega,λj w hj hw=>(by
     dsimp only at hw;rcases hq4 with ⟨_,h⟩ | ⟨_,_,h⟩ <;> (rw [Yg (by omega)] at hw; exact h j w (by omega) hw))⟩⟩ (by rw [QT]; rfl)
  ·by_cases h3:0<c
   ·have hk:k=(Gj y).length:=by omega
    have hz:∀ j v,i+(Gj y).length<=j->o2[j]? = some v->v=0:=by
     rcases hq4 with ⟨_,h⟩ | ⟨_,h,_⟩
     ·exact h
     ·omega
    obtain ⟨v,hoi⟩:=gxE (l:=o2) (i:=i+k) (by omega);have hv0:v=0:=hz (i+k) v (by omega) hoi;have hv9:=hq1 v (Qc hoi);refine go tt [.g 25 false Uk,.T,.r 34 (eI (b:=((i+k:Nat):Int)) (by omega)),.i (i+k),.x (Gz hoi),.r 38 (eI (b:=((v+c:Nat):Int)) (by omega)),.F,.r 57 (eI (b:=((i+k:Nat):Int)) (by omega)),.r 59 (eI (b:=(((v+c) % 10000:Nat):Int)) (by rfl)),.i (i+k),.r 62 (eI (b:=(((v+c) / 10000:Nat):Int)) (by rfl))] rfl (by simp [U4,hol,tdn,WB,-Int.natCast_add]; omega) ?_;exact rd (k+1,(v+c) / 10000,o2.set (i+k) ((v+c) % 10000)) (by dsimp only; omega) ⟨by dsimp only; rw [List.length_set]; exact hq0,hq1.set (Nat.mod_lt _ (by decide)),by
     dsimp only;rw [<-Nat.add_assoc i k 1,Nat.pow_succ]; have:=CP hq2 (eO hoi (u:=(v+c) % 10000)) (s:=0) (q:=(v+c) / 10000) (by rw [Qx0]; rfl); rw [this,Nat.mul_zero,Nat.add_zero,I6 (by omega)],by dsimp only; omega,.inr ⟨by dsimp only; omega,by dsimp only; omega,λj w hj hw=>(by
      dsimp only at hw;rw [Yg (by omega)] at hw; exact hz j w (by omega) hw)⟩⟩ (by rw [QT]; rfl)
   ·refine Ue [.g 25 false Uk,.F] rfl ?_;exact rd (i+1,o2) (by dsimp only; omega) ⟨by dsimp only; omega,hq0,hq1,by
     dsimp only;rw [Tw hd,X3]; have h:=hq2; rw [show c=0 by omega,Qo (l:=Gj y) (i:=k) (by omega),Rf] at h; rw [Yl,Xl] at h; exact h,by
     dsimp only;rcases hq4 with ⟨_,h⟩ | ⟨_,_,h⟩
     ·exact λj w hj hw=>h j w (by omega) hw
     ·exact λj w hj hw=>h j w (by omega) hw⟩ rfl
 ·have hv:Tj o=x*y:=by rw [hp3,Qo (by omega),Rf]
  have cc:=HM hp2;rw [hv] at cc;exact Uf [.F,.k cc] rfl
theorem eG {x y:Nat}:ZH x y<=0↔x<=y:=by
 unfold ZH;constructor
 ·intro h; split at h
  ·omega
  ·split at h <;> omega
 ·intro h; split
  ·omega
  ·split <;> omega
theorem Qby {R y lo:Nat} (h1:y*lo<=R) (h2:R<y*(lo+1)):R / y=lo/\R % y=R-y*lo:=by
 have hy:0<y:=by
  rcases Q3 y with h | h
  ·subst h; simp at h2
  ·exact h
 have e:R / y=lo:=Nat.div_eq_of_lt_le (by rw [Zq]; exact h1) (by rw [Zq]; exact h2);refine ⟨e,?_⟩;have:=Xe R y;rw [e] at this; omega
theorem Qk1 {R y:Nat} (h:R<y*10000):sz R<=sz y+14:=by
 refine Nm.2 (Z6 h ?_);have:=FG y;rw [Xf];have e:(2:Nat)^14=16384:=by decide
 rw [e]; exact Zc (by omega) (by decide)
theorem Qdb (y:Nat):sz (y*10000)<=sz y+14:=by
 refine Nm.2 ?_;have:=FG y;rw [Xf];have e:(2:Nat)^14=16384:=by decide
 rw [e]; omega
theorem pC {x y:Nat} (hx:sz x<=90000000) (hy:sz y<=90000000) (hy0:0<y):Uj 210 [.one (nd x),.one (nd y)] [.one (nd (x / y)),.one (nd (x % y))]:=by
 have hxl:=Qa (Ml x) hx;have hyl:=Qa (Ml y) hy;have lx:=UN x;show Uj 210 [.one (.row (Bt (Gj x))),.one (nd y)] _;refine Fw func210 rfl ?_;refine Ue [.i (Bt (Gj x)).length,.i (Bt (Gj x)).length,.z 7,.r 17 (eI (b:=((Gj x).length:Int)-1) (by rw [lx]))] rfl ?_;rw [lx,show List.replicate (Gj x).length [LV.int .i64 0]=Bt (List.replicate (Gj x).length 0) from by simp [Bt]];refine Ui (S:=Nat×Uo×Uo) 1 (λL1 s=>(8,.v (.oi ((s.1:Int)-1)))::(7,.v (.one (.row (Bt s.2.1))))::L1) (λs=>[.row false 3 1 (Bt s.2.2)]) (λs=>s.1) (λs=>s.1<=(Gj x).length/\s.2.2.length=(Gj x).length/\Dg s.2.2/\Tj (s.2.2.drop s.1)=Tj ((Gj x).drop s.1) / y/\s.2.1=Gj (Tj ((Gj x).drop s.1) % y)) ((Gj x).length,[],List.replicate (Gj x).length 0) ⟨Nat.le_refl _,List.length_replicate ..,Dg.zeros _,by dsimp only; rw [List.drop_eq_nil_of_le (by simp),List.drop_eq_nil_of_le (Nat.le_refl _)]; simp [Tj],by dsimp only; rw [List.drop_eq_nil_of_le (Nat.le_refl _)]; simp [Tj,Hx]⟩ rfl rfl λs hs=>?_
 obtain ⟨j,R,o⟩:=s;obtain ⟨hp0,hp1,hp2,hp3,hp4⟩:=hs;dsimp only at hp0 hp1 hp2 hp3 hp4 ⊢;cases j with
 |
  zero =>
  have cc:=HM hp2;rw [Xx,Xx,Rf] at hp3;rw [Xx,Rf] at hp4;rw [hp3] at cc;exact Uf [.f (by simp),.k cc] rfl (by rw [hp4]; rfl) trivial
 |
  succ j =>
  obtain ⟨d,hd⟩:=gxE (l:=(Gj x)) (i:=j) (by omega);have hd9:=Cg x d (Qc hd);have hdd:=XX hd;obtain ⟨hq1,hq2,hq3⟩:=uG (V:=Tj ((Gj x).drop (j+1))) (kd:=y) (d:=d) hy0;rw [<-hdd] at hq1 hq2;have hq3:=hq3 hd9;obtain ⟨rr,hrr0⟩:=nmE (Tj ((Gj x).drop (j+1)) % y);have hrr:rr<y:=by rw [hrr0]; exact Z4 _ hy0
  rw [<-hrr0] at hp4 hq1 hq2 hq3;subst hp4;have hrl:(Gj rr).length<=(Gj y).length:=ZO (by omega);have hR:rr*10000+d<y*10000:=by omega
  have hRs:=Qk1 hR;have hdv:Dg (d::Gj rr):=λz hz=>by
   rcases Qm.1 hz with rfl | hz
   ·exact hd9
   ·exact Cg rr z hz
  have cc:=HM hdv;rw [show Tj (d::Gj rr)=rr*10000+d from by simp only [Tj]; rw [Rf]; omega] at cc;have hol:(Bt o).length=(Gj x).length:=by rw [T0,hp1]
  have hrrl:=T0 (Gj rr);have ej:((j+1:Nat):Int)-1=(j:Int):=by omega
  rw [ej];refine go tt [.T,.x (Gz hd),.lo,.s (sz:=1) (Qub (Gj rr)),.k cc] rfl (by simp [U4,UN]; omega) ?_;refine Ui (S:=Nat×Nat) 2 (λL1 s=>(9,.v (.oi (s.1:Int)))::(10,.v (.oi (s.2:Int)))::L1) (λ_=>[.row false 3 1 (Bt o),.gone]) (λs=>s.2-s.1) (λs=>s.1<=s.2/\s.2<=9999/\y*s.1<=rr*10000+d/\rr*10000+d<y*(s.2+1)) (0,9999) ⟨by decide,by decide,by dsimp only; omega,by dsimp only; omega⟩ rfl rfl λs hs=>?_
  obtain ⟨lo,hi⟩:=s;obtain ⟨hb0,hb1,hb2,hb3⟩:=hs;dsimp only at hb0 hb1 hb2 hb3 ⊢;by_cases h2:lo<hi
  ·obtain ⟨m,hm⟩:=nmE ((lo+hi+1) / 2);have hym:y*m<=y*10000:=Zu y (by omega);have c1:=UH (x:=y) (mu:=m) (c0:=0) (by omega) (by omega) (by omega);have c2:=pM (x:=y*m+0) (y:=rr*10000+d) (Qa (Ri (show _<=y*10000 by omega)) (Qa (Qdb y) (by omega))) (by omega);by_cases h3:y*m+0<=rr*10000+d
   ·refine go tt [.T,.r 35 (eI (b:=((lo+hi:Nat):Int)) (by omega)),.r 36 (eI (b:=((lo+hi+1:Nat):Int)) (by omega)),.r 37 (eI (b:=(m:Int)) (by rw [hm]; rfl)),.k c1,.k c2,.t (decide_eq_true (eG.2 h3))] rfl (by simp [U4,WB,-Int.natCast_add]; omega) ?_;exact rd (m,hi) (by dsimp only; omega) ⟨by dsimp only; omega,hb1,by dsimp only; omega,hb3⟩ rfl
   ·refine go tt [.T,.r 35 (eI (b:=((lo+hi:Nat):Int)) (by omega)),.r 36 (eI (b:=((lo+hi+1:Nat):Int)) (by omega)),.r 37 (eI (b:=(m:Int)) (by rw [hm]; rfl)),.k c1,.k c2,.f (decide_eq_false λh=>h3 (eG.1 h)),.r 46 (eI (b:=((m-1:Nat):Int)) (by omega))] rfl (by simp [U4,WB,-Int.natCast_add]; omega) ?_;exact rd (lo,m-1) (by dsimp only; omega) ⟨by dsimp only; omega,by dsimp only; omega,hb2,by dsimp only; rw [show m-1+1=m by omega]; omega⟩ rfl
  ·have hlh:lo=hi:=by omega
   have hfd:=Qby hb2 (by rw [hlh]; exact hb3);have c1:=UH (x:=y) (mu:=lo) (c0:=0) (by omega) (by omega) (by omega);have c2:=pA (x:=rr*10000+d) (y:=y*lo+0) (by omega) (Qa (Ri (show _<=rr*10000+d by omega)) (by omega)) (by omega);rw [show rr*10000+d-(y*lo+0)=Tj ((Gj x).drop j) % y from by rw [hq2,hfd.2]; omega] at c2;refine go tt [.F,.i j,.k c1,.k c2] rfl (by simp [U4,hol,tdn,WB,-Int.natCast_add]; omega) ?_;exact rd (j,Gj (Tj ((Gj x).drop j) % y),o.set j lo) (by dsimp only; omega) ⟨by dsimp only; omega,by dsimp only; rw [List.length_set]; exact hp1,hp2.set (by omega),by
    dsimp only;rw [HE (by omega)]; simp only [Tj]; rw [hp3,hq1,hfd.1],rfl⟩ (by rw [QT]; rfl)
theorem Qqh {a b:Int} (h:(decide (a<0) == decide (b<0))=true):Fb (decide (a<0)) (a.natAbs+b.natAbs)=a+b:=by
 unfold Fb;by_cases h1:a<0 <;> by_cases h2:b<0 <;> simp [h1,h2] at h ⊢ <;> omega
theorem Qqk {a b:Int} (h:¬(decide (a<0) == decide (b<0))=true) (hl:b.natAbs<=a.natAbs):Fb (decide (a<0)) (a.natAbs-b.natAbs)=a+b:=by
 unfold Fb;by_cases h1:a<0 <;> by_cases h2:b<0 <;> simp [h1,h2] at h ⊢ <;> omega
theorem Qkj {a b:Int} (h:¬(decide (a<0) == decide (b<0))=true) (hl:¬b.natAbs<=a.natAbs):Fb (decide (b<0)) (b.natAbs-a.natAbs)=a+b:=by
 unfold Fb;by_cases h1:a<0 <;> by_cases h2:b<0 <;> simp [h1,h2] at h ⊢ <;> omega
theorem YO (a:Int):(∃ m:Nat,a=(m:Int))\/∃ m:Nat,a=-(m:Int)/\0<m:=by
 rcases Kd a 0 with h | h
 ·exact .inr ⟨a.natAbs,by omega,by omega⟩
 ·exact .inl ⟨a.natAbs,by omega⟩
theorem Qqj (a b:Int):Fb (!(decide (a<0) == decide (b<0))) (a.natAbs*b.natAbs)=a*b:=by
 rcases YO a with ⟨m,rfl⟩ | ⟨m,rfl,hm⟩ <;> rcases YO b with ⟨n,rfl⟩ | ⟨n,rfl,hn⟩
 ·simp [Fb,show ¬((m:Int)<0) by omega,show ¬((n:Int)<0) by omega]
 ·simp [Fb,show ¬((m:Int)<0) by omega,show (-(n:Int)<0) by omega,hn,V7]
 ·simp [Fb,show (-(m:Int)<0) by omega,show ¬((n:Int)<0) by omega,hm,Ko]
 ·simp [Fb,show (-(m:Int)<0) by omega,show (-(n:Int)<0) by omega,hm,hn,W8]
theorem Qqi {a b:Int} (h:a % b=0):Fb (!(decide (a<0) == decide (b<0))) (a.natAbs / b.natAbs)=a / b:=by
 by_cases hb:b=0
 ·subst hb; simp [Fb]
 obtain ⟨c,rfl⟩:=Vf h;rw [Jc _ hb,J9,Nat.mul_div_cancel_left _ (by omega)];rcases YO b with ⟨n,rfl⟩ | ⟨n,rfl,hn⟩ <;> rcases YO c with ⟨m,rfl⟩ | ⟨m,rfl,hm⟩
 ·have:¬((n:Int)*(m:Int)<0):=by rw [<-Vi]; omega
  simp [Fb,this,show ¬((n:Int)<0) by omega]
 ·have h1:0<n*m:=J5 (by omega) hm;have:((n:Int)*-(m:Int)<0):=by rw [V7,<-Vi]; omega
  simp only [this,show ¬((n:Int)<0) by omega];simp [Fb]
 ·by_cases h0:m=0
  ·subst h0; simp [Fb]
  ·have h1:0<n*m:=J5 hn (by omega);have:(-(n:Int)*(m:Int)<0):=by rw [Ko,<-Vi]; omega
   simp only [this,show (-(n:Int)<0) by omega];simp [Fb]
 ·have:¬(-(n:Int)*-(m:Int)<0):=by rw [W8,<-Vi]; omega
  simp only [this,show (-(n:Int)<0) by omega];simp [Fb]
theorem eW {x y:Nat}:0<=ZH x y↔y<=x:=by
 unfold ZH;constructor
 ·intro h; split at h
  ·omega
  ·omega
 ·intro h; split
  ·omega
  ·split <;> omega
theorem CW {x e:Nat} (h:(Gj x).length=1) (he:(Gj x)[0]? = some e):x=e:=by
 rcases hd:Gj x with _ | ⟨u,l⟩
 ·rw [hd] at h; cases h
 ·rcases l with _ | ⟨w,l⟩
  ·rw [hd] at he; simp at he;have:=Rf x;rw [hd] at this; simp [Tj] at this; omega
  ·rw [hd] at h; simp at h
theorem mO {a b:Int} (hb:0<b):ri (a / ((Int.gcd a b:Nat):Int))++ri (b / ((Int.gcd a b:Nat):Int))=fr (Rat.divInt a b):=by
 obtain ⟨h1,h2⟩:=iZ (n:=a) hb;rw [D9,Int.gcd_comm] at h1 h2;rw [h1,h2]
theorem nQ (a:Int):ri a++ri 1=fr (Rat.divInt a 1):=by
 have h:=mO (a:=a) (b:=1) (by decide);rw [show ((Int.gcd a 1:Nat):Int)=1 by simp] at h;simpa using h
theorem OI {a b:Int} (hb:b≠0) (ha2:Fe a<=90000000) (hb2:Fe b<=90000000):Fe ((Int.gcd a b:Nat):Int)<=90000000/\((Int.gcd a b:Nat):Int)≠0/\a % ((Int.gcd a b:Nat):Int)=0/\b % ((Int.gcd a b:Nat):Int)=0:=by
 have h1:=aP (n:=a) hb hb2;have h2:=fX (n:=a) hb;have h3:=DT a b;have h4:=DN a b;rw [D9,Int.gcd_comm] at h1 h2 h3 h4;exact ⟨h1,by omega,h3,h4⟩
theorem zY {a b:Int} (h:b<0):Gf a b=Rat.divInt (-a) (-b):=by
 unfold Gf; rw [if_neg (by omega)];exact (Rat.neg_divInt_neg a b).symm
theorem zV {a b:Int} (h:0<b):Gf a b=Rat.divInt a b:=by
 unfold Gf; rw [if_neg (by omega)]
theorem IF (a b:Rat):Gf (a.num*(b.den:Int)+b.num*(a.den:Int)) ((a.den:Int)*(b.den:Int))=a+b:=by
 unfold Gf;rw [if_neg (Jf (Di a) (Di b)),<-Rat.divInt_add_divInt _ _ (Di a) (Di b),Z5,Z5]
theorem qH (a b:Rat):Gf (a.num*b.num) ((a.den:Int)*(b.den:Int))=a*b:=by
 unfold Gf;rw [if_neg (Jf (Di a) (Di b)),<-Rat.divInt_mul_divInt,Z5,Z5]
theorem zJ {a b:Rat} (h:b≠0):Gf (a.num*(b.den:Int)) ((a.den:Int)*b.num)=a / b:=by
 have hn:b.num≠0:=λe=>h (Rat.num_eq_zero.1 e)
 unfold Gf;rw [if_neg (Jf (Di a) hn),<-Rat.divInt_mul_divInt,Z5,J6];congr 1
 conv=>rhs; rw [<-Z5 b,Rat.inv_divInt]
theorem Qvu {s:Nat} {a b:Rat} (ha:Qs s a) (hb:Qs s b):Qs (2*s+1) (a+b):=by
 rw [<-IF];unfold Gf;rw [if_neg (Jf (Di a) (Di b))];refine Qs.divInt (Qa (QC _ _) ?_) (Qa (Gb _ _) (by have:=ha.2; have:=hb.2; omega)) (by omega);have h1:=Gb a.num (b.den:Int);have h2:=Gb b.num (a.den:Int);have:=ha.1; have:=ha.2; have:=hb.1; have:=hb.2;omega
theorem mQ {a b:Int} (ha:Fe a<=200000000) (hb:Fe b<=200000000):Uj 115 [.agg (ri a),.agg (ri b)] [.agg (ri (a+b))]:=by
 by_cases hs:(decide (a<0) == decide (b<0))=true
 ·have cm:=Nt (decide (a<0)) (a.natAbs+b.natAbs);rw [Qqh hs] at cm;exact Ug func115 rfl [.t hs,.k (Qs6 ha hb),.k cm] rfl
 ·have hs':(decide (a<0) == decide (b<0))=false:=by simpa using hs
  by_cases hl:b.natAbs<=a.natAbs
  ·have cm:=Nt (decide (a<0)) (a.natAbs-b.natAbs);rw [Qqk hs hl] at cm;exact Ug func115 rfl [.f hs',.k (pM ha hb),.t (decide_eq_true (eW.2 hl)),.k (pA ha hb hl),.k cm] rfl
  ·have cm:=Nt (decide (b<0)) (b.natAbs-a.natAbs);rw [Qkj hs hl] at cm;exact Ug func115 rfl [.f hs',.k (pM ha hb),.f (decide_eq_false λh=>hl (eW.1 h)),.k (pA hb ha (by omega)),.k cm] rfl
theorem Qfn {a b:Int} (ha:Fe a<=200000000) (hb:Fe b<=200000000):Uj 144 [.agg (ri a),.agg (ri b)] [.agg (ri (a-b))]:=by
 have ca:=mQ (a:=a) (b:=-b) ha (by rw [Hn]; exact hb);rw [show a+-b=a-b from by omega] at ca;exact Ug func144 rfl [.k (QW (z:=b)),.k ca] rfl
theorem Ad {a b:Int} (ha:Fe a<=200000000) (hb:Fe b<=200000000):Uj 73 [.agg (ri a),.agg (ri b)] [.agg (ri (a*b))]:=by
 have cm:=Nt (!(decide (a<0) == decide (b<0))) (a.natAbs*b.natAbs);rw [Qqj] at cm;exact Ug func73 rfl [.k (Qth ha hb),.k cm] rfl
theorem BB {a b:Int} (ha:Fe a<=90000000) (hb:Fe b<=90000000) (h0:b≠0) (hd:a % b=0):Uj 139 [.agg (ri a),.agg (ri b)] [.agg (ri (a / b))]:=by
 have cm:=Nt (!(decide (a<0) == decide (b<0))) (a.natAbs / b.natAbs);rw [Qqi hd] at cm;exact Ug func139 rfl [.k (pC ha hb (by omega)),.k cm] rfl
theorem Qvy (x:Nat):ri ((x:Nat):Int)=[nd x,.bool false]:=by
 unfold ri sg;rw [Xh,decide_eq_false (by omega)]
theorem xO {a b:Int} (ha:Fe a<=90000000) (hb:Fe b<=90000000):Uj 138 [.agg (ri a),.agg (ri b)] [.agg (ri ((Int.gcd a b:Nat):Int))]:=by
 rw [Qvy];refine Fw func138 rfl ?_;refine Ud [] rfl ?_;refine Ui (S:=Nat×Nat) 3 (λL1 s=>(5,.v (.one (nd s.1)))::(6,.v (.one (nd s.2)))::L1) (λ_=>[.blk 49 (ri a),.blk 49 (ri b),.blk 49 [.nils,.bool false]]) (λs=>s.2) (λs=>Nat.gcd s.1 s.2=Int.gcd a b/\sz s.1<=90000000/\sz s.2<=90000000) (a.natAbs,b.natAbs) ⟨rfl,ha,hb⟩ rfl rfl λs hs=>?_
 obtain ⟨x,y⟩:=s;obtain ⟨hp0,hp1,hp2⟩:=hs;dsimp only at hp0 hp1 hp2 ⊢;have hyn:=MR (x:=y);have hyl:=UN y;by_cases h1:y=0
 ·have e:Int.gcd a b=x:=by rw [<-hp0,h1,Nat.gcd_zero_right]
  rw [e];exact Uf [.f (by simp only [T0]; exact decide_eq_false (by omega))] rfl
 ·have hlt:=Z4 x (show 0<y by omega);refine Ud [.t (by simp only [T0]; exact decide_eq_true (by omega)),.k (pC hp1 hp2 (by omega))] rfl ?_;exact rd (y,x % y) (by dsimp only; omega) ⟨by dsimp only; rw [<-hp0,Nat.gcd_comm x y,Nat.gcd_rec y x,Nat.gcd_comm],hp2,Nat.le_trans (Ri (by dsimp only; omega)) hp2⟩ rfl
theorem YJ {a b:Int} (ha:Fe a<=90000000) (hb:Fe b<=90000000):Uj 68 [.agg (ri a),.agg (ri b)] [.agg (fr (Gf a b))]:=by
 rcases Km b 0 with hs | hs | hs
 ·skip
  by_cases h1:-b=1
  ·have h0:(Bt (Gj (-b).natAbs))[0]? = some [LV.int .i64 1]:=by rw [h1,show (1:Int).natAbs=1 from rfl,If]; rfl
   have hl1:decide (((Bt (Gj (-b).natAbs)).length:Int)=1)=true:=by rw [h1,show (1:Int).natAbs=1 from rfl,If]; rfl
   have e:fr (Gf a b)=ri (-a)++ri (-b):=by rw [zY hs,h1]; exact (nQ _).symm
   rw [e];exact Ug func68 rfl [.k (Dt (z:=b)),.F,.t (decide_eq_true hs),.k (QW (z:=a)),.k (QW (z:=b)),.g 19 true hl1,.x h0,.t rfl] rfl
  ·have hgf:=OI (a:=-a) (b:=-b) (by omega) (by first | exact ha | (rw [Hn]; exact ha)) (by first | exact hb | (rw [Hn]; exact hb));have cg:=xO (a:=-a) (b:=-b) (by first | exact ha | (rw [Hn]; exact ha)) (by first | exact hb | (rw [Hn]; exact hb));have q1:=BB (a:=-a) (b:=((Int.gcd (-a) (-b):Nat):Int)) (by first | exact ha | (rw [Hn]; exact ha)) hgf.1 hgf.2.1 hgf.2.2.1;have q2:=BB (a:=-b) (b:=((Int.gcd (-a) (-b):Nat):Int)) (by first | exact hb | (rw [Hn]; exact hb)) hgf.1 hgf.2.1 hgf.2.2.2;have e:fr (Gf a b)=ri ((-a) / ((Int.gcd (-a) (-b):Nat):Int))++ri ((-b) / ((Int.gcd (-a) (-b):Nat):Int)):=by rw [zY hs]; exact (mO (by omega)).symm
   rw [e];have hl:=UN (-b).natAbs;by_cases hl1:(Gj (-b).natAbs).length=1
   ·obtain ⟨u,hu⟩:=gxE (l:=(Gj (-b).natAbs)) (i:=0) (by omega);have hue:=CW hl1 hu;exact Ug func68 rfl [.k (Dt (z:=b)),.F,.t (decide_eq_true hs),.k (QW (z:=a)),.k (QW (z:=b)),.g 19 true (by simp only [T0]; exact decide_eq_true (by omega)),.x (Gz hu),.F,.k cg,.k q1,.k q2] rfl
   ·exact Ug func68 rfl [.k (Dt (z:=b)),.F,.t (decide_eq_true hs),.k (QW (z:=a)),.k (QW (z:=b)),.g 19 false (by simp only [T0]; exact decide_eq_false (by omega)),.f rfl,.k cg,.k q1,.k q2] rfl
 ·subst hs;have h0:(Bt (Gj (1:Int).natAbs))[0]? = some [LV.int .i64 1]:=by rw [show (1:Int).natAbs=1 from rfl,If]; rfl
  have h1:decide (((Bt (Gj (1:Int).natAbs)).length:Int)=1)=true:=by rw [show (1:Int).natAbs=1 from rfl,If]; rfl
  have e:fr (Gf a 0)=ri a++ri 1:=(nQ a).symm;rw [e];exact Ug func68 rfl [.k (Dt (z:=0)),.t rfl,.k (ZL (n:=1) (by decide)),.f rfl,.g 19 true h1,.x h0,.t rfl] rfl
 ·skip
  by_cases h1:b=1
  ·have h0:(Bt (Gj (b).natAbs))[0]? = some [LV.int .i64 1]:=by rw [h1,show (1:Int).natAbs=1 from rfl,If]; rfl
   have hl1:decide (((Bt (Gj (b).natAbs)).length:Int)=1)=true:=by rw [h1,show (1:Int).natAbs=1 from rfl,If]; rfl
   have e:fr (Gf a b)=ri (a)++ri (b):=by rw [zV hs,h1]; exact (nQ _).symm
   rw [e];exact Ug func68 rfl [.k (Dt (z:=b)),.F,.F,.g 19 true hl1,.x h0,.t rfl] rfl
  ·have hgf:=OI (a:=a) (b:=b) (by omega) (by first | exact ha | (rw [Hn]; exact ha)) (by first | exact hb | (rw [Hn]; exact hb));have cg:=xO (a:=a) (b:=b) (by first | exact ha | (rw [Hn]; exact ha)) (by first | exact hb | (rw [Hn]; exact hb));have q1:=BB (a:=a) (b:=((Int.gcd (a) (b):Nat):Int)) (by first | exact ha | (rw [Hn]; exact ha)) hgf.1 hgf.2.1 hgf.2.2.1;have q2:=BB (a:=b) (b:=((Int.gcd (a) (b):Nat):Int)) (by first | exact hb | (rw [Hn]; exact hb)) hgf.1 hgf.2.1 hgf.2.2.2;have e:fr (Gf a b)=ri ((a) / ((Int.gcd (a) (b):Nat):Int))++ri ((b) / ((Int.gcd (a) (b):Nat):Int)):=by rw [zV hs]; exact (mO (by omega)).symm
   rw [e];have hl:=UN (b).natAbs;by_cases hl1:(Gj (b).natAbs).length=1
   ·obtain ⟨u,hu⟩:=gxE (l:=(Gj (b).natAbs)) (i:=0) (by omega);have hue:=CW hl1 hu;exact Ug func68 rfl [.k (Dt (z:=b)),.F,.F,.g 19 true (by simp only [T0]; exact decide_eq_true (by omega)),.x (Gz hu),.F,.k cg,.k q1,.k q2] rfl
   ·exact Ug func68 rfl [.k (Dt (z:=b)),.F,.F,.g 19 false (by simp only [T0]; exact decide_eq_false (by omega)),.f rfl,.k cg,.k q1,.k q2] rfl
theorem Qrm {n d:Int} (hn:-1000000000<=n/\n<=1000000000) (hd:-1000000000<=d/\d<=1000000000):Uj 15 [.oi n,.oi d] [.agg (fr (Gf n d))]:=by
 have b1:Fe n<=90000000:=Qa (Sf.2 (show n.natAbs<2^40 by omega)) (by decide);have b2:Fe d<=90000000:=Qa (Sf.2 (show d.natAbs<2^40 by omega)) (by decide);exact Ug func15 rfl [.k (ZL (by omega)),.k (ZL (by omega)),.k (YJ b1 b2)] rfl
theorem Qtj {a:Rat}:Uj 87 [.agg (fr a)] [.agg (fr (-a))]:=by
 have e:fr (-a)=ri (-a.num)++ri (a.den:Int):=rfl;rw [e];exact Ug func87 rfl [.k (QW (z:=a.num))] rfl
theorem pS {a b:Rat} (ha:Qs 20000000 a) (hb:Qs 20000000 b):Uj 50 [.agg (fr a),.agg (fr b)] [.agg (fr (a+b))]:=by
 have k1:=Gb a.num (b.den:Int);have k2:=Gb b.num (a.den:Int);have k3:=Gb (a.den:Int) (b.den:Int);have k4:=QC (a.num*(b.den:Int)) (b.num*(a.den:Int));have h1:=ha.1; have h2:=ha.2; have h3:=hb.1; have h4:=hb.2;have cm:=YJ (a:=a.num*(b.den:Int)+b.num*(a.den:Int)) (b:=(a.den:Int)*(b.den:Int)) (by omega) (by omega);rw [IF] at cm;exact Ug func50 rfl [.k (Ad (a:=a.num) (b:=(b.den:Int)) (by omega) (by omega)),.k (Ad (a:=b.num) (b:=(a.den:Int)) (by omega) (by omega)),.k (mQ (by omega) (by omega)),.k (Ad (a:=(a.den:Int)) (b:=(b.den:Int)) (by omega) (by omega)),.k cm] rfl
theorem Qeq {a b:Rat} (ha:Qs 40000000 a) (hb:Qs 40000000 b):Uj 120 [.agg (fr a),.agg (fr b)] [.agg (fr (a*b))]:=by
 have k1:=Gb a.num b.num;have k3:=Gb (a.den:Int) (b.den:Int);have h1:=ha.1; have h2:=ha.2; have h3:=hb.1; have h4:=hb.2;have cm:=YJ (a:=a.num*b.num) (b:=(a.den:Int)*(b.den:Int)) (by omega) (by omega);rw [qH] at cm;exact Ug func120 rfl [.k (Ad (a:=a.num) (b:=b.num) (by omega) (by omega)),.k (Ad (a:=(a.den:Int)) (b:=(b.den:Int)) (by omega) (by omega)),.k cm] rfl
theorem pD {a b:Rat} (ha:Qs 40000000 a) (hb:Qs 40000000 b) (h0:b≠0):Uj 247 [.agg (fr a),.agg (fr b)] [.agg (fr (a / b))]:=by
 have k1:=Gb a.num (b.den:Int);have k3:=Gb (a.den:Int) b.num;have h1:=ha.1; have h2:=ha.2; have h3:=hb.1; have h4:=hb.2;have cm:=YJ (a:=a.num*(b.den:Int)) (b:=(a.den:Int)*b.num) (by omega) (by omega);rw [zJ h0] at cm;exact Ug func247 rfl [.k (Ad (a:=a.num) (b:=(b.den:Int)) (by omega) (by omega)),.k (Ad (a:=(a.den:Int)) (b:=b.num) (by omega) (by omega)),.k cm] rfl
end Orr
namespace Orr
def Dc:Up->Up
 | []=>[]
 |
  x::l=>match Dc l with
  | []=>if x=0 then [] else [x]
  | y::k=>x::y::k
theorem JH:∀ {l:Up},(∀ x∈l,x=0)->Dc l=[]
 | [],_=>rfl
 |
  x::l,h=>by
  have ih:=JH (l:=l) (λy hy=>h y (Qg _ hy));simp [Dc,ih,h x (Qx ..)]
theorem EN:∀ {l:Up} {m:Nat} {y:Rat},(∀ j x,m<j->l[j]? = some x->x=0)->l[m]? = some y->y≠0->Dc l=l.take (m+1)
 | [],m,y,_,h,_=>by simp at h
 |
  x::l,0,y,h1,h2,h3=>by
  have h0:Dc l=[]:=JH λz hz=>by
   obtain ⟨j,hj⟩:=Zk.1 hz;exact h1 (j+1) z (by omega) (by simpa using hj)
  simp at h2;subst h2;simp [Dc,h0,h3]
 |
  x::l,m+1,y,h1,h2,h3=>by
  have ih:=EN (l:=l) (m:=m) (y:=y) (λj z hj hz=>h1 (j+1) z (by omega) (by simpa using hz)) (by simpa using h2) h3;cases hl:l with
  | nil=>subst hl; simp at h2
  |
   cons u k =>
   subst hl;rw [Ve] at ih;simp only [Dc] at ih ⊢;rw [ih];simp
theorem zH {l:Up} {m:Nat} (hm:m<=l.length) (h1:∀ j x,m<=j->l[j]? = some x->x=0) (h2:0<m->∃ y,l[m-1]? = some y/\y≠0):Dc l=l.take m:=by
 rcases Q3 m with h0 | h0
 ·subst h0;rw [JH λz hz=>?_]; rfl;obtain ⟨j,hj⟩:=Zk.1 hz;exact h1 j z (by omega) hj
 ·obtain ⟨y,hy,hy0⟩:=h2 h0;have:=EN (l:=l) (m:=m-1) (y:=y) (λj x hj hx=>h1 j x (by omega) hx) hy hy0;rwa [show m-1+1=m from by omega] at this
theorem zP:∀ (l:Up),∀ z∈Dc l,z∈l
 | [],z,h=>h
 |
  x::l,z,h=>by
  simp only [Dc] at h;have ih:=zP l
  split at h
  ·split at h
   ·cases h
   ·simp at h; simp [h]
  ·rename_i y k e;rw [e] at ih;rcases Qm.1 h with h | h
   ·simp [h]
   ·exact Qg _ (ih z h)
theorem zS:∀ (l:Up),(Dc l).length<=l.length
 | []=>Ql _
 |
  x::l=>by
  have ih:=zS l;simp only [Dc]
  split
  ·split <;> simp
  ·rename_i y k e;rw [e] at ih;simp at ih ⊢; omega
def zp (p:Um):Up:=p.map λ(z:Int)=>(z:Rat)
theorem Ex:∀ (p:Um),Dc (zp p)=zp (trim p)
 | []=>rfl
 |
  x::l=>by
  have ih:=Ex l;unfold zp at ih ⊢;simp only [Zz,Dc,trim,ih];cases h:trim l with
  |
   nil =>
   simp only [X6];by_cases hx:x=0
   ·subst hx; simp
   ·have:(x:Rat)≠0:=λe=>hx (by exact_mod_cast e)
    simp [hx,this]
  | cons y k=>simp
theorem A0 (p:Um):(zp p).length=p.length:=Q7 _
theorem Qw0 {p:Um} {i:Nat} {z:Int} (h:p[i]? = some z):(zp p)[i]? = some (z:Rat):=by simp [zp,h]
theorem NN (p:Um) (i:Nat):(zp p).getD i 0=((p.getD i 0:Int):Rat):=by
 simp only [Qi,zp,Q9];cases p[i]? <;> rfl
def Rb (s:Nat) (p:Up):Prop:=∀ q∈p,Qs s q
theorem Rb.mono {s t:Nat} {p:Up} (h:Rb s p) (ht:s<=t):Rb t p:=λq hq=>(h q hq).mono ht
theorem Rb.get {s:Nat} {p:Up} (h:Rb s p) {i:Nat} {q:Rat} (hq:p[i]? = some q):Qs s q:=h q (Qc hq)
theorem Au {s:Nat} {z:Int} (h:Fe z<=s) (h1:1<=s):Qs s (z:Rat):=⟨by simpa using h,Qa (show Fe ((1:Nat):Int)<=1 by decide) h1⟩
theorem zK {s:Nat} {p:Um} (h:Bd s p) (h1:1<=s):Rb s (zp p):=λq hq=>by
 obtain ⟨z,hz,rfl⟩:=Za.1 hq;exact Au (h z hz) h1
theorem Qpz {s:Nat} (h1:1<=s):Qs s 0:=Au (z:=0) (by simp [Na]) h1
theorem Rb.getD {s:Nat} {p:Up} (h:Rb s p) (h1:1<=s) (i:Nat):Qs s (p.getD i 0):=by
 rw [Qi];cases e:p[i]? with
 | none=>exact Qpz h1
 | some q=>exact h.get e
theorem Rb.trim {s:Nat} {p:Up} (h:Rb s p):Rb s (Dc p):=λq hq=>h q (zP p q hq)
def VM (f:Nat->Rat) (n:Nat):Up:=(List.range n).map f
theorem EO (f:Nat->Rat) (n:Nat):(VM f n).length=n:=by simp [VM]
theorem zL (f:Nat->Rat) (n:Nat):VM f (n+1)=VM f n++[f n]:=by simp [VM,Wb]
theorem Qqs {s n:Nat} {f:Nat->Rat} (h:∀ i,i<n->Qs s (f i)):Rb s (VM f n):=λq hq=>by
 obtain ⟨i,hi,rfl⟩:=Za.1 hq;exact h i (Kj.1 hi)
theorem vS {f:Nat->Rat} {g:Nat->Int} (n:Nat) (h:∀ i,i<n->f i=(g i:Rat)):VM f n=zp ((List.range n).map g):=by
 simp only [VM,zp,List.map_map];exact Xp λi hi=>h i (Kj.1 hi)
def Qc1 (p q:Up):Up:=Dc (VM (λi=>p.getD i 0+q.getD i 0) (max p.length q.length))
def ZQ (p:Up) (c:Rat):Up:=Dc (VM (λi=>p.getD i 0*c) p.length)
def vW (p:Up):Up:=ZQ p (-1)
def Qsi (p q:Up):Up:=Qc1 p (vW q)
theorem Qp1 (p q:Um):Qc1 (zp p) (zp q)=zp (A4 p q):=by
 unfold Qc1 A4 A1;rw [vS (g:=λk=>p.getD k 0+q.getD k 0) _ λi _=>by rw [NN,NN,Kc],Ex,A0,A0]
theorem zF (p:Um) (c:Int):ZQ (zp p) (c:Rat)=zp (Fv p c):=by
 unfold ZQ Fv A1;rw [vS (g:=λk=>p.getD k 0*c) _ λi _=>by rw [NN,Xz],Ex,A0]
theorem bN (p:Um):Fv p (-1)=Mq p:=by
 unfold Fv Mq A1;congr 2;funext k;omega
theorem oN (p:Um):vW (zp p)=zp (Mq p):=by
 rw [<-bN,<-zF]; rfl
theorem uC {p q:Um} (hp:Ff p) (hq:Ff q) (h:∀ k,p.getD k 0=q.getD k 0):p=q:=by
 have key:∀ {p q:Um},Ff q->(∀ k,p.getD k 0=q.getD k 0)->q.length<=p.length:=by
  intro p q hq h;rcases Zb p.length q.length with h1 | h1
  ·have h2:=H9 hq (by omega);rw [<-h,Qi,Qu (by omega)] at h2;exact (h2 rfl).elim
  ·exact h1
 exact CO (Kb (key hp λk=>(h k).symm) (key hq h)) λj _=>h j
theorem mN {n m:Nat} {f g:Nat->Int} (hn:n<=m) (h:∀ k,k<n->f k=g k) (h0:∀ k,n<=k->k<m->g k=0):A1 n f=A1 m g:=by
 refine uC (Fz _ _) (Fz _ _) λk=>?_
 rw [Pd,Pd];by_cases h1:k<n
 ·rw [if_pos h1,if_pos (by omega),h k h1]
 ·rw [if_neg h1];by_cases h2:k<m
  ·rw [if_pos h2,h0 k (by omega) h2]
  ·rw [if_neg h2]
theorem Qp9 (p q:Um):Qsi (zp p) (zp q)=zp (M4 p q):=by
 unfold Qsi;rw [oN,Qp1];congr 1;have hl:=XN q;unfold A4 M4;refine mN (by omega) (λk _=>?_) λk h1 h2=>?_
 ·unfold Mq;rw [Pd]
  split
  ·omega
  ·rename_i h;have:q.getD k 0=0:=by rw [Qi,Qu (by omega)]; rfl
   omega
 ·have h3:p.getD k 0=0:=by rw [Qi,Qu (by omega)]; rfl
  have h4:(Mq q).getD k 0=0:=by rw [Qi,Qu (by omega)]; rfl
  unfold Mq at h4;rw [Pd] at h4
  split at h4
  ·omega
  ·have:q.getD k 0=0:=by rw [Qi,Qu (by omega)]; rfl
   omega
end Orr
namespace Orr
open Go Go.Proofs Tryz
set_option maxRecDepth 10000
def frow (p:Up):Us:=p.map fr
theorem Ch (p:Up):(frow p).length=p.length:=by simp [frow]
theorem XV {p:Up} {i:Nat} {q:Rat} (h:p[i]? = some q):(frow p)[i]? = some (fr q):=G6 h
theorem OE (p:Up) (q:Rat):frow (p++[q])=frow p++[fr q]:=by simp [frow]
theorem Qb8 (p:Up):∀ c∈frow p,c.length=4:=λc hc=>by obtain ⟨x,_,rfl⟩:=Za.1 hc; rfl
abbrev rp (p:Up):LV:=.row (frow p)
theorem Qcr (q:Rat):∀ c∈[fr q],c.length=4:=λc hc=>by rw [Qk.1 hc]; rfl
theorem Qfm:Uj 246 [] [.agg (fr 0)]:=Ug func246 rfl [.k (KU (n:=0) (by decide))] rfl
theorem KH {p:Up}:Uj 89 [.one (rp p)] [.one (rp (Dc p))]:=by
 refine Fw func89 rfl (ln 0 rfl rfl λhl=>?_);rw [Ch] at hl;have hpl:=Ch p;refine Ud [] rfl ?_;refine lp (S:=Nat) 0 (λL1 n=>(3,.v (.oi n))::L1) (λ_=>[]) id (λn=>n<=p.length/\∀ j x,n<=j->p[j]? = some x->x=0) (frow p).length ⟨by rw [hpl]; exact Ql _,λj x h1 h2=>by
  have:=(Qf.1 h2).1; rw [hpl] at h1; omega⟩ rfl (λ_ _=>rfl) rfl λn hs=>?_
 obtain ⟨h1,h2⟩:=hs;cases n with
 |
  zero =>
  have e:=zH h1 (λj x h=>h2 j x h) (λh=>absurd h (by decide));exact Uf [.g 8 false (by simp),.f rfl,.i 0] rfl (by rw [e]; rfl) (by simp [U4])
 |
  succ n =>
  obtain ⟨x,hx⟩:=gxE (l:=p) (i:=n) (by omega);have hn:=Rat.num_eq_zero (q:=x);by_cases h0:x=0
  ·refine Ue [.g 8 true (by simp),.r 11 (eI (b:=(n:Int)) (by simp)),.x (XV hx),.k (Dt (z:=x.num)),.t (decide_eq_true (hn.2 h0)),.r 18 (eI (b:=(n:Int)) (by simp))] rfl ?_;exact rd n (by simp) ⟨by omega,λj y h3 h4=>by
    rcases Vk h3 with rfl | h3
    ·rw [hx] at h4; injection h4 with h4; rw [<-h4,h0]
    ·exact h2 j y h3 h4⟩ rfl
  ·have e:=zH h1 (λj x h=>h2 j x h) (λ_=>⟨x,hx,h0⟩);exact Uf [.g 8 true (by simp),.r 11 (eI (b:=(n:Int)) (by simp)),.x (XV hx),.k (Dt (z:=x.num)),.f (decide_eq_false λh=>h0 (hn.1 h)),.i (n+1)] rfl (by rw [e]; simp [rp,frow,Jv]) (by simp [U4,hpl] <;> omega)
theorem Qrq {p:Up} {i:Nat} (hi:i<1099511627776):Uj 323 [.one (rp p),.oi i] [.agg (fr (p.getD i 0))]:=by
 have hpl:=Ch p;by_cases h:i<p.length
 ·have e:p.getD i 0=p[i]:=by rw [Qi,Qe h]; rfl
  rw [e];exact Ug func323 rfl [.g 7 false Uk,.F,.x (XV (Qe h))] rfl
 ·have e:p.getD i 0=0:=by rw [Qi,Qu (by omega)]; rfl
  rw [e];exact Ug func323 rfl [.g 7 false Uk,.T,.k Qfm] rfl
theorem Qf0:Uj 178 [.one (ids [1])] [.one (rp (zp [1]))]:=by
 have cc:=KH (p:=zp [1]);rw [Ex,show trim [1]=[1] from rfl] at cc;refine Fw func178 rfl ?_;refine Ud [.o 3 51 4] rfl ?_;refine Ui (S:=Nat) 1 (λL1 i=>(7,.v (.oi i))::(3,.v (.one (.orow 0 4 none)))::L1) (λi=>[.row false 51 4 (frow ((zp [1]).take i))]) (λi=>1-i) (λi=>i<=1) 0 (by decide) rfl rfl λi hi=>?_
 rcases (show i=0\/i=1 by omega) with rfl | rfl
 ·refine go tt [.t rfl,.x (l:=idl [1]) (i:=0) (xs:=[.int .i64 1]) rfl,.k (KU (n:=1) (by decide)),.s (sz:=4) (Qcr _)] rfl (by simp [U4,frow]) ?_;exact rd 1 (by omega) (by omega) rfl
 ·exact Uf [.f rfl,.k cc] rfl
theorem Qtx {p q:Up} (hp:Rb 20000000 p) (hq:Rb 20000000 q) (hlp:p.length<=1000000) (hlq:q.length<=1000000):Uj 293 [.one (rp p),.one (rp q)] [.one (rp (Qc1 p q))]:=by
 have h1:=Ch p;have h2:=Ch q;obtain ⟨M,hM⟩:=nmE (max p.length q.length);have cc:=KH (p:=VM (λi=>p.getD i 0+q.getD i 0) M);unfold Qc1;rw [<-hM];refine Fw func293 rfl ?_;refine Ud [.o 5 51 4] rfl ?_;refine Ui (S:=Nat) 1 (λL1 i=>(6,.v (.oi i))::(5,.v (.one (.orow 0 4 none)))::L1) (λi=>[.row false 51 4 (frow (VM (λi=>p.getD i 0+q.getD i 0) i))]) (λi=>M-i) (λi=>i<=M) 0 (Qh _) rfl rfl λi hi=>?_
 have hol:(frow (VM (λi=>p.getD i 0+q.getD i 0) i)).length=i:=by rw [Ch,EO]
 by_cases h:i<M
 ·refine go tt [.r 12 (eI (b:=(M:Int)) (by omega)),.T,.k (Qrq (p:=p) (i:=i) (by omega)),.k (Qrq (p:=q) (i:=i) (by omega)),.k (pS (hp.getD (by decide) i) (hq.getD (by decide) i)),.s (sz:=4) (Qcr _)] rfl (by simp [U4,hol,-List.getD_eq_getElem?_getD]; omega) ?_;exact rd (i+1) (by omega) h (by rw [zL,OE]; rfl)
 ·have e:i=M:=by omega
  rw [e];exact Uf [.r 12 (eI (b:=(M:Int)) (by omega)),.F,.k cc] rfl
theorem BL {p:Up} {c:Rat} (hp:Rb 40000000 p) (hc:Qs 40000000 c) (hlp:p.length<=1000000):Uj 221 [.one (rp p),.agg (fr c)] [.one (rp (ZQ p c))]:=by
 have h1:=Ch p;have cc:=KH (p:=VM (λi=>p.getD i 0*c) p.length);unfold ZQ;refine Fw func221 rfl ?_;refine Ud [.o 5 51 4] rfl ?_;refine Ui (S:=Nat) 2 (λL1 i=>(9,.v (.oi i))::(5,.v (.one (.orow 1 4 none)))::L1) (λi=>[.blk 51 (fr c),.row false 51 4 (frow (VM (λi=>p.getD i 0*c) i))]) (λi=>p.length-i) (λi=>i<=p.length) 0 (Qh _) rfl rfl λi hi=>?_
 have hol:(frow (VM (λi=>p.getD i 0*c) i)).length=i:=by rw [Ch,EO]
 by_cases h:i<p.length
 ·have hg:p[i]? = some (p.getD i 0):=by rw [Qi,Qe h]; rfl
  refine go tt [.T,.x (XV hg),.k (Qeq (hp.getD (by decide) i) hc),.s (sz:=4) (Qcr _)] rfl (by simp [U4,hol,-List.getD_eq_getElem?_getD]; omega) ?_;exact rd (i+1) (by omega) h (by rw [zL,OE]; rfl)
 ·have e:i=p.length:=by omega
  rw [e];exact Uf [.F,.k cc] rfl
theorem Qfz {p:Up} (hp:Rb 40000000 p) (hlp:p.length<=1000000):Uj 157 [.one (rp p)] [.one (rp (vW p))]:=by
 have cs:=BL (p:=p) (c:=-1) hp ⟨by decide,by decide⟩ hlp;have co:=KU (n:=-1) (by decide);rw [show ((-1:Int):Rat)=-1 from rfl] at co;exact Ug func157 rfl [.k co,.k cs] rfl
theorem Qpx {s t:Nat} {a b:Rat} (ha:Qs s a) (hb:Qs t b):Qs (s+t+1) (a*b):=by
 rw [<-qH];unfold Gf;rw [if_neg (Jf (Di a) (Di b))];have h1:=Gb a.num b.num;have h2:=Gb (a.den:Int) (b.den:Int);have:=ha.1; have:=ha.2; have:=hb.1; have:=hb.2;exact Qs.divInt (by omega) (by omega) (by omega)
theorem Qvx {s:Nat} {p:Up} (hp:Rb s p):Rb (s+2) (vW p):=by
 unfold vW ZQ;refine Rb.trim (Qqs λi hi=>?_);have h1:Qs (s+0) (p.getD i 0):=by
  have hi:i<p.length:=hi;rw [Qi,Qe hi];exact hp _ (Xs hi)
 have:=Qpx h1 (show Qs 1 (-1:Rat) from ⟨by decide,by decide⟩);exact this.mono (by omega)
theorem Qj4 (p:Up):(vW p).length<=p.length:=by
 unfold vW ZQ;exact Qa (zS _) (by rw [EO]; exact Ql _)
theorem Qer {a b:Int} (ha:Fe a<=40000000) (hb:Fe b<=40000000):Uj 120 [.agg (fr (a:Rat)),.agg (fr (b:Rat))] [.agg (fr ((a*b:Int):Rat))]:=by
 have h:=Qeq (Au ha (by decide)) (Au hb (by decide));rw [<-Xz] at h; exact h
theorem Qs7 {a b:Int} (ha:Fe a<=20000000) (hb:Fe b<=20000000):Uj 50 [.agg (fr (a:Rat)),.agg (fr (b:Rat))] [.agg (fr ((a+b:Int):Rat))]:=by
 have h:=pS (Au ha (by decide)) (Au hb (by decide));rw [<-Kc] at h; exact h
theorem fQ (l:Um) (i:Nat) (z:Int):(frow (zp l)).set i (fr (z:Rat))=frow (zp (l.set i z)):=by simp [frow,zp,Vs]
theorem Qls {p:Um} {i:Nat} (h:i<p.length):(zp p)[i]? = some ((p.getD i 0:Int):Rat):=Qw0 (Rw h)
theorem So {p:Um} {i:Nat} (h:i<p.length):(frow (zp p))[i]? = some (fr ((p.getD i 0:Int):Rat)):=XV (Qls h)
theorem OA (p:Um):(frow (zp p)).length=p.length:=by rw [Ch,A0]
abbrev zR:Ur:=[.nils,.bool false,.nils,.bool false]
theorem jP {n i:Nat} (h:i<n):(List.replicate i (fr 0)++List.replicate (n-i) zR).set i (fr 0)=List.replicate (i+1) (fr 0)++List.replicate (n-(i+1)) zR:=by
 rw [List.set_append_right _ _ (by simp),Jd,Ki,show n-i=n-(i+1)+1 by omega,J4 (n:=n-(i+1)),List.set_cons_zero,List.replicate_succ' (n:=i),Zd]; rfl
theorem AH (n:Nat):List.replicate n (fr 0)++List.replicate (n-n) zR=frow (zp (List.replicate n 0)):=by simp [zp,frow]
theorem Qtz {p q:Um} {s t:Nat} (hlp:p.length<=1000000) (hlq:q.length<=1000000) (hp:Bd s p) (hq:Bd t q) (hst:s+t<=19000000):Uj 220 [.one (rp (zp p)),.one (rp (zp q))] [.one (rp (zp (Gl p q)))]:=by
 have hpl:=OA p;have hql:=OA q;rcases Q3 p.length with h0 | h0
 ·have e:Gl p q=[]:=by unfold Gl; rw [if_pos (.inl h0)]
  rw [e];exact Ug func220 rfl [.g 12 true Ul,.t rfl] rfl
 rcases Q3 q.length with h1 | h1
 ·have e:Gl p q=[]:=by unfold Gl; rw [if_pos (.inr h1)]
  rw [e];exact Ug func220 rfl [.g 12 false Uk,.T] rfl
 have e:Gl p q=trim (Ar p q (List.replicate (p.length+q.length-1) 0) p.length):=by unfold Gl; rw [if_neg (by omega)]
 rw [e];obtain ⟨N,hN⟩:=nmE (p.length+q.length-1);rw [<-hN];obtain ⟨o,ho⟩:=nmE (List.replicate N (0:Int));rw [<-ho];have hol:o.length=N:=by rw [ho]; simp
 have ho0:∀ m,o.getD m 0=0:=λm=>by rw [ho]; exact Ci N m
 have cc:=KH (p:=zp (Ar p q o p.length));rw [Ex] at cc;refine Fw func220 rfl ?_;refine Ue [.g 12 false Uk,.F,.r 22 (eI (b:=(N:Int)) (by omega)),.i N,.i N,.r 25 (eI (b:=(N:Int)) (by simp))] rfl ?_;refine Ui (S:=Nat) 1 (λL1 i=>(26,.v (.oi i))::L1) (λi=>[.row false 51 4 (List.replicate i (fr 0)++List.replicate (N-i) zR)]) (λi=>N-i) (λi=>i<=N) 0 (Qh _) rfl rfl λi hi=>?_
 by_cases hlt:i<N
 ·refine Ue [.T,.k Qfm,.i i] rfl ?_;rw [jP hlt];exact rd (i+1) (by omega) hlt rfl
 have hiN:i=N:=by omega
 rw [hiN,AH,<-ho];clear hiN hlt hi;refine Ud [.F] rfl ?_;refine Ui (S:=Nat) 1 (λL1 i=>(36,.v (.oi i))::L1) (λi=>[.row false 51 4 (frow (zp (Ar p q o i)))]) (λi=>p.length-i) (λi=>i<=p.length) 0 (Qh _) rfl rfl λi hi=>?_
 by_cases hlt:i<p.length
 ·refine Ud [.T] rfl ?_;refine Ui (S:=Nat) 1 (λL1 k=>(41,.v (.oi k))::L1) (λk=>[.row false 51 4 (frow (zp (Oi (p.getD i 0) q i (Ar p q o i) k)))]) (λk=>q.length-k) (λk=>k<=q.length) 0 (Qh _) rfl rfl λk hk=>?_
  by_cases hk2:k<q.length
  ·have hm1:Fe ((Oi (p.getD i 0) q i (Ar p q o i) k).getD (i+k) 0)<=20000000:=Qa (Is (t:=39) (yU (by rw [Ld]; omega) (yW (λj hj=>by omega) ho0 (λi j=>Nf (Fu hp i) (Fu hq j))) (λj=>Nf (Fu hp i) (Fu hq j)) (i+k)) (Kh (show i+1<549755813888 by omega) (by decide))) (by omega);have hm2:Fe (p.getD i 0*q.getD k 0)<=20000000:=Qa (Gb _ _) (by have:=Fu hp i; have:=Fu hq k; omega);have hml:(Oi (p.getD i 0) q i (Ar p q o i) k).length=N:=by rw [Oj,Ld,hol]
   have cm:=Qer (a:=p.getD i 0) (b:=q.getD k 0) (Qa (Fu hp i) (by omega)) (Qa (Fu hq k) (by omega));have hfl:=OA (Oi (p.getD i 0) q i (Ar p q o i) k);refine go tt [.T,.i (i+k),.x (So (p:=Oi (p.getD i 0) q i (Ar p q o i) k) (i:=i+k) (by omega)),.x (So hlt),.x (So hk2),.k cm,.k (Qs7 hm1 hm2),.i (i+k)] rfl (by simp [U4,hfl,-List.getD_eq_getElem?_getD] <;> omega) ?_;rw [fQ];exact rd (k+1) (by omega) hk2 rfl
  ·obtain rfl:k=q.length:=by omega
   exact go tt [.F] rfl (by simp [U4]; omega) (rd (i+1) (by omega) hlt rfl)
 ·obtain rfl:i=p.length:=by omega
  exact Uf [.F,.k cc] rfl
def uT (p:Um) (n:Nat):Um:=(List.range n).map λk=>p.getD (k+1) 0*((k+1:Nat):Int)
theorem Qgy (p:Um) (n:Nat):(uT p n).length=n:=by simp [uT]
theorem Qb1 (p:Um) (n:Nat):uT p (n+1)=uT p n++[p.getD (n+1) 0*((n+1:Nat):Int)]:=by simp [uT,Wb]
theorem kK (p:Um) (z:Int):frow (zp (p++[z]))=frow (zp p)++[fr (z:Rat)]:=by simp [frow,zp]
theorem Qfy {p:Um} (hp:Bd 40000000 p) (hl:p.length<=1000000):Uj 91 [.one (rp (zp p))] [.one (rp (zp (Gx p)))]:=by
 have hpl:=OA p;have cc:=KH (p:=zp (uT p (p.length-1)));rw [Ex] at cc;refine Fw func91 rfl ?_;refine Ud [.o 3 51 4] rfl ?_;refine Ui (S:=Nat) 1 (λL1 j=>(4,.v (.oi ((j+1:Nat):Int)))::(3,.v (.one (.orow 0 4 none)))::L1) (λj=>[.row false 51 4 (frow (zp (uT p j)))]) (λj=>p.length-j) (λj=>j<=p.length-1) 0 (Qh _) rfl rfl λj hj=>?_
 have hfl:=OA (uT p j);rw [Qgy] at hfl;by_cases h:j+1<p.length
 ·have hk:Fe ((j+1:Nat):Int)<=40000000:=Qa (jE (t:=38) (k:=j+1) (Kh (show j+1<274877906944 by omega) (by decide))) (by decide);refine go tt [.T,.x (So h),.k (KU (n:=((j+1:Nat):Int)) (by omega)),.k (Qer (Fu hp (j+1)) hk),.s (sz:=4) (Qcr _)] rfl (by simp [U4,hfl,-List.getD_eq_getElem?_getD] <;> omega) ?_;exact rd (j+1) (by omega) (by omega) (by rw [Qb1,kK]; rfl)
 ·have e:j=p.length-1:=by omega
  rw [e];exact Uf [.F,.k cc] rfl
theorem Qp5:[LV.nils,LV.bool false].map FT=ri 0:=by
 show _=[nd 0,sg 0];unfold nd dl;rw [Hx]; rfl
end Orr
namespace Orr
def Hh (p:Um):Int:=p.getD (p.length-1) 0
def EM (a b:Um):Int:=if Hh b<0 then -(Hh a) else Hh a
def WM (a b:Um) (i:Nat):Int:=a.getD i 0*((Hh b).natAbs:Int)-(if a.length-b.length<=i then EM a b*b.getD (i-(a.length-b.length)) 0 else 0)
def tV (a b:Um):Um:=A1 a.length (WM a b)
inductive RRun (b:List Int):Nat->List Int->List Int->Prop
 | stop {a:List Int}:a.length<b.length->RRun b 0 a a
 | step {k:Nat} {a r:List Int}:b.length<=a.length->a.length<=1000->Bd 9000000 a->Bd 9000000 b->RRun b k (tV a b) r->RRun b (k+1) a r
def I3 (p:Um):Nat->Nat
 | 0=>0
 | i+1=>Int.gcd (I3 p i:Nat) (p.getD i 0)
def US (p:Um):Nat:=I3 p p.length
theorem HC (p:Um):∀ {i j:Nat},j<i->((I3 p i:Nat):Int)∣p.getD j 0
 | 0,_,h=>absurd h (Nat.not_lt_zero _)
 |
  i+1,j,h=>by
  simp only [I3];rcases Zb j i with h1 | h1
  ·exact V5 (Int.gcd_dvd_left ..) (HC p h1)
  ·rw [show j=i by omega]; exact Wv ..
theorem uQ (p:Um) (j:Nat):((US p:Nat):Int)∣p.getD j 0:=by
 rcases Zb j p.length with h | h
 ·exact HC p h
 ·rw [Qi,Qu h]; exact Int.dvd_zero _
theorem ZA {s:Nat} {p:Um} (h:Bd s p):∀ i,Fe ((I3 p i:Nat):Int)<=s
 | 0=>by simp [I3,Na]
 |
  i+1=>by
  simp only [I3];by_cases h0:p.getD i 0=0
  ·rw [h0,Int.gcd_zero_right]; exact ZA h i
  ·have h1:=Wv (I3 p i:Nat) (p.getD i 0);have h2:(Int.gcd (I3 p i:Nat) (p.getD i 0))<=(p.getD i 0).natAbs:=Kv (by omega) (by simpa using X2.2 h1);have h3:=Fu h i;rw [Sf] at h3 ⊢;simp only [Xh];omega
theorem Qbs {p:Um} {j i:Nat} (hj:j<i) (h:p.getD j 0≠0):0<I3 p i:=by
 have:=HC p hj;rcases Q3 (I3 p i) with h0 | h0
 ·rw [h0] at this;exact absurd (Int.zero_dvd.1 this) h
 ·exact h0
theorem uZ {p:Um} (ht:Ff p) (h:0<p.length):0<US p:=Qbs (j:=p.length-1) (by omega) (H9 ht h)
def Ed (p:Um):Int:=if Hh p<0 then -((US p:Nat):Int) else ((US p:Nat):Int)
def To (p:Um):Um:=A1 p.length λi=>p.getD i 0 / Ed p
def Bj (p:Um):Um:=if Hh p<0 then Mq (To p) else To p
theorem Qb6 (p:Um) (j:Nat):Ed p∣p.getD j 0:=by
 unfold Ed
 split
 ·exact Uc.2 (uQ p j)
 ·exact uQ p j
theorem Qhc {p:Um} (ht:Ff p) (h:0<p.length):Ed p≠0:=by
 have:=uZ ht h;unfold Ed
 split <;> omega
theorem OU {s:Nat} {p:Um} (h:Bd s p):Fe (Ed p)<=s:=by
 unfold Ed
 split
 ·rw [Hn]; exact ZA h _
 ·exact ZA h _
theorem cG {p:Um} {c:Int} (hc:c≠0) (hd:∀ j,c∣p.getD j 0):ZQ (zp p) (1 / (c:Rat))=zp (A1 p.length λi=>p.getD i 0 / c):=by
 unfold ZQ A1;rw [vS (g:=λi=>p.getD i 0 / c) _ λi _=>?_,Ex,A0];obtain ⟨k,hk⟩:=hd i;have hc':(c:Rat)≠0:=λe=>hc (by exact_mod_cast e)
 rw [NN,hk,Jc _ hc,Xz];grind
theorem BZ {s:Nat} {p:Um} (h:Bd s p):Bd s (To p):=JI λi _=>Qa (XT _ _) (Fu h i)
theorem RP (p:Um):(To p).length<=p.length:=I8 _ _
theorem Qas {s:Nat} {p:Um} (h:Bd s p):Bd s (Bj p):=by
 unfold Bj
 split
 ·exact MZ (BZ h)
 ·exact BZ h
theorem nR (p:Um):(Bj p).length<=p.length:=by
 unfold Bj
 split
 ·exact Qa (XN _) (RP p)
 ·exact RP p
inductive GRun:Nat->List Int->List Int->List Int->Prop
 | stop (a:List Int):GRun 0 a [] a
 | step {k m:Nat} {a b r g:List Int}:0<b.length->b.length<=1000->Bd 9000000 b->RRun b m a r->r.length<=1000->Bd 9000000 r->Ff r->GRun k b (To r) g->GRun (k+1) a b g
theorem GRun.inv {k:Nat} {a b g:Um} (h:GRun k a b g):(k=0/\b.length=0/\a=g)\/∃ j m r,k=j+1/\0<b.length/\b.length<=1000/\Bd 9000000 b/\RRun b m a r/\r.length<=1000/\Bd 9000000 r/\Ff r/\GRun j b (To r) g:=by
 cases h with
 | stop=>exact .inl ⟨rfl,rfl,rfl⟩
 | step h1 h2 h3 h4 h5 h6 h7 h8=>exact .inr ⟨_,_,_,rfl,h1,h2,h3,h4,h5,h6,h7,h8⟩
def ZZ (k:Nat) (p:Um):Um:=List.replicate k 0++p
theorem cM (k:Nat) (p:Um):(ZZ k p).length=k+p.length:=by simp [ZZ]
theorem Qat {s k:Nat} {p:Um} (h:Bd s p):Bd s (ZZ k p):=λz hz=>by
 rcases Qr.1 hz with h1 | h1
 ·rw [Zw h1,Na]; exact Qh _
 ·exact h z h1
inductive DRun (b:List Int):Nat->List Int->List Int->List Int->List Int->Prop
 | stop {a q:List Int}:a.length<b.length->DRun b 0 a q q a
 | step {k:Nat} {a q qf r:List Int}:b.length<=a.length->a.length<=1000->Bd 9000000 a->Hh b≠0->Hh b∣Hh a->a.length-b.length<q.length ->
  DRun b k (M4 a (ZZ (a.length-b.length) (Fv b (Hh a / Hh b)))) (q.set (a.length-b.length) (Hh a / Hh b)) qf r->DRun b (k+1) a q qf r
theorem DRun.inv {b a q qf r:Um} {k:Nat} (h:DRun b k a q qf r):(k=0/\q=qf/\a=r/\a.length<b.length)\/∃ j,k=j+1/\b.length<=a.length/\a.length<=1000/\Bd 9000000 a/\Hh b≠0/\Hh b∣Hh a/\a.length-b.length<q.length /\
 DRun b j (M4 a (ZZ (a.length-b.length) (Fv b (Hh a / Hh b)))) (q.set (a.length-b.length) (Hh a / Hh b)) qf r:=by
 cases h with
 | stop h=>exact .inl ⟨rfl,rfl,rfl,h⟩
 | step h1 h2 h3 h4 h5 h6 h7=>exact .inr ⟨_,rfl,h1,h2,h3,h4,h5,h6,h7⟩
def My (l:Un):Um:=l.getD (l.length-1) []
inductive LRun:Nat->List (List Int)->List (List Int)->Prop
 | stop {l:List (List Int)}:(My l).length<=1->LRun 0 l l
 | step {k m:Nat} {l f:List (List Int)} {g:List Int}:1<(My l).length->(My l).length<=1000->Ff (My l)->Bd 9000000 (My l)->Bd 9000000 (Gx (My l))->GRun m (To (My l)) (To (Gx (My l))) g->l.length<=1000->LRun k (l++[g]) f->LRun (k+1) l f
theorem LRun.inv {k:Nat} {l f:Un} (h:LRun k l f):(k=0/\l=f/\(My l).length<=1)\/∃ j m g,k=j+1/\1<(My l).length/\(My l).length<=1000/\Ff (My l)/\Bd 9000000 (My l)/\Bd 9000000 (Gx (My l))/\GRun m (To (My l)) (To (Gx (My l))) g/\l.length<=1000/\LRun j (l++[g]) f:=by
 cases h with
 | stop h=>exact .inl ⟨rfl,rfl,h⟩
 | step h1 h2 h3 h4 h5 h6 h7 h8=>exact .inr ⟨_,_,_,rfl,h1,h2,h3,h4,h5,h6,h7,h8⟩
def DOk (a b q:Um):Prop:=0<b.length/\b.length<=1000/\a.length<=1000/\Bd 9000000 b/\∃ qf r n,Bd 9000000 qf/\qf.length<=1000/\DRun b n a (List.replicate (a.length+1-b.length) 0) qf r/\q=trim qf
theorem DOk.bd {a b q:Um} (h:DOk a b q):Bd 9000000 q:=by
 obtain ⟨_,_,_,_,qf,r,n,h1,_,_,rfl⟩:=h;exact Tz h1
theorem DOk.len {a b q:Um} (h:DOk a b q):q.length<=1000:=by
 obtain ⟨_,_,_,_,qf,r,n,_,h1,_,rfl⟩:=h;exact Qa (H8 _) h1
theorem DOk.trim {a b q:Um} (h:DOk a b q):Ff q:=by
 obtain ⟨_,_,_,_,qf,r,n,_,_,_,rfl⟩:=h;exact Rp _
def Qw7 (a b c f:Um):Prop:=∃ x y z,DOk a b x/\DOk b c y/\DOk (To x) (To y) z/\f=To z
structure FRun (a:List Int) (m:Nat) (f:Nat->List Int):Prop where
 run:∃ n l,LRun n [To a] l/\l.length=m+1/\∀ k,k<m->Qw7 ((l++[[1]]).getD k []) ((l++[[1]]).getD (k+1) []) ((l++[[1]]).getD (k+2) []) (f k)
 small:m<=1000
def EI (f:Nat->Um) (n:Nat):Un:=(List.range n).map f
theorem tI (f:Nat->Um) (n:Nat):(EI f n).length=n:=by simp [EI]
theorem Qdc (f:Nat->Um) (n:Nat):EI f (n+1)=EI f n++[f n]:=by simp [EI,Wb]
theorem Qk3 {f:Nat->Um} {n i:Nat} (h:i<n):(EI f n)[i]? = some (f i):=by simp [EI,X1 h]
theorem nJ {l:Un} {i:Nat} (h:i<l.length):l[i]? = some (l.getD i []):=by
 rw [Qi,Qe h]; rfl
def Oy (f:Nat->Um):Nat->Um
 | 0=>[1]
 | i+1=>Gl (Oy f i) (f i)
def Qw6 (m:Nat) (f:Nat->Um):Prop:=∀ i,i<m->Bd 9000000 (Oy f i)/\(Oy f i).length<=1000/\Bd 9000000 (f i)/\(f i).length<=1000
inductive CRun:Nat->List (List Int)->List Int->List (List Int)->Prop
 | stop {l:List (List Int)} {g:List Int}:g.length=0->CRun 0 l g l
 | step {k m:Nat} {l f:List (List Int)} {g r:List Int}:0<g.length->g.length<=1000->Bd 9000000 g->RRun g m (My l) r->Ff r->Bd 9000000 r->r.length<=1000->0<l.length->l.length<=1000->CRun k (l++[g]) (Mq (Bj r)) f->CRun (k+1) l g f
theorem CRun.inv {k:Nat} {l f:Un} {g:Um} (h:CRun k l g f):(k=0/\l=f/\g.length=0)\/∃ j m r,k=j+1/\0<g.length/\g.length<=1000/\Bd 9000000 g/\RRun g m (My l) r/\Ff r/\Bd 9000000 r/\r.length<=1000/\0<l.length/\l.length<=1000/\CRun j (l++[g]) (Mq (Bj r)) f:=by
 cases h with
 | stop h=>exact .inl ⟨rfl,rfl,h⟩
 | step h1 h2 h3 h4 h5 h6 h7 h8 h9 h10=>exact .inr ⟨_,_,_,rfl,h1,h2,h3,h4,h5,h6,h7,h8,h9,h10⟩
structure ChRun (a:List Int) (sq:List Int) (c:List (List Int)):Prop where
 fac:∃ m f,FRun a m f/\Qw6 m f/\sq=Oy f m
 Eb:∃ n,CRun n [sq] (Bj (Gx sq)) c
 bd:Bd 8000000 sq
 len:sq.length<=1000
 small:c.length<=1000
def Qdu (q:Rat) (c:Un):Prop:=∃ sq,ChRun [-q.num,(q.den:Int)] sq c
end Orr
namespace Orr
open Go Go.Proofs Tryz
set_option maxRecDepth 10000
theorem RRun.inv {b a r:Um} {k:Nat} (h:RRun b k a r):(k=0/\a=r/\a.length<b.length)\/(∃ j,k=j+1/\b.length<=a.length/\a.length<=1000/\Bd 9000000 a/\Bd 9000000 b/\RRun b j (tV a b) r):=by
 cases h with
 | stop h=>exact .inl ⟨rfl,rfl,h⟩
 | step h1 h2 h3 h4 h5=>exact .inr ⟨_,rfl,h1,h2,h3,h4,h5⟩
theorem Qqa {a b:Um} (ha:Bd 9000000 a):Fe (EM a b)<=9000000:=by
 unfold EM; split
 ·rw [Hn]; exact Fu ha _
 ·exact Fu ha _
theorem Qp4 (n:Nat):ri (n:Int)=[nd n,.bool false]:=by
 show [nd n,sg (n:Int)]=_;unfold sg;rw [decide_eq_false (by omega)]
def vF (a b:Um) (n:Nat):Um:=(List.range n).map (WM a b)
theorem Qkb (a b:Um) (n:Nat):(vF a b n).length=n:=by simp [vF]
theorem zG (a b:Um) (n:Nat):vF a b (n+1)=vF a b n++[WM a b n]:=by simp [vF,Wb]
theorem lC {a0 b res:Um} {n:Nat} (hb0:0<b.length) (hb1:b.length<=1000) (hbb0:Bd 9000000 b) (hrun:RRun b n a0 res):Uj 158 [.one (rp (zp a0)),.one (rp (zp b))] [.one (rp (zp res))]:=by
 have hbl:=OA b;have hle:Fe (((Hh b).natAbs:Nat):Int)<=9000000:=Fu hbb0 _;refine Fw func158 rfl ?_;refine Ue [.r 15 (eI (b:=((b.length-1:Nat):Int)) (by omega)),.x (So (p:=b) (i:=b.length-1) (by omega))] rfl ?_;refine sb [(0,.v (.one (rp (zp a0)))),(1,.v (.one (rp (zp b)))),(5,.v (.one (.ow 0 0))),(6,.v (.one (.ow 1 0)))] [.blk 49 (ri (Hh b)),.blk 49 [nd (Hh b).natAbs,.bool false]] rfl rfl ?_;refine Ui (S:=Nat×Um) 2 (λL1 s=>(0,.v (.one (rp (zp s.2))))::L1) (λ_=>[.blk 49 (ri (Hh b)),.blk 49 [nd (Hh b).natAbs,.bool false]]) (λs=>s.1) (λs=>RRun b s.1 s.2 res) (n,a0) hrun rfl rfl λ⟨k,a⟩ hs=>?_
 have hal:=OA a;have hs:RRun b k a res:=hs;rcases RRun.inv hs with ⟨rfl,rfl,h1⟩ | ⟨j,rfl,h1,h2,ha,hb,hr⟩
 ·exact Uf [.f (decide_eq_false (by dsimp only; omega))] rfl
 obtain ⟨K,hK⟩:=nmE (a.length-b.length);have htb:=Qqa (b:=b) ha;have cc:=KH (p:=zp (vF a b a.length));rw [Ex,show trim (vF a b a.length)=tV a b from rfl] at cc;refine Ue [.t (decide_eq_true (by dsimp only; omega)),.r 30 (eI (b:=(K:Int)) (by dsimp only; omega)),.r 34 (eI (b:=((a.length-1:Nat):Int)) (by dsimp only; omega)),.x (So (p:=a) (i:=a.length-1) (by omega))] rfl ?_;refine ct 1 (S:=Unit) (λ_=>[(0,.v (.one (rp (zp a)))),(1,.v (.one (rp (zp b)))),(5,.v (.one (.ow 0 0))),(6,.v (.one (.ow 1 0))),(7,.v (.oi K)),(8,.v (.one (.ow 2 0)))]) (λ_=>[.blk 49 (ri (Hh b)),.blk 49 [nd (Hh b).natAbs,.bool false],.blk 49 (ri (EM a b))]) (λ_=>True) rfl ?_ (λ_ _=>?_)
 ·by_cases hn:Hh b<0
  ·have e:EM a b=-(Hh a):=if_pos hn;rw [e];exact go tt [.t (decide_eq_true hn),.k (QW (z:=Hh a))] rfl trivial (rc () trivial rfl)
  ·have e:EM a b=Hh a:=if_neg hn;rw [e];exact go tt [.f (decide_eq_false hn)] rfl trivial (rc () trivial rfl)
 refine Ud [.o 9 51 4] rfl ?_;refine Ui (S:=Nat) 4 (λL1 i=>(44,.v (.oi i))::(9,.v (.one (.orow 3 4 none)))::L1) (λi=>[.blk 49 (ri (Hh b)),.blk 49 [nd (Hh b).natAbs,.bool false],.blk 49 (ri (EM a b)),.row false 51 4 (frow (zp (vF a b i)))]) (λi=>a.length-i) (λi=>i<=a.length) 0 (Qh _) rfl rfl λi hi=>?_
 have hfl:=OA (vF a b i);rw [Qkb] at hfl;by_cases h:i<a.length
 ·have cm:=Ad (a:=a.getD i 0) (b:=(((Hh b).natAbs:Nat):Int)) (Qa (Fu ha i) (by decide)) (by omega);have hm:=Gb (a.getD i 0) (((Hh b).natAbs:Nat):Int);have hai:=Fu ha i;rw [Qp4 (Hh b).natAbs] at cm;by_cases hk:K<=i
  ·have hbi:=Fu hb (i-K);have hm2:=Gb (EM a b) (b.getD (i-K) 0);have e:WM a b i=a.getD i 0*(((Hh b).natAbs:Nat):Int)-EM a b*b.getD (i-K) 0:=by unfold WM; rw [if_pos (by omega),hK]
   refine go tt [.T,.x (So h),.k cm,.T,.r 62 (eI (b:=((i-K:Nat):Int)) (by omega)),.x (So (p:=b) (i:=i-K) (by omega)),.k (Ad (a:=EM a b) (b:=b.getD (i-K) 0) (by omega) (by omega)),.k (Qfn (by omega) (by omega)),.k (ZL (n:=1) (by decide)),.k (Ac (n:=a.getD i 0*(((Hh b).natAbs:Nat):Int)-EM a b*b.getD (i-K) 0)),.s (sz:=4) (Qcr _)] rfl (by simp [U4,hfl,-List.getD_eq_getElem?_getD] <;> omega) ?_;exact rd (i+1) (by omega) h (by rw [zG,kK,e]; rfl)
  ·have e:WM a b i=a.getD i 0*(((Hh b).natAbs:Nat):Int):=by unfold WM; rw [if_neg (by omega),Int.sub_zero]
   refine go tt [.T,.x (So h),.k cm,.F,.k (ZL (n:=1) (by decide)),.k (Ac (n:=a.getD i 0*(((Hh b).natAbs:Nat):Int))),.s (sz:=4) (Qcr _)] rfl (by simp [U4,hfl,-List.getD_eq_getElem?_getD] <;> omega) ?_;exact rd (i+1) (by omega) h (by rw [zG,kK,e]; rfl)
 ·have e:i=a.length:=by omega
  rw [e];exact go tt [.F,.k cc] rfl trivial (rd (j,tV a b) (by omega) hr rfl)
theorem Qtw:Uj 73 [.agg (ri 1),.agg (ri 1)] [.agg (ri 1)]:=Ad (a:=1) (b:=1) (by decide) (by decide)
theorem Qnj:Uj 138 [.agg (ri 1),.agg (ri 1)] [.agg (ri 1)]:=xO (a:=1) (b:=1) (by decide) (by decide)
theorem Qmy {z:Int} (hz:Fe z<=90000000):Uj 73 [.agg (ri z),.agg (ri 1)] [.agg (ri z)]:=by
 have h:=Ad (a:=z) (b:=1) (by omega) (by decide);rwa [Ub] at h
theorem lF {z:Int} (hz:Fe z<=90000000):Uj 139 [.agg (ri z),.agg (ri 1)] [.agg (ri z)]:=by
 have h:=BB (a:=z) (b:=1) hz (by decide) (by decide) (Int.emod_one z);rwa [Int.ediv_one] at h
theorem Qes {z:Int}:Uj 87 [.agg (fr (z:Rat))] [.agg (fr ((-z:Int):Rat))]:=by
 have h:=Qtj (a:=(z:Rat));rwa [<-Vm] at h
theorem Qvv {c:Int} (hc:c≠0) (hs:Fe c<=9000000):Qs 40000000 (((1:Int):Rat) / (c:Rat)):=by
 have h0:(c:Rat)≠0:=λe=>hc (by exact_mod_cast e)
 rw [<-zJ h0];unfold Gf;rw [if_neg (Jf (Di _) (λe=>hc (by simpa using e)))];refine Qs.divInt (by show Fe (1*1)<=_; decide) ?_ (by decide);show Fe (1*c)<=_;rw [Kq]; omega
theorem pE {p:Um} {c:Int} (hc:c≠0) (hs:Fe c<=9000000) (hd:∀ j,c∣p.getD j 0) (hp:Bd 9000000 p) (hl:p.length<=1000):Uj 221 [.one (rp (zp p)),.agg (fr (((1:Int):Rat) / (c:Rat)))] [.one (rp (zp (A1 p.length λi=>p.getD i 0 / c)))]:=by
 have h:=BL ((zK hp (by omega)).mono (by omega)) (Qvv hc hs) (by rw [A0]; omega);rwa [show ((1:Int):Rat)=1 from rfl,cG hc hd] at h
theorem QF {p:Um} (tp:Ff p) (hp:Bd 9000000 p) (hl:p.length<=1000):Uj 189 [.one (rp (zp p))] [.agg (fr ((Ed p:Int):Rat)),.one (rp (zp (To p)))]:=by
 have hpl:=OA p;rcases Q3 p.length with h0 | h0
 ·have e:=Qj h0;subst e;exact Ug func189 rfl [.t rfl,.k Qfm] rfl
 have hc:=Qhc tp h0;refine Fw func189 rfl ?_;refine Ud [.F,.k (ZL (n:=1) (by decide))] rfl ?_;refine Ui (S:=Nat) 2 (λL1 i=>(16,.v (.oi i))::L1) (λi=>[.blk 51 [.nils,.bool false,.nils,.bool false],.blk 49 (ri 1)]) (λi=>p.length-i) (λi=>i<=p.length) 0 (Qh _) rfl rfl λi hi=>?_
 by_cases h:i<p.length
 ·refine Ue [.T,.x (So h),.k Qtw,.x (So h),.k Qnj,.k (lF (z:=1) (by decide))] rfl ?_;exact rd (i+1) (by omega) h rfl
 refine Ud [.F] rfl ?_;clear h hi;refine nlb 2 rfl rfl rfl ?_;rw [Qp5];refine Ui (S:=Nat) 3 (λL1 i=>(37,.v (.oi i))::L1) (λi=>[.blk 51 [.nils,.bool false,.nils,.bool false],.blk 49 (ri 1),.blk 49 (ri ((I3 p i:Nat):Int))]) (λi=>p.length-i) (λi=>i<=p.length) 0 (Qh _) rfl rfl λi hi=>?_
 by_cases h:i<p.length
 ·have hb:=Fu hp i;have hg:=ZA hp i;refine Ue [.T,.x (So h),.k (Qmy (z:=p.getD i 0) (by omega)),.x (So h),.k (lF (z:=p.getD i 0) (by omega)),.k (xO (a:=((I3 p i:Nat):Int)) (b:=p.getD i 0) (by omega) (by omega))] rfl ?_;exact rd (i+1) (by omega) h rfl
 have e:i=p.length:=by omega
 rw [e];have co:=KU (n:=1) (by decide);have cs:=pE hc (OU hp) (Qb6 p) hp hl;by_cases hn:Hh p<0
 ·have e2:Ed p=-((US p:Nat):Int):=if_pos hn;rw [show (λi=>p.getD i 0 / Ed p)=λi=>p.getD i 0 / Ed p from rfl] at cs;have cn:=Qes (z:=((US p:Nat):Int));rw [<-e2] at cn;exact Uf [.F,.k (Ac (n:=((US p:Nat):Int))),.r 62 (eI (b:=((p.length-1:Nat):Int)) (by omega)),.x (So (p:=p) (i:=p.length-1) (by omega)),.t (decide_eq_true hn),.k cn,.k co,.k (pD (a:=((1:Int):Rat)) (b:=((Ed p:Int):Rat)) ⟨by decide,by decide⟩ (Au (by have:=OU hp; omega) (by decide)) (λe=>hc (by exact_mod_cast e))),.k cs] rfl rfl (by simp [U4]; omega)
 ·have e2:Ed p=((US p:Nat):Int):=if_neg hn;have cm:=Ac (n:=Ed p);rw [e2] at cm cs hc ⊢;exact Uf [.F,.k cm,.r 62 (eI (b:=((p.length-1:Nat):Int)) (by omega)),.x (So (p:=p) (i:=p.length-1) (by omega)),.f (decide_eq_false hn),.k co,.k (pD (a:=((1:Int):Rat)) (b:=((((US p:Nat):Int):Int):Rat)) ⟨by decide,by decide⟩ (Au (by have:=ZA hp p.length; unfold US; omega) (by decide)) (λe=>hc (by exact_mod_cast e))),.k cs] rfl (by unfold To; rw [e2]; rfl) (by simp [U4]; omega)
theorem QU {p:Um} (tp:Ff p) (hp:Bd 9000000 p) (hl:p.length<=1000):Uj 116 [.one (rp (zp p))] [.one (rp (zp (To p)))] :=
 Ug func116 rfl [.k (QF tp hp hl)] rfl
theorem OF {p:Um} (tp:Ff p):Ed p<0↔Hh p<0:=by
 unfold Ed;rcases Q3 p.length with h0 | h0
 ·have:=Qj h0; subst this; decide
 ·have:=uZ tp h0
  split <;> omega
theorem Qfv {p:Um} (hp:Bd 9000000 p) (hl:p.length<=1000000):Uj 157 [.one (rp (zp p))] [.one (rp (zp (Mq p)))]:=by
 have h:=Qfz ((zK hp (by decide)).mono (by decide)) (by rw [A0]; exact hl);rwa [oN] at h
theorem wN {p:Um} (tp:Ff p) (hp:Bd 9000000 p) (hl:p.length<=1000):Uj 156 [.one (rp (zp p))] [.one (rp (zp (Bj p)))]:=by
 by_cases hn:Hh p<0
 ·have e:Bj p=Mq (To p):=if_pos hn;rw [e];exact Ug func156 rfl [.k (QF tp hp hl),.t (decide_eq_true ((OF tp).2 hn)),.k (Qfv (BZ hp) (Qa (RP p) (by omega)))] rfl
 ·have e:Bj p=To p:=if_neg hn;rw [e];exact Ug func156 rfl [.k (QF tp hp hl),.f (decide_eq_false λh=>hn ((OF tp).1 h))] rfl
end Orr
namespace Orr
section
variable {x d:Int} (hd:0<d) (hg:Int.gcd x d=1) (hx:Fe x<=2000000) (hs:Fe d<=2000000)
include hd in
include hd in
include hd in
include hd hx hs in
include hd hx hs in
include hd hx hs in
include hd hg hx hs in
include hd hg hx hs in
end
end Orr
namespace Orr
open Go Go.Proofs Tryz
set_option maxRecDepth 10000
theorem Qty {a b g:Um} {n:Nat} (ta:Ff a) (tb:Ff b) (ha:Bd 9000000 a) (hb:Bd 9000000 b) (la:a.length<=1000) (lb:b.length<=1000) (hrun:GRun n (To a) (To b) g):Uj 161 [.one (rp (zp a)),.one (rp (zp b))] [.one (rp (zp g))]:=by
 refine Fw func161 rfl ?_;refine Ud [.k (QU ta ha la),.k (QU tb hb lb)] rfl ?_;refine sb [(0,.v (.one (rp (zp (To a))))),(1,.v (.one (rp (zp (To b)))))] [] rfl rfl ?_;refine Ui (S:=Nat×Um×Um) 0 (λL1 s=>(0,.v (.one (rp (zp s.2.1))))::(1,.v (.one (rp (zp s.2.2))))::L1) (λ_=>[]) (λs=>s.1) (λs=>GRun s.1 s.2.1 s.2.2 g) (n,To a,To b) hrun rfl rfl λ⟨k,x,y⟩ hs=>?_
 have hs:GRun k x y g:=hs;have hyl:=OA y;rcases hs.inv with ⟨hk,hy0,hxg⟩ | ⟨j,m2,r,hk,hy0,hy1,hyb,hrr,hrl,hrb,hrt,hgr⟩
 ·rw [<-hxg];exact Uf [.f (decide_eq_false (by dsimp only; omega))] rfl
 ·subst hk;refine Ud [.t (decide_eq_true (by dsimp only; omega)),.k (lC (a0:=x) (b:=y) (res:=r) hy0 hy1 hyb hrr),.k (QU (p:=r) hrt hrb hrl)] rfl ?_;exact rd (j,y,To r) (by dsimp only; omega) hgr rfl
theorem Qm1 {x y:Int} (hx:Fe x<=9000000) (hy:Fe y<=9000000) (h0:y≠0) (hd:y∣x):Uj 247 [.agg (fr (x:Rat)),.agg (fr (y:Rat))] [.agg (fr ((x / y:Int):Rat))]:=by
 have hy0:(y:Rat)≠0:=λe=>h0 (by exact_mod_cast e)
 have h:=pD (Au (s:=40000000) (z:=x) (by omega) (by omega)) (Au (s:=40000000) (z:=y) (by omega) (by omega)) hy0;obtain ⟨k,rfl⟩:=hd;rw [Jc _ h0];rwa [show (((y*k:Int):Rat)) / (y:Rat)=(k:Rat) by rw [Xz]; grind] at h
theorem Qbn {p:Um} {c:Int} (hp:Bd 40000000 p) (hc:Fe c<=40000000) (hl:p.length<=1000000):Uj 221 [.one (rp (zp p)),.agg (fr (c:Rat))] [.one (rp (zp (Fv p c)))]:=by
 have h:=BL (zK hp (by omega)) (Au hc (by omega)) (by rw [A0]; exact hl);rwa [zF] at h
theorem Qql (k:Nat) (p:Um):frow (zp (List.replicate k 0))++frow (zp p)=frow (zp (ZZ k p)):=by simp [zp,ZZ,frow]
theorem Qb9 (l:Um) (i:Nat) (z:Int):(frow (zp l)).set i [nd ((z:Rat)).num.natAbs,sg ((z:Rat)).num,nd (((z:Rat)).den:Int).natAbs,sg (((z:Rat)).den:Int)]=frow (zp (l.set i z)):=fQ l i z
theorem Qns {p q:Um} (hp:Bd 18000000 p) (hq:Bd 18000000 q) (hlp:p.length<=1000000) (hlq:q.length<=1000000):U7 prog 262 [.one (rp (zp p)),.one (.orow 0 4 none)] [.row false 51 4 (frow (zp q))] [.one (rp (zp (M4 p q)))] [.gone]:=by
 have hn:=Qfz ((zK hq (by decide)).mono (by decide)) (by rw [A0]; exact hlq);have ha:=Qtx (p:=zp p) (q:=vW (zp q)) ((zK hp (by decide)).mono (by decide)) ((Qvx (zK hq (by decide))).mono (by decide)) (by rw [A0]; exact hlp) (Qa (Qj4 _) (by rw [A0]; exact hlq));have e:Qc1 (zp p) (vW (zp q))=zp (M4 p q):=Qp9 p q;rw [e] at ha;refine Fw func262 rfl ?_;exact Uh [] [0] [.k hn,.k ha] rfl
theorem Qbo {a0 b qf rem:Um} {n:Nat} (hb0:0<b.length) (hb1:b.length<=1000) (hl0:a0.length<=1000) (hbb:Bd 9000000 b) (hqb:Bd 9000000 qf) (hrun:DRun b n a0 (List.replicate (a0.length+1-b.length) 0) qf rem):Uj 230 [.one (rp (zp a0)),.one (rp (zp b))] [.one (rp (zp (trim qf))),.one (rp (zp rem))]:=by
 have h0l:=OA a0;have hbl:=OA b;obtain ⟨N,hN⟩:=nmE (a0.length+1-b.length);rw [<-hN] at hrun;have cc:=KH (p:=zp qf);rw [Ex] at cc;refine Fw func230 rfl ?_;refine Ue [.r 18 (eI (b:=(N:Int)) (by omega)),.i N,.i N,.r 21 (eI (b:=(N:Int)) (by simp))] rfl ?_;refine Ui (S:=Nat) 1 (λL1 i=>(22,.v (.oi i))::L1) (λi=>[.row false 51 4 (List.replicate i (fr 0)++List.replicate (N-i) zR)]) (λi=>N-i) (λi=>i<=N) 0 (Qh _) rfl rfl λi hi=>?_
 by_cases hlt:i<N
 ·refine Ue [.T,.k Qfm,.i i] rfl ?_;rw [jP hlt];exact rd (i+1) (by omega) hlt rfl
 have hiN:i=N:=by omega
 rw [hiN,AH];clear hiN hlt hi;refine Ud [.F] rfl ?_;refine sb [(0,.v (.one (rp (zp a0)))),(1,.v (.one (rp (zp b)))),(6,.v (.one (.orow 0 4 none)))] [.row false 51 4 (frow (zp (List.replicate N 0)))] rfl rfl ?_;refine Ui (S:=Nat×Um×Um) 1 (λL1 s=>(0,.v (.one (rp (zp s.2.1))))::L1) (λs=>[.row false 51 4 (frow (zp s.2.2))]) (λs=>s.1) (λs=>DRun b s.1 s.2.1 s.2.2 qf rem/\s.2.2.length=N) (n,a0,List.replicate N 0) ⟨hrun,Jd⟩ rfl rfl λ⟨k,a,q⟩ ⟨hr0,hr1⟩=>?_
 have hr0:DRun b k a q qf rem:=hr0;have hr1:q.length=N:=hr1;have hal:=OA a;have hql:=OA q;rcases hr0.inv with ⟨hk,hqf,har,hlt⟩ | ⟨j,hk,hba,hal2,hab,hpb,hpd,hkq,hrj⟩
 ·subst hqf; subst har;exact Uf [.f (decide_eq_false (by dsimp only; omega)),.k cc] rfl
 subst hk;obtain ⟨K,hK⟩:=nmE (a.length-b.length);rw [<-hK] at hrj hkq;have hla:Fe (Hh a)<=9000000:=Fu hab _;have hlb:Fe (Hh b)<=9000000:=Fu hbb _;obtain ⟨c,hc⟩:=nmE (Hh a / Hh b);have cq:=Qm1 hla hlb hpb hpd;have hcs:Fe (Hh a / Hh b)<=9000000:=Qa (XT _ _) hla;rw [<-hc] at cq hcs hrj;have hsl:=Fy b c;have hqs:∀ x,(q.set K x).length=N:=λx=>by rw [Xd]; exact hr1
 dsimp only;refine go tt [.T,.r 39 (eI (b:=(K:Int)) (by omega)),.r 43 (eI (b:=((a.length-1:Nat):Int)) (by omega)),.x (So (p:=a) (i:=a.length-1) (by omega)),.r 49 (eI (b:=((b.length-1:Nat):Int)) (by omega)),.x (So (p:=b) (i:=b.length-1) (by omega)),.k cq,.i K,.i K,.i K,.r 60 (eI (b:=(K:Int)) (by simp))] rfl (by simp [U4,hql] <;> omega) ?_;rw [Qb9];refine Ui (S:=Nat) 3 (λL1 i=>(61,.v (.oi i))::L1) (λi=>[.row false 51 4 (frow (zp (q.set K c))),.blk 51 (fr (c:Rat)),.row false 51 4 (List.replicate i (fr 0)++List.replicate (K-i) zR)]) (λi=>K-i) (λi=>i<=K) 0 (Qh _) rfl rfl λi hi=>?_
 by_cases hlt:i<K
 ·refine Ue [.T,.k Qfm,.i i] rfl ?_;rw [jP hlt];exact rd (i+1) (by omega) hlt rfl
 have hiK:i=K:=by omega
 rw [hiK,AH];clear hiK hlt hi;have hzl:=OA (List.replicate K 0);rw [Jd] at hzl;have hpl:=OA (Fv b c);refine Ud [.F] rfl ?_;refine sb [(10,.v (.one (.orow 2 4 none))),(9,.v (.one (.ow 1 0))),(0,.v (.one (rp (zp a)))),(1,.v (.one (rp (zp b)))),(6,.v (.one (.orow 0 4 none)))] [.row false 51 4 (frow (zp (q.set K c))),.blk 51 (fr (c:Rat)),.row false 51 4 (frow (zp (List.replicate K 0)))] rfl rfl ?_;have p2:=Qns (p:=a) (q:=ZZ K (Fv b c)) (U6 hab (by decide)) (U6 (Qat (Gg hbb hcs)) (by decide)) (by omega) (by rw [cM]; omega);rw [<-Qql] at p2;refine go tt [.k (Qbn (c:=c) (U6 hbb (by decide)) (by omega) (by omega)),.s (sz:=4) (Qb8 (zp (Fv b c))),.c [2] p2] rfl (by simp [U4,hzl,hpl]; omega) ?_;exact rd (j,M4 a (ZZ K (Fv b c)),q.set K c) (by dsimp only; omega) ⟨hrj,hqs c⟩ rfl
def sP (l:Un):Us:=l.map λp=>[rp (zp p)]
theorem VH (l:Un):(sP l).length=l.length:=by simp [sP]
theorem HQ (l:Un) (g:Um):sP l++[[rp (zp g)]]=sP (l++[g]):=by simp [sP]
theorem VG {l:Un} {i:Nat} (h:i<l.length):(sP l)[i]? = some [rp (zp (l.getD i []))]:=G6 (nJ h)
theorem Qpe (x:LV):∀ c∈[[x]],c.length=1:=λc hc=>by rw [Qk.1 hc]; rfl
theorem BD {a b q:Um} (h:DOk a b q):∃ r,Uj 230 [.one (rp (zp a)),.one (rp (zp b))] [.one (rp (zp q)),.one (rp (zp r))]:=by
 obtain ⟨h1,h2,h3,h4,qf,r,n,h5,h6,h7,rfl⟩:=h;exact ⟨r,Qbo h1 h2 h3 h4 h5 h7⟩
theorem mJ {a:Um} {mf:Nat} {f:Nat->Um} (ta:Ff a) (ha:Bd 9000000 a) (la:a.length<=1000) (h2:2<=a.length) (hF:FRun a mf f):Uj 164 [.one (rp (zp a))] [.one (.row (sP (EI f mf)))]:=by
 obtain ⟨⟨n,ls,hrun,hlen,hq⟩,hms⟩:=hF;have hal:=OA a;refine Fw func164 rfl ?_;refine Ud [.F,.k (QU ta ha la),.o 3 87 1,.lo] rfl ?_;refine sb [(3,.v (.one (.orow 0 1 none))),(4,.v (.one (.orow 1 1 none)))] [.row false 87 1 [],.row false 87 1 (sP [To a])] rfl rfl ?_;refine Ui (S:=Nat×Un) 2 (λL1 s=>(4,.v (.one (.orow 1 1 none)))::L1) (λs=>[.row false 87 1 [],.row false 87 1 (sP s.2)]) (λs=>s.1) (λs=>LRun s.1 s.2 ls/\0<s.2.length/\s.2.length<=1001) (n,[To a]) ⟨hrun,by show 0<1; decide,by show 1<=1001; decide⟩ rfl rfl λ⟨k,l⟩ ⟨hs1,hs2,hs3⟩=>?_
 have hs1:LRun k l ls:=hs1;have hs2:0<l.length:=hs2;have hs3:l.length<=1001:=hs3;have hll:=VH l;have hlast:(sP l)[l.length-1]? = some [rp (zp (My l))]:=VG (by omega);have hpl:=OA (My l);dsimp only;rcases hs1.inv with ⟨hk,hlf,hl1⟩ | ⟨j,m2,g,hk,hg1,hg2,hg3,hg4,hg5,hg6,hg7,hlr⟩
 ·have hlm:l.length=mf+1:=by rw [hlf]; exact hlen
  rw [<-hlf] at hq;have hl2:=VH (l++[[1]]);have hl3:(l++[[1]]).length=mf+2:=by simp [hlm]
  refine go tt [.r 23 (eI (b:=((l.length-1:Nat):Int)) (by omega)),.i (l.length-1),.x hlast,.F,.k Qf0,.s (sz:=1) (Qpe _)] rfl (by simp [U4,hll]; omega) ?_;rw [HQ];refine Ui (S:=Nat) 2 (λL1 i=>(6,.v (.oi i))::(3,.v (.one (.orow 0 1 none)))::L1) (λi=>[.row false 87 1 (sP (EI f i)),.row false 87 1 (sP (l++[[1]]))]) (λi=>mf-i) (λi=>i<=mf) 0 (Qh _) rfl rfl λi hi=>?_
  have htl:=VH (EI f i);rw [tI] at htl;by_cases h:i<mf
  ·obtain ⟨x,y,z,hx,hy,hz,hf⟩:=hq i h;obtain ⟨rx,hdx⟩:=BD hx;obtain ⟨ry,hdy⟩:=BD hy;obtain ⟨rz,hdz⟩:=BD hz;refine go tt [.T,.i i,.x (VG (by omega)),.i (i+1),.x (VG (by omega)),.k hdx,.i (i+1),.x (VG (by omega)),.i (i+2),.x (VG (by omega)),.k hdy,.k (QU hx.trim hx.bd hx.len),.k (QU hy.trim hy.bd hy.len),.k hdz,.k (QU hz.trim hz.bd hz.len),.s (sz:=1) (Qpe _)] rfl (by simp [U4,hl2,htl]; omega) ?_;exact rd (i+1) (by omega) h (by rw [HQ,Qdc,hf]; rfl)
  ·have e:i=mf:=by omega
   rw [e];exact Uf [.F] rfl rfl (by simp [U4]; omega)
 ·subst hk;refine go tt [.r 23 (eI (b:=((l.length-1:Nat):Int)) (by omega)),.i (l.length-1),.x hlast,.T,.r 31 (eI (b:=((l.length-1:Nat):Int)) (by omega)),.i (l.length-1),.x hlast,.k (Qfy (U6 hg4 (by decide)) (by omega)),.k (Qty hg3 (Fz _ _) hg4 hg5 hg2 (Qa (Nb _) (by omega)) hg6),.s (sz:=1) (Qpe _)] rfl (by simp [U4,hll]; omega) ?_;exact rd (j,l++[g]) (by dsimp only; omega) ⟨hlr,by simp,by simp; omega⟩ (by rw [HQ]; rfl)
theorem Qbp {a:Um} {mf:Nat} {f:Nat->Um} (ta:Ff a) (ha:Bd 9000000 a) (la:a.length<=1000) (h2:2<=a.length) (hF:FRun a mf f) (hP:Qw6 mf f):Uj 155 [.one (rp (zp a))] [.one (rp (zp (Oy f mf)))]:=by
 have hms:=hF.small;have hal:=OA a;have htl:=VH (EI f mf);rw [tI] at htl;refine Fw func155 rfl ?_;refine Ud [.F,.k Qf0,.k (mJ ta ha la h2 hF)] rfl ?_;refine Ui (S:=Nat) 0 (λL1 i=>(15,.v (.oi i))::(3,.v (.one (rp (zp (Oy f i)))))::L1) (λ_=>[]) (λi=>mf-i) (λi=>i<=mf) 0 (Qh _) rfl rfl λi hi=>?_
 by_cases h:i<mf
 ·obtain ⟨g1,g2,g3,g4⟩:=hP i h;refine Ue [.T,.x (G6 (f:=λp=>[rp (zp p)]) (Qk3 h)),.k (Qtz (p:=Oy f i) (q:=f i) (by omega) (by omega) g1 g3 (by decide))] rfl ?_;exact rd (i+1) (by omega) h rfl
 ·have e:i=mf:=by omega
  rw [e];exact Uf [.F] rfl
theorem Qci {l:Un} (g:Um) (h:0<l.length):(sP l++[[rp (zp g)]])[l.length-1]? = some [rp (zp (My l))]:=by
 rw [Zi (by rw [VH]; omega)];exact VG (by omega)
theorem Qfx {a sq:Um} {c:Un} (ta:Ff a) (ha:Bd 9000000 a) (la:a.length<=1000) (h2:2<=a.length) (hC:ChRun a sq c):Uj 88 [.one (rp (zp a))] [.one (.row (sP c))]:=by
 obtain ⟨⟨mf,f,hF,hP,rfl⟩,⟨n,hcr⟩,hbd,hle,hsm⟩:=hC;refine Fw func88 rfl ?_;refine Ud [.k (Qbp ta ha la h2 hF hP),.lo,.k (Qfy (p:=Oy f mf) (U6 hbd (by decide)) (by omega)),.k (wN (p:=Gx (Oy f mf)) (Fz _ _) (U6 (xH (t:=10) hbd (by omega)) (by decide)) (Qa (Nb _) (by omega)))] rfl ?_;refine sb [(5,.v (.one (rp (zp (Bj (Gx (Oy f mf))))))),(4,.v (.one (.orow 0 1 none)))] [.row false 87 1 (sP [Oy f mf])] rfl rfl ?_;refine Ui (S:=Nat×Un×Um) 1 (λL1 s=>(5,.v (.one (rp (zp s.2.2))))::(4,.v (.one (.orow 0 1 none)))::L1) (λs=>[.row false 87 1 (sP s.2.1)]) (λs=>s.1) (λs=>CRun s.1 s.2.1 s.2.2 c/\0<s.2.1.length/\s.2.1.length<=1001) (n,[Oy f mf],Bj (Gx (Oy f mf))) ⟨hcr,by show 0<1; decide,by show 1<=1001; decide⟩ rfl rfl λ⟨k,l,g⟩ ⟨hs1,hs2,hs3⟩=>?_
 have hs1:CRun k l g c:=hs1;have hs2:0<l.length:=hs2;have hs3:l.length<=1001:=hs3;have hll:=VH l;have hgl:=OA g;dsimp only;rcases hs1.inv with ⟨hk,hlf,hg0⟩ | ⟨j,m2,r,hk,hg1,hg2,hg3,hrr,hrt,hrb,hrl,hl0,hl1,hcj⟩
 ·subst hlf;exact Uf [.F] rfl
 ·subst hk;refine go tt [.T,.s (sz:=1) (Qpe _),.r 23 (eI (b:=((l.length-1:Nat):Int)) (by simp; omega)),.i (l.length-1),.x (Qci g hl0),.k (lC (a0:=My l) (b:=g) (res:=r) hg1 hg2 hg3 hrr),.k (wN (p:=r) hrt hrb hrl),.k (Qfv (p:=Bj r) (Qas hrb) (Qa (nR r) (by omega)))] rfl (by simp [U4,hll]; omega) ?_;exact rd (j,l++[g],Mq (Bj r)) (by dsimp only; omega) ⟨hcj,by simp,by simp; omega⟩ (by rw [HQ]; rfl)
theorem Qxb {q:Rat} (h1:Fe q.num<=2000000) (h2:Fe (q.den:Int)<=2000000):Bd 9000000 [-q.num,(q.den:Int)]:=λz hz=>by
 simp only [Qm,Jm,or_false] at hz;rcases hz with rfl | rfl
 ·rw [Hn]; omega
 ·omega
abbrev aq (q:Rat) (c:Un):Ur:=[rp (zp [-q.num,(q.den:Int)]),.row (sP c)]++fr q++fr q
theorem wM {q:Rat} {c:Un} (hq:Qs 2000000 q) (hC:Qdu q c):Uj 31 [.agg (fr q)] [.agg (aq q c)]:=by
 obtain ⟨sq,hch⟩:=hC;have co:=ZL (n:=1) (by decide);exact Ug func31 rfl [.k co,.k (Ac (n:=q.num)),.k (Qes (z:=q.num)),.k co,.k (Ac (n:=(q.den:Int))),.k (Qfx (a:=[-q.num,(q.den:Int)]) (Qah q) (Qxb hq.1 hq.2) (by show 2<=1000; decide) (Ql 2) hch)] rfl
end Orr
namespace Orr
end Orr
namespace Orr
open Go Go.Proofs Tryz
set_option maxRecDepth 10000
structure Rs (k:Crv):Prop where
 n:ZB k
 c:Cs 100000 16 k



theorem Qoz (l:Uo) (n:Nat):(lm l).take (min l.length n)=lm (l.take n):=by
 rw [lm,lm,<-Jv];rcases Nat.le_total l.length n with h | h
 ·rw [Zx h,Q6,Qo h]
 ·rw [V3 h]
theorem Qtu {l:Uo} {n:Nat} (hn:n<=1000):Uj 264 [.one (.row (lm l)),.oi n] [.one (.row (lm (l.take n)))]:=by
 rw [<-Qoz];have hll:(lm l).length=l.length:=by simp [lm]
 exact Ug func264 rfl [.r 9 (eI (b:=((min l.length n:Nat):Int)) (by omega)),.i (min l.length n)] rfl rfl (by simp [U4,hll]; omega)
def Im (l:List RawInt):Us:=l.map L8
theorem O5 (l:List RawInt):(Im l).length=l.length:=by simp [Im]
abbrev rcw (z:RawPt):Ur:=[.row (Im z.x),.row (Im z.y),.bool z.d.b,.row (lm z.d.l)]
theorem UG {z:RawInt} (hz:z.Ok) {most:Int} (hm:0<=most/\most<=999):Uj 204 [.agg (L8 z),.oi most] [.agg (Hg (H6 most z))]:=by
 obtain ⟨b,l⟩:=z;have hb:=WX hm.1 ⟨b,l⟩;have hs:Fe (H6 most ⟨b,l⟩)<=100000000:=Qa (Sf.2 (show (H6 most ⟨b,l⟩).natAbs<2^10 by omega)) (by decide);cases l with
 | nil=>exact Ug func204 rfl [.t rfl] rfl (by simp [H6,Li]) trivial
 |
  cons u l =>
  have hu:=hz.u u (Qx ..);have co:=ZL (n:=H6 most ⟨b,u::l⟩) (by omega);have ct:=Qtq hs;have hr:Int.tmod (u:Int) (most+1)=(u:Int) % (most+1):=Y5 (by omega);have h1:=Ye (u:Int) (b:=most+1) (by omega);have h2:=Js (u:Int) (b:=most+1) (by omega);cases b with
  |
   true =>
   rw [show H6 most ⟨true,u::l⟩=-((u:Int) % (most+1)) from rfl] at co ct ⊢;exact Ug func204 rfl [.f (decide_eq_false (by simp [lm]; try omega)),.x (l:=lm (u::l)) (i:=0) (xs:=[.int .u32 (u:Int)]) rfl,.r 18 (eI hr),.t rfl,.k co,.k ct] rfl rfl (by simp [U4]; omega)
  |
   false =>
   rw [show H6 most ⟨false,u::l⟩=(u:Int) % (most+1) from rfl] at co ct ⊢;exact Ug func204 rfl [.f (decide_eq_false (by simp [lm]; try omega)),.x (l:=lm (u::l)) (i:=0) (xs:=[.int .u32 (u:Int)]) rfl,.r 18 (eI hr),.f rfl,.k co,.k ct] rfl rfl (by simp [U4]; omega)
theorem oz2 {P:Program} [Mo P] {n:Nat} {Q:Exit->Sg->Ut->Prop} {L L':Sg} {B B':Ut} (d off T sz:Nat) {it:List It} (hs:Rk it=true) (h:bC (P:=P) d L B [.oc d off T sz]=some (L',B',[],[])) (k:AK P n Q it L' B'):AK P n Q it L B:=AK.sub (EF h EqOk.nil) hs k
theorem pz {P:Program} [Mo P] {n:Nat} {Q:Exit->Sg->Ut->Prop} {L L':Sg} {B B':Ut} (i:Nat) {it:List It} (hs:Rk it=true) (h:Qcz [i] L B=some (L',B')) (k:AK P n Q it L' B'):AK P n Q it L B:=AK.sub (GX h) hs k
def An (l:Um):Us:=l.map Hg
theorem qF (l:Um):(An l).length=l.length:=by simp [An]
theorem RD {most:Int} {l:List RawInt} {i:Nat} {a:RawInt} (hi:i<3) (h:l[i]? = some a):An (Gq most (l.take (i+1)))=An (Gq most (l.take i))++[Hg (H6 most a)]:=by
 rw [yJ hi h]; simp [An]
theorem yZ {most:Int} {l:List RawInt} {i:Nat} (hi:i<=3) (h:i<=l.length):(An (Gq most (l.take i))).length=i:=by
 rw [qF]; unfold Gq; rw [List.length_map,List.length_take,List.length_take]; omega
theorem Qm7 {n d:Int} (hn:-9223372036854775808<=n/\n<=9223372036854775807) (hd:-9223372036854775808<=d/\d<=9223372036854775807):Uj 39 [.oi n,.oi d] [.agg (fr (Gf (S6 n 61-30) (1+S6 d 6)))]:=by
 have h1:S6 n 61=n % 61:=rfl;have h2:S6 d 6=d % 6:=rfl;exact Ug func39 rfl [.k (Cd (v:=n) (n:=61) hn (by decide)),.k (Cd (v:=d) (n:=6) hd (by decide)),.k (Qrm (n:=S6 n 61-30) (d:=1+S6 d 6) (by omega) (by omega))] rfl rfl (by simp [U4]; omega)
def rwq (z:RawPt):Ur:=rcw z++[.int .i64 z.id]
end Orr
namespace Orr
open Go Go.Proofs Tryz Orq
set_option maxRecDepth 10000
end Orr
namespace Orr
open Go Go.Proofs Tryz
set_option maxRecDepth 10000
abbrev run1:Crv:=⟨[0,1],[],1⟩
theorem LP:ZB run1:=⟨rfl,rfl,by decide,by decide⟩
theorem cs_run1:Cs 3 3 run1:=by
 refine ⟨λz hz=>?_,λz hz=>(by cases hz),by decide,by decide,by decide⟩;rcases Qm.1 hz with rfl | hz
 ·decide
 ·rw [Qk.1 hz]; decide
theorem Cs.up {s n s' n':Nat} {k:Crv} (h:Cs s n k) (hs:s<=s') (hn:n<=n'):Cs s' n' k:=⟨U6 h.x hs,U6 h.y hs,Qa h.d hs,Qa h.lx hn,Qa h.ly hn⟩
end Orr
namespace Orr
open Go Go.Proofs Tryz Orq
set_option maxRecDepth 10000
abbrev PG:List Pt:=[⟨run1,1⟩,⟨O7 1 0,2⟩]
theorem Qws:(Tu (tq 0) PG).map (·.id)=[1,2]:=by decide +kernel
theorem Qqd:Sc run1:=⟨LP,cs_run1.up (by decide) (by decide)⟩
theorem Qzc:∀ p∈PG,Sc p.c:=λp hp=>by
 rcases Qm.1 hp with rfl | hp
 ·exact Qqd
 ·rw [Qk.1 hp]; exact tW (by decide) (by decide)


theorem BM {c:Cr} {l l':List Pt} {r1:Us×Us} {ws:List Wt} (hc:CrOk c) (hl:∀ p∈l',Sc p.c) (hn:l'.length≤1000) (h:Tl c.l c.now (Fx (xG l' c.now))=some ws) :
 U7 prog 421 [.one (.ow 0 0),.agg [pts l'],.oi 0] [.blk 223 (Tt c (U3 l) r1)] [.oi 0] [.blk 223 (Tt ⟨c.now,ws,c.ev⟩ (U3 l') (pR l' c.now))]:=by
 have hB:=pJ hl hn;have cn:=pI (T:=223) (c:=c) (r0:=U3 l') (r1:=r1) hc.n;have cb:=IN (c:=c) (r1:=r1) hl hn hc.n;have cg:=Qbd (T:=223) (r0:=U3 l') (r1:=pR l' c.now) hc hc.n (I2 hc.n) (Yd 0) (hB.p _ hc.n) (hB.n _ hc.n) h;refine Fw func421 rfl ?_;exact Uh [] [0] [.f rfl,.c [0] cn,.c [0] cb,.c [0] cg] rfl
theorem Qnf {lx ly:Us} {px py:Um} {x y:LV} {d id:Int} {c:Cr} {l:List Pt} {r1:Us×Us} {ws:List Wt} (hx:IsInts lx px) (hy:IsInts ly py) (hd:Ge x y d) (hk:Cs 4294967294 1073741824 (Crv.mk px py d)) (hll:l.length<=900)
 (he:WH l ⟨Crv.norm (Crv.mk px py d),id⟩=0) (hc:CrOk c) (hl:∀ p∈put l ⟨Crv.norm (Crv.mk px py d),id⟩,Sc p.c) (hn:(put l ⟨Crv.norm (Crv.mk px py d),id⟩).length≤1000) (h:Tl c.l c.now (Fx (xG (put l ⟨Crv.norm (Crv.mk px py d),id⟩) c.now))=some ws) :
 U7 prog 419 [.one (.ow 0 0),.agg [.row lx,.row ly,x,y,.int .i64 id]] [.blk 223 (Tt c (U3 l) r1)] [.oi 0] [.blk 223 (Tt ⟨c.now,ws,c.ev⟩ (U3 (put l ⟨Crv.norm (Crv.mk px py d),id⟩)) (pR (put l ⟨Crv.norm (Crv.mk px py d),id⟩) c.now))]:=by
 have cp:=wF (l:=l) (id:=id) hx hy hd hk (by omega);rw [if_pos he,he] at cp;have cw:=BM (l:=l) (r1:=r1) hc hl hn h;refine Fw func419 rfl ?_;obtain ⟨b,l',rfl,rfl,_⟩:=hd;exact Uh [] [0] [.k cp,.c [0] cw] rfl
theorem Qfd {lx ly:Us} {px py:Um} {x y:LV} {d id:Int} {c:Cr} {l l':List Pt} {r1:Us×Us} {ws:List Wt} (hx:IsInts lx px) (hy:IsInts ly py) (hd:Ge x y d) (hk:Cs 4294967294 1073741824 (Crv.mk px py d)) (hll:l.length<=1000) (h:has l id=true) (hc:CrOk c)
 (hl':l'=l.set (Rv l id) (Pt.mk (Crv.norm (Crv.mk px py d)) id)) (hs:∀ p∈l',Sc p.c) (hw:Tl c.l c.now (Fx (xG l' c.now))=some ws) :
 U7 prog 420 [.one (.ow 0 0),.agg [.row lx,.row ly,x,y,.int .i64 id]] [.blk 223 (Tt c (U3 l) r1)] [.oi 0] [.blk 223 (Tt ⟨c.now,ws,c.ev⟩ (U3 l') (pR l' c.now))]:=by
 have ct1:=UU (l:=l) hx hy hd hk (by omega) h;rw [<-hl'] at ct1;have cw:=BM (c:=c) (l:=l) (l':=l') (r1:=r1) hc hs (by rw [hl',Xd]; omega) hw;obtain ⟨b,r,rfl,rfl,_⟩:=hd;refine Fw func420 rfl ?_;exact Uh [] [0] [.k ct1,.c [0] cw] rfl
theorem Qfc {id:Int} {c:Cr} {l l':List Pt} {r1:Us×Us} {ws:List Wt} (hll:l.length<=1000) (h:has l id=true) (hc:CrOk c)
 (hl':l'=l.take (Rv l id)++l.drop (Rv l id+1)) (hs:∀ p∈l',Sc p.c) (hw:Tl c.l c.now (Fx (xG l' c.now))=some ws) :
 U7 prog 418 [.one (.ow 0 0),.oi id] [.blk 223 (Tt c (U3 l) r1)] [.oi 0] [.blk 223 (Tt ⟨c.now,ws,c.ev⟩ (U3 l') (pR l' c.now))]:=by
 have ct1:=UK (l:=l) (id:=id) (by omega) h;rw [<-hl'] at ct1;have cw:=BM (c:=c) (l:=l) (l':=l') (r1:=r1) hc hs (by rw [hl',Qy,Qq,Q8]; omega) hw;refine Fw func418 rfl ?_;exact Uh [] [0] [.k ct1,.c [0] cw] rfl
theorem Qbf {c:Cr} {r0:Us} {r1:Us×Us}:U7 prog 64 [.one (.ow 0 0)] [.blk 223 (Tt c r0 r1)] [.one (.ow 1 0)] [.blk 223 (Tt c r0 r1),.blk 223 (Tt c r0 r1)]:=by
 refine Fw func64 rfl ?_;exact Uh [] [0,1] [] rfl
end Orr
namespace Orq
open Orr Go
def p3j (W:List Pt) (x:Pt) (i j:Nat):List P3:=Lq i W++(H7 j (W.drop (i+1))).map (λm=>(x,m))
def qN (W:List Pt) (x y:Pt) (i j k:Nat):List P3:=Lq i W++(H7 j (W.drop (i+1))++(((W.drop (i+1)).drop (j+1)).take k).map (λz=>(y,z))).map (λm=>(x,m))
theorem LC (W:List Pt) (x:Pt) (i:Nat):p3j W x i 0=Lq i W:=by simp [p3j,H7]
theorem LL (W:List Pt) (x y:Pt) (i j:Nat):qN W x y i j 0=p3j W x i j:=by simp [qN,p3j]
theorem LD {W:List Pt} {x y z:Pt} {i j k:Nat} (h:((W.drop (i+1)).drop (j+1))[k]? = some z):qN W x y i j (k+1)=qN W x y i j k++[(x,y,z)]:=by
 unfold qN;rw [Z1,h]; simp
theorem yB {W:List Pt} {x y:Pt} {i j k:Nat} (hy:(W.drop (i+1))[j]? = some y) (hk:((W.drop (i+1)).drop (j+1)).length<=k):qN W x y i j k=p3j W x i (j+1):=by
 unfold qN p3j;rw [Qo hk,Lk _ j y hy]
theorem yN {W:List Pt} {x:Pt} {i j:Nat} (hx:W[i]? = some x) (hj:j=(W.drop (i+1)).length):p3j W x i j=Lq (i+1) W:=by
 unfold p3j;rw [hj,VV W i x hx]; rfl
theorem Qag {W:List Pt} {i:Nat} (h:i=W.length):Lq i W=Ru W:=by rw [h]; rfl
def p4j (W:List Pt) (x:Pt) (i j:Nat):List P4:=Eu i W++(Lq j (W.drop (i+1))).map (λm=>(x,m))
def p4k (W:List Pt) (x y:Pt) (i j k:Nat):List P4:=Eu i W++(p3j (W.drop (i+1)) y j k).map (λm=>(x,m))
def p4m (W:List Pt) (x y z:Pt) (i j k m:Nat):List P4:=Eu i W++(qN (W.drop (i+1)) y z j k m).map (λm=>(x,m))
theorem Qi9 (W:List Pt) (x:Pt) (i:Nat):p4j W x i 0=Eu i W:=by simp [p4j,Lq]
theorem Qja (W:List Pt) (x y:Pt) (i j:Nat):p4k W x y i j 0=p4j W x i j:=by unfold p4k p4j; rw [LC]
theorem Qjc (W:List Pt) (x y z:Pt) (i j k:Nat):p4m W x y z i j k 0=p4k W x y i j k:=by unfold p4m p4k; rw [LL]
theorem Qjb {W:List Pt} {x y z u:Pt} {i j k m:Nat} (h:(((W.drop (i+1)).drop (j+1)).drop (k+1))[m]? = some u):p4m W x y z i j k (m+1)=p4m W x y z i j k m++[(x,y,z,u)]:=by
 unfold p4m;rw [LD h]; simp
theorem Qpj {W:List Pt} {x y z:Pt} {i j k m:Nat} (hz:((W.drop (i+1)).drop (j+1))[k]? = some z) (hm:(((W.drop (i+1)).drop (j+1)).drop (k+1)).length<=m):p4m W x y z i j k m=p4k W x y i j (k+1):=by
 unfold p4m p4k;rw [yB hz hm]
theorem Qpi {W:List Pt} {x y:Pt} {i j k:Nat} (hy:(W.drop (i+1))[j]? = some y) (hk:k=((W.drop (i+1)).drop (j+1)).length):p4k W x y i j k=p4j W x i (j+1):=by
 unfold p4k p4j;rw [yN hy hk]
theorem Qph {W:List Pt} {x:Pt} {i j:Nat} (hx:W[i]? = some x) (hj:j=(W.drop (i+1)).length):p4j W x i j=Eu (i+1) W:=by
 unfold p4j;rw [hj,TY W i x hx]; rfl
theorem Qp0 {W:List Pt} {i:Nat} (h:i=W.length):Eu i W=O4 W:=by rw [h]; rfl
theorem WU:∀ (k:Nat) (l:List Pt),∃ r,Gt l=H7 k l++r
 | 0,l=>⟨Gt l,rfl⟩
 | k+1,[]=>⟨[],rfl⟩
 |
  k+1,x::l=>by
  obtain ⟨r,h⟩:=WU k l;exact ⟨r,by show l.map _++H7 l.length l=l.map _++H7 k l++r; rw [show H7 l.length l=Gt l from rfl,h,Zd]⟩
theorem AY:∀ (k:Nat) (l:List Pt),∃ r,Ru l=Lq k l++r
 | 0,l=>⟨Ru l,rfl⟩
 | k+1,[]=>⟨[],rfl⟩
 |
  k+1,x::l=>by
  obtain ⟨r,h⟩:=AY k l;exact ⟨r,by show (Gt l).map _++Lq l.length l=(Gt l).map _++Lq k l++r; rw [show Lq l.length l=Ru l from rfl,h,Zd]⟩
theorem rL:∀ (k:Nat) (l:List Pt),∃ r,O4 l=Eu k l++r
 | 0,l=>⟨O4 l,rfl⟩
 | k+1,[]=>⟨[],rfl⟩
 |
  k+1,x::l=>by
  obtain ⟨r,h⟩:=rL k l;exact ⟨r,by show (Ru l).map _++Eu l.length l=(Ru l).map _++Eu k l++r; rw [show Eu l.length l=O4 l from rfl,h,Zd]⟩
theorem iN {W:List Pt} (h6:W.length<=6) {x y:Pt} {i j k:Nat} (hx:W[i]? = some x) (hy:(W.drop (i+1))[j]? = some y):(qN W x y i j k).length<=20:=by
 have h0:=(VQ h6).1;obtain ⟨r,hr⟩:=AY (i+1) W;rw [VV W i x hx] at hr;obtain ⟨r2,hr2⟩:=WU (j+1) (W.drop (i+1));rw [Lk _ j y hy] at hr2;have e1:=congrArg List.length hr;have e2:=congrArg List.length hr2;have e3:(((W.drop (i+1)).drop (j+1)).take k).length<=((W.drop (i+1)).drop (j+1)).length:=by rw [Qq]; exact Nat.min_le_right _ _
 unfold qN;simp only [Qy,Q7] at e1 e2 ⊢;omega
theorem Qpk {W:List Pt} (h6:W.length<=6) {x y z:Pt} {i j k m:Nat} (hx:W[i]? = some x) (hy:(W.drop (i+1))[j]? = some y) (hz:((W.drop (i+1)).drop (j+1))[k]? = some z):(p4m W x y z i j k m).length<=15:=by
 have h0:=(VQ h6).2;obtain ⟨r,hr⟩:=rL (i+1) W;rw [TY W i x hx] at hr;obtain ⟨r1,hr1⟩:=AY (j+1) (W.drop (i+1));rw [VV _ j y hy] at hr1;obtain ⟨r2,hr2⟩:=WU (k+1) ((W.drop (i+1)).drop (j+1));rw [Lk _ k z hz] at hr2;have e1:=congrArg List.length hr;have e2:=congrArg List.length hr1;have e4:=congrArg List.length hr2;have e3:((((W.drop (i+1)).drop (j+1)).drop (k+1)).take m).length<=(((W.drop (i+1)).drop (j+1)).drop (k+1)).length:=by rw [Qq]; exact Nat.min_le_right _ _
 unfold p4m qN;simp only [Qy,Q7] at e1 e2 e4 ⊢;omega
theorem Qcf {sg:Um->Int} (hg:∀ p,-1<=Hk sg p/\Hk sg p<=1) (ps:List P3):kR (Ay (ZP sg ps)):=by
 have key:∀ (ps:List P3) (M:Ny),kR M->kR ((ZP sg ps).foldl (λM e=>L6 M e.1 (.int .i64 e.2)) M):=by
  intro ps
  induction ps with
  | nil=>intro M h; exact h
  | cons m ps ih=>intro M h; exact ih _ (Qh6 h (hg _))
 exact key ps [] Qh5
theorem pG (sg:Um->Int) (T:Ny) (ps:List P4):VB (Oc T (VP sg ps)):=by
 have key:∀ (ps:List P4) (F:Ny),VB F->VB ((VP sg ps).foldl (λF e=>OG T e.2 e.1 F) F):=by
  intro ps
  induction ps with
  | nil=>intro M h; exact h
  | cons m ps ih=>intro M h; exact ih _ (pF h)
 exact key ps [] Qav
theorem zQ (p:Um) (q:Rat):-1<=Re p q/\Re p q<=1:=by
 rw [Nk]; unfold Fg
 split
 ·exact ⟨by decide,by decide⟩
 ·split <;> exact ⟨by decide,by decide⟩
theorem Qko {p:Um} {a:Tm} {s:Int} (h:GG p a=some s):-1<=s/\s<=1:=by
 unfold GG at h
 split at h
 ·injection h with h; subst h; exact ⟨by decide,by decide⟩
 ·split at h
  ·injection h with h; subst h; exact zQ _ _
  ·obtain ⟨g,_,h⟩:=Qd.1 h
   split at h
   ·injection h with h; subst h; exact ⟨by decide,by decide⟩
   ·obtain ⟨c,_,h⟩:=Qd.1 h;obtain ⟨x,_,h⟩:=Qd.1 h;injection h with h; subst h; exact zQ _ _
theorem Qhs (a:Tm) (p:Um):-1<=Hk (Fq a) p/\Hk (Fq a) p<=1:=by
 have hs:∀ p,-1<=Fq a p/\Fq a p<=1:=λp=>by
  unfold Fq;cases h:GG p a with
  | none=>exact ⟨by decide,by decide⟩
  | some s=>exact Qko h
 have key:∀ (k:Nat) (p:Um),-1<=Tx (Fq a) k p/\Tx (Fq a) k p<=1:=by
  intro k
  induction k with
  | zero=>intro p; exact ⟨by simp [Tx],by simp [Tx]⟩
  |
   succ k ih =>
   intro p;simp only [Tx]
   split
   ·exact ⟨by decide,by decide⟩
   ·split
    ·exact ih _
    ·exact hs p
 exact key _ p
end Orq
namespace Orr
open Go Go.Proofs Tryz Orq
set_option maxRecDepth 10000
theorem lV {a b c:Pt} {t:Tm} (ha:Sc a.c) (hb:Sc b.c) (hc:Sc c.c) (ht:Va t):Uj 255 [.oi 3,.agg (ta t),.one (.row [Fc a,Fc b,Fc c])] [.agg (Lx (Lc (Fq t) a b c)),.oi 0]:=by
 have hp:=(YV ha hb hc).dp;have e:Lx (Lc (Fq t) a b c)=[.int .i64 3,.int .i64 a.id,.int .i64 b.id,.int .i64 c.id,.int .i64 0,pl (Hi a.c b.c c.c),.int .i64 (Hk (Fq t) (Hi a.c b.c c.c))]:=by rw [Lc]
 rw [e];have cg:=SQ hp ht;have cf:=wW ha hb hc;generalize Hi a.c b.c c.c=F at *;refine Fw func255 rfl ?_;refine Ud [.k Qbk,.f rfl] rfl ?_;refine Ui (S:=Nat) 3 (λL1 i=>(22,.v (.oi i))::L1) (λi=>[.blk 105 (ta t),.blk 99 zCt,.blk 99 [.int .i64 3,.int .i64 (if 1<=i then a.id else 0),.int .i64 (if 2<=i then b.id else 0),.int .i64 (if 3<=i then c.id else 0),.int .i64 0,.nils,.int .i64 0]]) (λi=>3-i) (λi=>i<=3) 0 (Qh _) rfl rfl λi hi=>?_
 rcases (show i=0\/i=1\/i=2\/i=3 by omega) with rfl | rfl | rfl | rfl
 ·refine Ud [.t rfl,.x (i:=0) (xs:=Fc a) rfl,.i 0] rfl ?_ (by simp [U4]);exact rd 1 (by omega) (by omega) rfl
 ·refine Ud [.t rfl,.x (i:=1) (xs:=Fc b) rfl,.i 1] rfl ?_ (by simp [U4]);exact rd 2 (by omega) (by omega) rfl
 ·refine Ud [.t rfl,.x (i:=2) (xs:=Fc c) rfl,.i 2] rfl ?_ (by simp [U4]);exact rd 3 (by omega) (by omega) rfl
 ·exact Uf [.f rfl,.f rfl,.f rfl,.t rfl,.x (i:=0) (xs:=Fc a) rfl,.x (i:=1) (xs:=Fc b) rfl,.x (i:=2) (xs:=Fc c) rfl,.k cf,.k cg] rfl
theorem Ia {α:Type} (s:α->α->α->Bool):∀ (l acc:List α) (c:α),Pz s acc (l++[c])=c::Ln s c (Pz s acc l)
 | [],_,_=>rfl
 | _::l,_,c=>Ia s l _ c
theorem lT {R:List Pt} {t:Tm} (hR:∀ p∈R,Sc p.c) (hn:R.length≤1000000) (ht:Va t):Uj 292 [.agg (ta t),.one (pts R)] [.one (pts (Pi (Fq t) R))]:=by
 have hcl:=G7 R;show Uj 292 [.agg (ta t),.one (.row (U3 R))] [.one (.row (U3 (Pz (FK (Fq t)) [] R).reverse))];obtain ⟨s,hs⟩:=nmE (FK (Fq t));have hs':∀ a b c,s a b c=decide (0<Hk (Fq t) (Hi a.c b.c c.c)):=λa b c=>by rw [hs]; rfl
 rw [<-hs];refine Fw func292 rfl ?_;refine Ud [.o 5 40 5] rfl ?_;refine Ui (S:=Nat) 2 (λL1 i=>(10,.v (.oi i))::(5,.v (.one (.orow 1 5 none)))::L1) (λi=>[.blk 105 (ta t),.row false 40 5 (U3 (Pz s [] (R.take i)).reverse)]) (λi=>R.length-i) (λi=>i<=R.length) 0 (Qh _) rfl rfl λi hi=>?_
 by_cases hlt:i<R.length
 ·obtain ⟨c,hc⟩:=gxE (l:=R) (i:=i) hlt;have hcp:=hR c (Qc hc);have hst:Pz s [] (R.take (i+1))=c::Ln s c (Pz s [] (R.take i)):=by rw [Z1,hc]; exact Ia s _ _ c
  obtain ⟨O,hO⟩:=nmE (Pz s [] (R.take i));have hOl:O.length<=1000000:=by
   have:=KR s (R.take i) [];rw [<-hO,Qq] at this; simp at this; omega
  have hOm:∀ x∈O,Sc x.c:=λx hx=>by
   rw [hO] at hx;rcases KP hx with h | h
   ·cases h
   ·exact hR x (Qn h)
  rw [<-hO] at hst ⊢;have hrl:(U3 O.reverse).length=O.length:=by rw [G7,Xo]
  have hm:∀ y∈[Fc c],y.length=5:=λy hy=>by rw [Qk.1 hy]; rfl
  have hget:∀ {pre r:List Pt} {x:Pt},O=pre++x::r->∀ j,j=r.length->(U3 O.reverse)[j]? = some (Fc x):=λ{pre r x} e j hj=>by
   refine S5 ?_;rw [e,hj]; simp
  have hfin:∀ {pre st:List Pt},O=pre++st->U3 (c::st).reverse=(U3 O.reverse).take st.length++[Fc c]:=λ{pre st} e=>by
   rw [e]; simp [U3,Jv,List.take_append]
  have hfull:U3 (c::O).reverse=U3 O.reverse++[Fc c]:=by simp [U3]
  refine Ud [.t (by simp [hcl]; omega),.x (S5 hc)] rfl ?_;refine Ui (S:=Bool×List Pt) 3 (λL1 s=>(5,.v (.one (.orow 1 5 (cond s.1 (some (0,s.2.length)) none))))::L1) (λ_=>[.blk 105 (ta t),.row false 40 5 (U3 O.reverse),.blk 40 (Fc c)]) (λs=>s.2.length) (λst=>(∃ pre,O=pre++st.2/\(st.1=false->pre=[]))/\Ln s c st.2=Ln s c O) (false,O) ⟨⟨[],rfl,λ_=>rfl⟩,rfl⟩ rfl rfl λ⟨b,st⟩ ⟨⟨pre,h1,h2⟩,h3⟩=>?_
  have h1:O=pre++st:=h1;have h3:Ln s c st=Ln s c O:=h3;have hl1:O.length=pre.length+st.length:=by rw [h1,Qy]
  have fin:∀ {st:List Pt},O=pre++st->Ln s c st=Ln s c O->Ln s c st=st->U3 (Pz s [] (R.take (i+1))).reverse=(U3 O.reverse).take st.length++[Fc c]/\(pre=[]->U3 (Pz s [] (R.take (i+1))).reverse=U3 O.reverse++[Fc c]):=λ{st} e1 e2 e3=>by
   rw [hst,<-e2,e3];refine ⟨hfin e1,λhp=>?_⟩;rw [hp] at e1;rw [<-hfull,e1]; rfl
  rcases st with _ | ⟨z,_ | ⟨y,r⟩⟩
  ·obtain ⟨f1,f2⟩:=fin h1 h3 rfl;cases b with
   |
    false =>
    have hp:=h2 rfl;have f2:=f2 hp;rw [hp] at hl1;have hl2:(U3 O.reverse).length<=1:=by rw [hrl,hl1]; simp
    refine Ue [.g 17 false Uk,.f rfl,.s (sz:=5) hm] rfl ?_;exact rd (i+1) (by omega) hlt (by rw [f2]; rfl)
   |
    true =>
    refine Ue [.g 17 false (decide_eq_false (by simp)),.f rfl,.s (sz:=5) hm] rfl ?_;exact rd (i+1) (by omega) hlt (by rw [f1]; rfl)
  ·obtain ⟨f1,f2⟩:=fin h1 h3 rfl;cases b with
   |
    false =>
    have hp:=h2 rfl;have f2:=f2 hp;rw [hp] at hl1;have hl2:(U3 O.reverse).length<=1:=by rw [hrl,hl1]; simp
    refine Ue [.g 17 false Uk,.f rfl,.s (sz:=5) hm] rfl ?_;exact rd (i+1) (by omega) hlt (by rw [f2]; rfl)
   |
    true =>
    refine Ue [.g 17 false (decide_eq_false (by simp)),.f rfl,.s (sz:=5) hm] rfl ?_;exact rd (i+1) (by omega) hlt (by rw [f1]; rfl)
  ·have sz:=hOm z (by rw [h1]; simp);have sy:=hOm y (by rw [h1]; simp);have co:=wW sy sz hcp;have cg:=SQ (YV sy sz hcp).dp ht;have gz:=hget h1 (r.length+1) rfl;have gy:=hget (pre:=pre++[z]) (r:=r) (x:=y) (by rw [h1]; simp) r.length rfl;have hl1:O.length=pre.length+(r.length+2):=hl1;have hls:=hs' y z c;by_cases hq:s y z c=true
   ·have hg:¬Hk (Fq t) (Hi y.c z.c c.c)<=0:=by rw [hls] at hq; have:=of_decide_eq_true hq; omega
    obtain ⟨f1,f2⟩:=fin h1 h3 (by simp only [Ln]; rw [if_pos hq]);cases b with
    |
     false =>
     have hp:=h2 rfl;have f2:=f2 hp;rw [hp] at hl1;have hl2:(U3 O.reverse).length=r.length+2:=by rw [hrl,hl1]; simp
     refine Ue [.g 17 true Ul,.r 21 (eI (b:=(r.length:Int)) (by omega)),.i r.length,.x gy,.r 28 (eI (b:=((r.length+1:Nat):Int)) (by omega)),.i (r.length+1),.x gz,.k co,.k cg,.f (decide_eq_false hg),.s (sz:=5) hm] rfl ?_;exact rd (i+1) (by omega) hlt (by rw [f2]; rfl)
    |
     true =>
     refine Ue [.g 17 true (decide_eq_true (by simp; omega)),.r 21 (eI (b:=(r.length:Int)) (by simp; omega)),.i r.length,.x (l:=U3 O.reverse) (i:=0+r.length) (xs:=Fc y) (by rw [Zy]; exact gy),.r 28 (eI (b:=((r.length+1:Nat):Int)) (by simp)),.i (r.length+1),.x (l:=U3 O.reverse) (i:=0+(r.length+1)) (xs:=Fc z) (by rw [Zy]; exact gz),.k co,.k cg,.f (decide_eq_false hg),.s (sz:=5) hm] rfl ?_;exact rd (i+1) (by omega) hlt (by rw [f1]; rfl)
   ·have hg:Hk (Fq t) (Hi y.c z.c c.c)<=0:=by
     rw [hls] at hq; have:=of_decide_eq_false (Wu.2 hq); omega
    have hpop:Ln s c (y::r)=Ln s c O:=by rw [<-h3]; simp only [Ln]; rw [if_neg hq]
    have hin:(∃ pre',O=pre'++(y::r)/\((true:Bool)=false->pre'=[]))/\Ln s c (y::r)=Ln s c O:=⟨⟨pre++[z],by rw [h1]; simp,λh=>by cases h⟩,hpop⟩;cases b with
    |
     false =>
     have hp:=h2 rfl;rw [hp] at hl1;have hl2:(U3 O.reverse).length=r.length+2:=by rw [hrl,hl1]; simp
     refine Ue [.g 17 true Ul,.r 21 (eI (b:=(r.length:Int)) (by omega)),.i r.length,.x gy,.r 28 (eI (b:=((r.length+1:Nat):Int)) (by omega)),.i (r.length+1),.x gz,.k co,.k cg,.t (decide_eq_true hg),.r 42 (eI (b:=((r.length+1:Nat):Int)) (by omega)),.i (r.length+1)] rfl ?_;exact rd (true,y::r) (by simp) hin rfl
    |
     true =>
     refine Ue [.g 17 true (decide_eq_true (by simp; omega)),.r 21 (eI (b:=(r.length:Int)) (by simp; omega)),.i r.length,.x (l:=U3 O.reverse) (i:=0+r.length) (xs:=Fc y) (by rw [Zy]; exact gy),.r 28 (eI (b:=((r.length+1:Nat):Int)) (by simp)),.i (r.length+1),.x (l:=U3 O.reverse) (i:=0+(r.length+1)) (xs:=Fc z) (by rw [Zy]; exact gz),.k co,.k cg,.t (decide_eq_true hg),.r 42 (eI (b:=((r.length+1:Nat):Int)) (by simp)),.i (r.length+1)] rfl ?_;exact rd (true,y::r) (by simp) hin rfl
 ·obtain rfl:i=R.length:=by omega
  rw [Q6];exact Uf [.f (by simp [hcl])] rfl
theorem mU {sg:Um->Int} {R:List Pt} (h:R≠[]):0<(Pi sg R).length:=by
 unfold Pi;rw [Xo];obtain ⟨x,hx⟩:∃ x,R.getLast? = some x:=⟨_,Yq h⟩;obtain ⟨l,hl⟩:=Y8.1 hx;rw [hl,Ia]; simp
theorem rK {α:Type} (s:α->α->α->Bool) (c:α):∀ {st:List α},st≠[]->0<(Ln s c st).length
 | [],h=>absurd rfl h
 | [_],_=>by simp [Ln]
 |
  b::a::r,_=>by
  simp only [Ln]
  split
  ·simp
  ·exact rK s c (by simp)
theorem BO {sg:Um->Int} {R:List Pt} (h:2<=R.length):2<=(Pi sg R).length:=by
 unfold Pi;rw [Xo];obtain ⟨x,hx⟩:∃ x,R.getLast? = some x:=⟨_,Yq (by intro e; rw [e] at h; simp at h)⟩;obtain ⟨l,hl⟩:=Y8.1 hx;have hl0:l≠[]:=by intro e; rw [hl,e] at h; simp at h
 have:=mU (sg:=sg) hl0;unfold Pi at this;rw [Xo] at this;have:=rK (FK sg) x (st:=Pz (FK sg) [] l) (by intro e; rw [e] at this; simp at this);rw [hl,Ia,Q5]; omega
theorem lD {R:List Pt} {t:Tm} (hR:∀ p∈R,Sc p.c) (hn:R.length≤1000000) (ht:Va t):Uj 256 [.agg (ta t),.one (pts R)] [.one (pts (L9 (Fq t) R))]:=by
 have hcl:=G7 R;have hrl:=G7 R.reverse;rw [Xo] at hrl;show Uj 256 [.agg (ta t),.one (.row (U3 R))] [.one (.row (U3 (L9 (Fq t) R)))];refine Fw func256 rfl ?_;by_cases h3:R.length<3
 ·have e:L9 (Fq t) R=R:=if_pos h3;rw [e];exact Uf [.T] rfl
 have c1:=lT hR hn ht;have c2:=lT (R:=R.reverse) (λp hp=>hR p (Jl.1 hp)) (by rw [Xo]; exact hn) ht;have p1:=BO (sg:=Fq t) (R:=R) (by omega);have p2:=BO (sg:=Fq t) (R:=R.reverse) (by rw [Xo]; omega);have k1:=QG (Fq t) R;have k2:=QG (Fq t) R.reverse;rw [Xo] at k2;refine go tt [.F,.o 5 40 5,.r 15 (eI (b:=(R.length:Int)-1-((0:Nat):Int)) (by omega))] rfl (by simp [U4,hcl]; omega) ?_;refine Ui (S:=Nat) 2 (λL1 j=>(6,.v (.oi ((R.length:Int)-1-(j:Int))))::(5,.v (.one (.orow 1 5 none)))::L1) (λj=>[.blk 105 (ta t),.row false 40 5 (U3 (R.reverse.take j))]) (λj=>R.length-j) (λj=>j<=R.length) 0 (Qh _) rfl rfl λj hj=>?_
 by_cases hlt:j<R.length
 ·obtain ⟨x,hx⟩:=gxE (l:=R) (i:=R.length-1-j) (by omega);have hx':R.reverse[j]? = some x:=by rw [List.getElem?_reverse (by omega)]; exact hx
  have hm:∀ y∈[Fc x],y.length=5:=λy hy=>by rw [Qk.1 hy]; rfl
  have e:U3 (R.reverse.take (j+1))=U3 (R.reverse.take j)++[Fc x]:=by rw [Z1,hx']; simp [U3]
  have htl:(U3 (R.reverse.take j)).length=j:=by rw [G7,Qq,Xo]; omega
  refine go tt [.T,.r 22 (eI (b:=((R.length-1-j:Nat):Int)) (by omega)),.x (S5 hx),.s (sz:=5) hm,.r 19 (eI (b:=(R.length:Int)-1-((j+1:Nat):Int)) (by omega))] rfl (by simp [U4,htl]; omega) ?_;exact rd (j+1) (by omega) hlt (by rw [e]; rfl)
 ·obtain rfl:j=R.length:=by omega
  rw [Qo (by rw [Xo]; exact Ql _)];obtain ⟨A,hA⟩:=nmE (Pi (Fq t) R);obtain ⟨C,hC⟩:=nmE (Pi (Fq t) R.reverse);have e:L9 (Fq t) R=A.dropLast++C.dropLast:=by rw [hA,hC]; exact if_neg h3
  rw [<-hA] at c1 p1 k1;rw [<-hC] at c2 p2 k2;rw [e];have hs:∀ y∈(C.map Fc).take (C.length-1),y.length=5:=λy hy=>YI C y (Qn hy)
  have hs2:∀ y∈(A.map Fc).take (A.length-1),y.length=5:=λy hy=>YI A y (Qn hy)
  refine Uf [.F,.p 1,.k c1,.k c2,.r 36 (eI (b:=((A.length-1:Nat):Int)) (by simp; omega)),.r 39 (eI (b:=((A.length-1:Nat):Int)) (by simp; omega)),.i (A.length-1),.r 44 (eI (b:=((C.length-1:Nat):Int)) (by simp; omega)),.i (C.length-1),.s (sz:=5) hs] rfl (by simp [U3,Jv,List.dropLast_eq_take]) ?_;simp only [U4,Qq,Q7]
  and_intros <;> first | exact hs2 | omega
theorem TO {l:List Pt} {t:Tm} (hl:∀ p∈l,Sc p.c) (hn:l.length≤1000000) (ht:Va t):U7 prog 253 [.agg (ta t),.one (pts l)] [] [.one (.orow 0 7 none)] [.row false 99 7 (Fo (S7 (Fq t) l))]:=by
 have hcl:=G7 l;show U7 prog 253 [.agg (ta t),.one (.row (U3 l))] [] [.one (.orow 0 7 none)] [.row false 99 7 (Fo (S7 (Fq t) l))];refine Fw func253 rfl ?_;refine Ud [.o 5 99 7] rfl ?_;refine Ui (S:=Nat) 2 (λL1 i=>(6,.v (.oi ((i+1:Nat):Int)))::(5,.v (.one (.orow 1 7 none)))::L1) (λi=>[.blk 105 (ta t),.row false 99 7 (Fo ((S7 (Fq t) l).take i))]) (λi=>l.length-i) (λi=>i<=l.length-1) 0 (Qh _) rfl rfl λi hi=>?_
 by_cases hlt:i+1<l.length
 ·obtain ⟨a,ha⟩:=gxE (l:=l) (i:=i) (by omega);obtain ⟨b,hb⟩:=gxE (l:=l) (i:=i+1) hlt;have hg:=TU (Fq t) ha hb;have hm:∀ y∈[Lx (QI (Fq t) a b)],y.length=7:=λy hy=>by rw [Qk.1 hy]; rfl
  refine go tt [.t (by simp [hcl]; omega),.r 19 (eI (b:=(i:Int)) (by simp)),.x (S5 ha),.x (S5 hb),.k (lJ (hl a (Qc ha)) (hl b (Qc hb)) ht),.s (sz:=7) hm,.r 14 (eI (b:=((i+1+1:Nat):Int)) (by simp))] rfl (by simp [U4,G7,Nz,By]; omega) ?_;exact rd (i+1) (by omega) (by omega) (by rw [hg]; simp [Fo]; rfl)
 ·have e:(S7 (Fq t) l).take i=S7 (Fq t) l:=Qo (by rw [By]; omega);rw [e];exact Uh [] [1] [.f (by simp [hcl]; omega)] rfl
theorem uM {C:List Pt} {i:Nat} {a b:Pt} (ha:C[i]? = some a) (hb:C[(i+1) % C.length]? = some b):(Rr C)[i]? = some (a,b):=by
 have hi:=(Qf.1 ha).1;unfold Rr;rw [List.getElem?_zip_eq_some];refine ⟨ha,?_⟩;by_cases h:i+1<C.length
 ·rw [Xt h] at hb;rw [Zi (by rw [Q8]; omega),Xc,Ju]; exact hb
 ·have e:i+1=C.length:=by omega
  rw [e,Nat.mod_self] at hb;rw [Z8 (by rw [Q8]; omega),Q8,show i-(C.length-1)=0 by omega,Kf (by omega)]; exact hb
theorem uN (C:List Pt):(Rr C).length=C.length:=by
 unfold Rr;rw [List.length_zip,Qy,Q8,Qq]; omega
theorem AQ {α β:Type} {f:α->List β} {l:List α} {i:Nat} {x:α} (h:l[i]? = some x):(l.take (i+1)).flatMap f=(l.take i).flatMap f++f x:=by
 rw [Z1,h]; simp
theorem TP {α β:Type} {f:α->β} {p:α->Bool} {l:List α} {i:Nat} {x:α} (h:l[i]? = some x):((l.take (i+1)).filter p).map f=((l.take i).filter p).map f++if p x=true then [f x] else []:=by
 rw [Z1,h,Vj,Yh];congr 1;simp only [Option.toList];by_cases hp:p x=true
 ·rw [if_pos hp,X4 hp]; rfl
 ·rw [if_neg hp,Jy hp]; rfl
theorem uA {α β:Type} {f:α->List β} {n:Nat} (hf:∀ x,(f x).length<=n) (l:List α):(l.flatMap f).length<=l.length*n:=KL f n l λx _=>hf x
theorem Qan {l:List Pt} (hl:∀ p∈l,Sc p.c):∀ p∈l,Qaq 4294967294 1073741824 p:=λp hp=>⟨(hl p hp).n,(hl p hp).c.mono (by decide) (by decide)⟩
set_option maxHeartbeats 4000000 in
theorem IS {l:List Pt} {a:Tm} {c:Cr} {r1:Us} (hl:∀ p∈l,Sc p.c) (hn:l.length≤10) (ha:Va a):U7 prog 197 [.one (.ow 0 0),.agg (ta a)] [.blk 225 (Hm c (U3 l) r1)] [.one (.row (Fo (AB l a)))] [.blk 225 (Hm c (U3 l) (brH l a))]:=by
 have hwl:=QQ l;have cw:=pO (l:=l) (Qan hl) (by omega);have cr:=wG (l:=Tp l) (λp hp=>hl p (Np hp)) (by omega) ha;have cn:=lD (R:=Tu a (Tp l)) (λp hp=>hl p (Np (Hr.1 hp))) (by rw [Mg]; omega) ha;have cr2:=wG hl (by omega) ha;have cc:=TO (l:=Tu a l) (t:=a) (λp hp=>hl p (Hr.1 hp)) (by rw [Mg]; omega) ha;have hCm:∀ p∈Pa l a,p∈l:=λp hp=>I5 hp
 have hCl:=I4 l a;have e0:AB l a=JA l a++Be (Fq a) l (Pa l a):=rfl;rw [e0];show U7 prog 197 _ _ _ [.blk 225 (Hm c (U3 l) (U3 (Pa l a)))];have cn:Uj 256 [.agg (ta a),.one (pts (Tu a (Tp l)))] [.one (pts (Pa l a))]:=cn;have cc:U7 prog 253 [.agg (ta a),.one (pts (Tu a l))] [] [.one (.orow 0 7 none)] [.row false 99 7 (Fo (JA l a))]:=cc;have hbl:(JA l a).length<=10:=by unfold JA; rw [By,Mg]; omega
 obtain ⟨C,hC⟩:=nmE (Pa l a);obtain ⟨cs0,hc0⟩:=nmE (JA l a);rw [<-hC] at cn hCm hCl ⊢;rw [<-hc0] at cc hbl ⊢;have hcp:=G7 C;have hlp:=G7 l;have eel:∀ x,(Ah (Fq a) l x).length<=l.length:=λx=>by unfold Ah; rw [List.length_map]; exact List.length_filter_le _ _
 refine Fw func197 rfl ?_;refine Ud [.k cw,.k cr,.k cn,.k Ip,.k cr2,.c [2] cc] rfl ?_;by_cases h2:C.length<2
 ·have e:Be (Fq a) l C=[]:=if_pos h2;rw [e,Zv];exact Uh [2] [0] [.t (decide_eq_true (by simp; omega))] rfl
 have e:Be (Fq a) l C=(Rr C).flatMap (Ah (Fq a) l):=if_neg h2;rw [e];refine Ud [.f (decide_eq_false (by simp; omega))] rfl ?_;refine sb [(48,.v (.oi 0)),(47,.v (.oi ((C.map Fc).length:Int))),(46,.v (.one (pts C))),(6,.v (.one (.orow 2 7 none))),(3,.v (.one (.ow 1 0))),(0,.v (.one (.ow 0 0)))] [.blk 225 (Hm c (U3 l) (U3 C)),.blk 105 (ta a),.row false 99 7 (Fo cs0)] rfl rfl ?_;rw [show Fo cs0=Fo (cs0++((Rr C).take 0).flatMap (Ah (Fq a) l)) by simp];refine Ui (S:=Nat) 3 (λL1 i=>(48,.v (.oi i))::(6,.v (.one (.orow 2 7 none)))::L1) (λi=>[.blk 225 (Hm c (U3 l) (U3 C)),.blk 105 (ta a),.row false 99 7 (Fo (cs0++((Rr C).take i).flatMap (Ah (Fq a) l)))]) (λi=>C.length-i) (λi=>i<=C.length) 0 (Qh _) rfl rfl λi hi=>?_
 by_cases hlt:i<C.length
 ·obtain ⟨x,hx⟩:=gxE (l:=C) (i:=i) hlt;obtain ⟨y,hy⟩:=gxE (l:=C) (i:=(i+1) % C.length) (Z4 _ (by omega));have he:=uM hx hy;have sx:=hl x (hCm x (Qc hx));have sy:=hl y (hCm y (Qc hy));have hflat:=AQ (f:=Ah (Fq a) l) he;obtain ⟨F,hF⟩:=nmE (cs0++((Rr C).take i).flatMap (Ah (Fq a) l));have hFl:F.length<=10+20*10:=by
   have h1:=uA eel ((Rr C).take i);have h2:((Rr C).take i).length*l.length<=20*10:=Zc (by rw [Qq]; omega) hn;rw [hF,Qy]; omega
  have hmod:(((i+1:Nat):Int)).tmod ((C.map Fc).length:Int)=(((i+1) % C.length:Nat):Int):=by rw [Q7]; exact (Int.ofNat_tmod _ _).symm
  have hm0:=Ye ((i+1:Nat):Int) (show (C.length:Int)≠0 by omega);have hm1:=Js ((i+1:Nat):Int) (show (0:Int)<C.length by omega);have hnext:cs0++((Rr C).take (i+1)).flatMap (Ah (Fq a) l)=F++(l.filter (VS (x,y))).map λc=>Lc (Fq a) x y c:=by rw [hflat,<-Zd,<-hF]; rfl
  rw [<-hF];refine go tt [.t (decide_eq_true (by simp; omega)),.x (S5 hx),.r 58 (eI (b:=((i+1:Nat):Int)) (by simp)),.r 64 (eI (b:=(((i+1) % C.length:Nat):Int)) hmod),.x (S5 hy),.k Ip] rfl (by simp only [U4]; omega) ?_;rw [show Fo F=Fo (F++((l.take 0).filter (VS (x,y))).map λc=>Lc (Fq a) x y c) by simp];refine Ui (S:=Nat) 5 (λL1 k=>(73,.v (.oi k))::(6,.v (.one (.orow 2 7 none)))::L1) (λk=>[.blk 225 (Hm c (U3 l) (U3 C)),.blk 105 (ta a),.row false 99 7 (Fo (F++((l.take k).filter (VS (x,y))).map λc=>Lc (Fq a) x y c)),.blk 40 (Fc x),.blk 40 (Fc y)]) (λk=>l.length-k) (λk=>k<=l.length) 0 (Qh _) rfl rfl λk hk=>?_
  by_cases hlk:k<l.length
  ·obtain ⟨z,hz⟩:=gxE (l:=l) (i:=k) hlk;have sz:=hl z (Qc hz);have hflt:=TP (f:=λc=>Lc (Fq a) x y c) (p:=VS (x,y)) hz;obtain ⟨G,hG⟩:=nmE (((l.take k).filter (VS (x,y))).map λc=>Lc (Fq a) x y c);have hGl:G.length<=10:=by
    have h1:=Y0 (VS (x,y)) (l.take k);rw [Qq] at h1;rw [hG,Q7]; omega
   rw [<-hG] at hflt ⊢;by_cases h1:z.id=x.id
   ·rw [if_neg (show ¬VS (x,y) z=true by simp [VS,h1]),Zv] at hflt;refine Ue [.t (decide_eq_true (by simp; omega)),.x (S5 hz),.g 82 false (decide_eq_false (by simp [h1])),.f rfl] rfl ?_;exact rd (k+1) (by omega) hlk (by rw [hflt]; rfl)
   ·by_cases h2:z.id=y.id
    ·rw [if_neg (show ¬VS (x,y) z=true by simp [VS,h2]),Zv] at hflt;refine Ue [.t (decide_eq_true (by simp; omega)),.x (S5 hz),.g 82 true (decide_eq_true h1),.f (decide_eq_false (by simp [h2]))] rfl ?_;exact rd (k+1) (by omega) hlk (by rw [hflt]; rfl)
    ·rw [if_pos (show VS (x,y) z=true by simp [VS,h1,h2])] at hflt;have hm:∀ q∈[Lx (Lc (Fq a) x y z)],q.length=7:=λq hq=>by rw [Qk.1 hq]; rfl
     refine go tt [.t (decide_eq_true (by simp; omega)),.x (S5 hz),.g 82 true (decide_eq_true h1),.t (decide_eq_true h2),.k (lV sx sy sz ha),.s (sz:=7) hm] rfl (by simp [U4,Nz]; omega) ?_;have e3:Fo (F++(G++[Lc (Fq a) x y z]))=Fo (F++G)++[Lx (Lc (Fq a) x y z)]:=by simp [Fo]
     exact rd (k+1) (by omega) hlk (by rw [hflt,e3]; rfl)
  ·obtain rfl:k=l.length:=by omega
   rw [Q6,<-hnext];refine Ue [.f (decide_eq_false (by simp))] rfl ?_;exact rd (i+1) (by omega) hlt rfl
 ·obtain rfl:i=C.length:=by omega
  rw [Qo (by rw [uN]; exact Ql _)];exact Uh [2] [0] [.f (decide_eq_false (by simp))] rfl
theorem ozM {P:Program} [Mo P] {n:Nat} {Q:Exit->Sg->Ut->Prop} {L L':Sg} {B B':Ut} (d off T sz:Nat) {it:List It} (hs:Rk it=true) (h:bC (P:=P) d L B [.oc d off T sz]=some (L',B',[],[])) (k:AK P n Q it L' B'):AK P n Q it L B:=AK.sub (EF h EqOk.nil) hs k
theorem xA {k:Crv} (hk:Sc k):Uj 279 [.agg (cl k)] [.one (.row (JG (ZU k)))]:=by
 have ok:=FC hk.n hk.c;have l1:=Ty k.x k.x;have l2:=Ty k.y k.y;have:=hk.c.lx;have:=hk.c.ly;have bx:Bd 258 (Gl k.x k.x):=Ph (u:=2) hk.c.x hk.c.x (by omega);have by_:Bd 258 (Gl k.y k.y):=Ph (u:=2) hk.c.y hk.c.y (by omega);have c1:=Pn (p:=k.x) (c:=k.d) (by omega) (U6 hk.c.x (by decide)) (Qa hk.c.d (by decide));have c2:=Pn (p:=k.y) (c:=k.d) (by omega) (U6 hk.c.y (by decide)) (Qa hk.c.d (by decide));have c3:=KF (p:=k.x) (q:=k.x) hk.n.1 hk.n.1 (by omega) (by omega) hk.c.x hk.c.x (by decide);have c4:=KF (p:=k.y) (q:=k.y) hk.n.2.1 hk.n.2.1 (by omega) (by omega) hk.c.y hk.c.y (by decide);have c5:=BG (p:=Gl k.x k.x) (q:=Gl k.y k.y) (by omega) (by omega) (U6 bx (by decide)) (U6 by_ (by decide));have c6:=Px (U5 k.d) (U5 k.d) (Qa hk.c.d (by decide)) (Qa hk.c.d (by decide));have hl:∀ p∈ZU k,p.length≤1000000:=λp hp=>by
  obtain ⟨j,hj⟩:=Xu hp;have h1:=ok.2 j p hj;have:[2,2,4,0].getD j 0<=4:=by
   match j with
   | 0=>decide
   | 1=>decide
   | 2=>decide
   | 3=>decide
   | j+4=>simp
  omega
 have cd:=Qeb (r:=ZU k) (λp hp=>(ok.1 p hp).1) (λp hp=>U6 (ok.1 p hp).2 (by decide)) hl (by show 4<=1000; decide);exact Ug func279 rfl [.k (Du hk.n (hk.c.mono (by decide) (by decide))),.k c1,.k c2,.k c3,.k c4,.k c5,.k c6,.k cd] rfl
theorem Qel {a b c d:Crv} (ha:Sc a) (hb:Sc b) (hc:Sc c) (hd:Sc d):Uj 238 [.agg (cl a),.agg (cl b),.agg (cl c),.agg (cl d)] [pr (VI a b c d)]:=by
 have cd:=Qrk (by decide) (k:=4) (ds:=[2,2,4,0]) (by decide) rfl (by decide) (tM ha.n hb.n hc.n hd.n ha.c hb.c hc.c hd.c);exact Ug func238 rfl [.k (xA ha),.k (xA hb),.k (xA hc),.k (xA hd),.k cd] rfl
set_option maxHeartbeats 1000000 in
theorem Qmv {a b c d:Pt} {t:Tm} (ha:Sc a.c) (hb:Sc b.c) (hc:Sc c.c) (hd:Sc d.c) (ht:Va t):Uj 255 [.oi 4,.agg (ta t),.one (.row [Fc a,Fc b,Fc c,Fc d])] [.agg (Lx (qG (Fq t) a b c d)),.oi 0]:=by
 have hp:=(eP ha hb hc hd).dp;have e:Lx (qG (Fq t) a b c d)=[.int .i64 4,.int .i64 a.id,.int .i64 b.id,.int .i64 c.id,.int .i64 d.id,pl (VI a.c b.c c.c d.c),.int .i64 (Hk (Fq t) (VI a.c b.c c.c d.c))]:=by rw [qG]
 rw [e];have cg:=SQ hp ht;have cf:=Qel ha hb hc hd;generalize VI a.c b.c c.c d.c=F at *;refine Fw func255 rfl ?_;refine Ud [.k Qbl,.f rfl] rfl ?_;refine Ui (S:=Nat) 3 (λL1 i=>(22,.v (.oi i))::L1) (λi=>[.blk 105 (ta t),.blk 99 zCt,.blk 99 [.int .i64 4,.int .i64 (if 1<=i then a.id else 0),.int .i64 (if 2<=i then b.id else 0),.int .i64 (if 3<=i then c.id else 0),.int .i64 (if 4<=i then d.id else 0),.nils,.int .i64 0]]) (λi=>4-i) (λi=>i<=4) 0 (Qh _) rfl rfl λi hi=>?_
 rcases (show i=0\/i=1\/i=2\/i=3\/i=4 by omega) with rfl | rfl | rfl | rfl | rfl
 ·refine Ud [.t rfl,.x (i:=0) (xs:=Fc a) rfl,.i 0] rfl ?_ (by simp [U4]);exact rd 1 (by omega) (by omega) rfl
 ·refine Ud [.t rfl,.x (i:=1) (xs:=Fc b) rfl,.i 1] rfl ?_ (by simp [U4]);exact rd 2 (by omega) (by omega) rfl
 ·refine Ud [.t rfl,.x (i:=2) (xs:=Fc c) rfl,.i 2] rfl ?_ (by simp [U4]);exact rd 3 (by omega) (by omega) rfl
 ·refine Ud [.t rfl,.x (i:=3) (xs:=Fc d) rfl,.i 3] rfl ?_ (by simp [U4]);exact rd 4 (by omega) (by omega) rfl
 ·exact Uf [.f rfl,.f rfl,.f rfl,.f rfl,.t rfl,.x (i:=0) (xs:=Fc a) rfl,.x (i:=1) (xs:=Fc b) rfl,.x (i:=2) (xs:=Fc c) rfl,.x (i:=3) (xs:=Fc d) rfl,.k cf,.k cg] rfl
def uE (T:Ny) (s:Int) (n:Um) (F:Ny) (k:Nat):Ny:=(List.range k).foldl (I9 T s n) F
theorem mA (T:Ny) (s:Int) (n:Um) (F:Ny) (k:Nat):uE T s n F (k+1)=I9 T s n (uE T s n F k) k:=by unfold uE; rw [List.range_succ,List.foldl_append]; rfl
theorem mE (T:Ny) (s:Int) (n:Um) (F:Ny):uE T s n F 4=OG T s n F:=rfl
set_option maxHeartbeats 4000000 in
theorem Qtt {F T:Ny} {s n0 n1 n2 n3:Int} (hT:kR T) (hs:-1<=s/\s<=1):U7 prog 261 [.one (.omap 0),.one (.omap 1),.oi s,.agg [.int .i64 n0,.int .i64 n1,.int .i64 n2,.int .i64 n3]] [.mpb F,.mpb T] [] [.mpb (OG T s [n0,n1,n2,n3] F),.mpb T]:=by
 have hm:Ql0 T:=λk=>(hT k).1
 have hb:=λ(k:Um) (x:Int) (hx:-1<=x/\x<=1)=>Qcm (hT k).2 hx
 rw [<-mE];obtain ⟨f,hf⟩:=nmE (uE T s [n0,n1,n2,n3] F);have f0:F=f 0:=by rw [hf]; rfl
 have fs:∀ k,f (k+1)=I9 T s [n0,n1,n2,n3] (f k) k:=λk=>by rw [hf]; exact mA ..
 rw [<-hf];rw [f0];clear hf f0;refine Fw func261 rfl ?_;refine Ud [] rfl ?_;refine Ui (S:=Nat) 3 (λL1 k=>(14,.v (.oi k))::L1) (λk=>[.mpb (f k),.mpb T,.blk 95 [.int .i64 n0,.int .i64 n1,.int .i64 n2,.int .i64 n3]]) (λk=>4-k) (λk=>k<=4) 0 (by decide) rfl rfl λk hk=>?_
 rcases (show k=0\/k=1\/k=2\/k=3\/k=4 by omega) with rfl | rfl | rfl | rfl | rfl
 ·have e1:=fs 0;have e2:I9 T s [n0,n1,n2,n3] (f 0) 0=if ZT T [n1,n2,n3]*(-s)>0 then L6 (f 0) [n1,n2,n3] (.bool true) else f 0:=rfl
  rw [e2] at e1;refine Ud [.t rfl] rfl ?_;refine Ui (S:=Nat) 4 (λL1 i=>(18,.v (.oi i))::(10,.v (.oi (if i<=0 then (i:Int) else (i:Int)-1)))::L1) (λi=>[.mpb (f 0),.mpb T,.blk 95 [.int .i64 n0,.int .i64 n1,.int .i64 n2,.int .i64 n3],.blk 84 [.int .i64 (if 2<=i then n1 else 0),.int .i64 (if 3<=i then n2 else 0),.int .i64 (if 4<=i then n3 else 0)]]) (λi=>4-i) (λi=>i<=4) 0 (by decide) rfl rfl λi hi=>?_
  rcases (show i=0\/i=1\/i=2\/i=3\/i=4 by omega) with rfl | rfl | rfl | rfl | rfl
  ·refine Ud [.t rfl,.i 0,.f rfl] rfl ?_ (by simp [U4]);exact rd 1 (by omega) (by omega) rfl
  ·refine Ud [.t rfl,.i 1,.t rfl,.i 0] rfl ?_ (by simp [U4]);exact rd 2 (by omega) (by omega) rfl
  ·refine Ud [.t rfl,.i 2,.t rfl,.i 1] rfl ?_ (by simp [U4]);exact rd 3 (by omega) (by omega) rfl
  ·refine Ud [.t rfl,.i 3,.t rfl,.i 2] rfl ?_ (by simp [U4]);exact rd 4 (by omega) (by omega) rfl
  ·have hbb:=hb [n1,n2,n3] (-s) (by omega);by_cases hc:ZT T [n1,n2,n3]*(-s)>0
   ·rw [if_pos hc] at e1;refine go tt [.f rfl,.t rfl,.t (decide_eq_true hc)] rfl (by simp only [U4]; first | exact ⟨⟨by omega,by omega⟩,hbb,hm,⟨by omega,by omega⟩,by decide,by omega,by omega⟩ | exact ⟨⟨by omega,by omega⟩,hbb,hm,by decide,by omega,by omega⟩) ?_;exact rd 1 (by omega) (by omega) (by rw [e1]; rfl)
   ·rw [if_neg hc] at e1;refine go tt [.f rfl,.t rfl,.f (decide_eq_false hc)] rfl (by simp only [U4]; first | exact ⟨⟨by omega,by omega⟩,hbb,hm,⟨by omega,by omega⟩,by decide,by omega,by omega⟩ | exact ⟨⟨by omega,by omega⟩,hbb,hm,by decide,by omega,by omega⟩) ?_;exact rd 1 (by omega) (by omega) (by rw [e1]; rfl)
 ·have e1:=fs 1;have e2:I9 T s [n0,n1,n2,n3] (f 1) 1=if ZT T [n0,n2,n3]*s>0 then L6 (f 1) [n0,n2,n3] (.bool true) else f 1:=rfl
  rw [e2] at e1;refine Ud [.t rfl] rfl ?_;refine Ui (S:=Nat) 4 (λL1 i=>(18,.v (.oi i))::(10,.v (.oi (if i<=1 then (i:Int) else (i:Int)-1)))::L1) (λi=>[.mpb (f 1),.mpb T,.blk 95 [.int .i64 n0,.int .i64 n1,.int .i64 n2,.int .i64 n3],.blk 84 [.int .i64 (if 1<=i then n0 else 0),.int .i64 (if 3<=i then n2 else 0),.int .i64 (if 4<=i then n3 else 0)]]) (λi=>4-i) (λi=>i<=4) 0 (by decide) rfl rfl λi hi=>?_
  rcases (show i=0\/i=1\/i=2\/i=3\/i=4 by omega) with rfl | rfl | rfl | rfl | rfl
  ·refine Ud [.t rfl,.i 0,.t rfl,.i 0] rfl ?_ (by simp [U4]);exact rd 1 (by omega) (by omega) rfl
  ·refine Ud [.t rfl,.i 1,.f rfl] rfl ?_ (by simp [U4]);exact rd 2 (by omega) (by omega) rfl
  ·refine Ud [.t rfl,.i 2,.t rfl,.i 1] rfl ?_ (by simp [U4]);exact rd 3 (by omega) (by omega) rfl
  ·refine Ud [.t rfl,.i 3,.t rfl,.i 2] rfl ?_ (by simp [U4]);exact rd 4 (by omega) (by omega) rfl
  ·have hbb:=hb [n0,n2,n3] s (by omega);by_cases hc:ZT T [n0,n2,n3]*s>0
   ·rw [if_pos hc] at e1;refine go tt [.f rfl,.f rfl,.t (decide_eq_true hc)] rfl (by simp only [U4]; first | exact ⟨⟨by omega,by omega⟩,hbb,hm,⟨by omega,by omega⟩,by decide,by omega,by omega⟩ | exact ⟨⟨by omega,by omega⟩,hbb,hm,by decide,by omega,by omega⟩) ?_;exact rd 2 (by omega) (by omega) (by rw [e1]; rfl)
   ·rw [if_neg hc] at e1;refine go tt [.f rfl,.f rfl,.f (decide_eq_false hc)] rfl (by simp only [U4]; first | exact ⟨⟨by omega,by omega⟩,hbb,hm,⟨by omega,by omega⟩,by decide,by omega,by omega⟩ | exact ⟨⟨by omega,by omega⟩,hbb,hm,by decide,by omega,by omega⟩) ?_;exact rd 2 (by omega) (by omega) (by rw [e1]; rfl)
 ·have e1:=fs 2;have e2:I9 T s [n0,n1,n2,n3] (f 2) 2=if ZT T [n0,n1,n3]*(-s)>0 then L6 (f 2) [n0,n1,n3] (.bool true) else f 2:=rfl
  rw [e2] at e1;refine Ud [.t rfl] rfl ?_;refine Ui (S:=Nat) 4 (λL1 i=>(18,.v (.oi i))::(10,.v (.oi (if i<=2 then (i:Int) else (i:Int)-1)))::L1) (λi=>[.mpb (f 2),.mpb T,.blk 95 [.int .i64 n0,.int .i64 n1,.int .i64 n2,.int .i64 n3],.blk 84 [.int .i64 (if 1<=i then n0 else 0),.int .i64 (if 2<=i then n1 else 0),.int .i64 (if 4<=i then n3 else 0)]]) (λi=>4-i) (λi=>i<=4) 0 (by decide) rfl rfl λi hi=>?_
  rcases (show i=0\/i=1\/i=2\/i=3\/i=4 by omega) with rfl | rfl | rfl | rfl | rfl
  ·refine Ud [.t rfl,.i 0,.t rfl,.i 0] rfl ?_ (by simp [U4]);exact rd 1 (by omega) (by omega) rfl
  ·refine Ud [.t rfl,.i 1,.t rfl,.i 1] rfl ?_ (by simp [U4]);exact rd 2 (by omega) (by omega) rfl
  ·refine Ud [.t rfl,.i 2,.f rfl] rfl ?_ (by simp [U4]);exact rd 3 (by omega) (by omega) rfl
  ·refine Ud [.t rfl,.i 3,.t rfl,.i 2] rfl ?_ (by simp [U4]);exact rd 4 (by omega) (by omega) rfl
  ·have hbb:=hb [n0,n1,n3] (-s) (by omega);by_cases hc:ZT T [n0,n1,n3]*(-s)>0
   ·rw [if_pos hc] at e1;refine go tt [.f rfl,.t rfl,.t (decide_eq_true hc)] rfl (by simp only [U4]; first | exact ⟨⟨by omega,by omega⟩,hbb,hm,⟨by omega,by omega⟩,by decide,by omega,by omega⟩ | exact ⟨⟨by omega,by omega⟩,hbb,hm,by decide,by omega,by omega⟩) ?_;exact rd 3 (by omega) (by omega) (by rw [e1]; rfl)
   ·rw [if_neg hc] at e1;refine go tt [.f rfl,.t rfl,.f (decide_eq_false hc)] rfl (by simp only [U4]; first | exact ⟨⟨by omega,by omega⟩,hbb,hm,⟨by omega,by omega⟩,by decide,by omega,by omega⟩ | exact ⟨⟨by omega,by omega⟩,hbb,hm,by decide,by omega,by omega⟩) ?_;exact rd 3 (by omega) (by omega) (by rw [e1]; rfl)
 ·have e1:=fs 3;have e2:I9 T s [n0,n1,n2,n3] (f 3) 3=if ZT T [n0,n1,n2]*s>0 then L6 (f 3) [n0,n1,n2] (.bool true) else f 3:=rfl
  rw [e2] at e1;refine Ud [.t rfl] rfl ?_;refine Ui (S:=Nat) 4 (λL1 i=>(18,.v (.oi i))::(10,.v (.oi (if i<=3 then (i:Int) else (i:Int)-1)))::L1) (λi=>[.mpb (f 3),.mpb T,.blk 95 [.int .i64 n0,.int .i64 n1,.int .i64 n2,.int .i64 n3],.blk 84 [.int .i64 (if 1<=i then n0 else 0),.int .i64 (if 2<=i then n1 else 0),.int .i64 (if 3<=i then n2 else 0)]]) (λi=>4-i) (λi=>i<=4) 0 (by decide) rfl rfl λi hi=>?_
  rcases (show i=0\/i=1\/i=2\/i=3\/i=4 by omega) with rfl | rfl | rfl | rfl | rfl
  ·refine Ud [.t rfl,.i 0,.t rfl,.i 0] rfl ?_ (by simp [U4]);exact rd 1 (by omega) (by omega) rfl
  ·refine Ud [.t rfl,.i 1,.t rfl,.i 1] rfl ?_ (by simp [U4]);exact rd 2 (by omega) (by omega) rfl
  ·refine Ud [.t rfl,.i 2,.t rfl,.i 2] rfl ?_ (by simp [U4]);exact rd 3 (by omega) (by omega) rfl
  ·refine Ud [.t rfl,.i 3,.f rfl] rfl ?_ (by simp [U4]);exact rd 4 (by omega) (by omega) rfl
  ·have hbb:=hb [n0,n1,n2] s (by omega);by_cases hc:ZT T [n0,n1,n2]*s>0
   ·rw [if_pos hc] at e1;refine go tt [.f rfl,.f rfl,.t (decide_eq_true hc)] rfl (by simp only [U4]; first | exact ⟨⟨by omega,by omega⟩,hbb,hm,⟨by omega,by omega⟩,by decide,by omega,by omega⟩ | exact ⟨⟨by omega,by omega⟩,hbb,hm,by decide,by omega,by omega⟩) ?_;exact rd 4 (by omega) (by omega) (by rw [e1]; rfl)
   ·rw [if_neg hc] at e1;refine go tt [.f rfl,.f rfl,.f (decide_eq_false hc)] rfl (by simp only [U4]; first | exact ⟨⟨by omega,by omega⟩,hbb,hm,⟨by omega,by omega⟩,by decide,by omega,by omega⟩ | exact ⟨⟨by omega,by omega⟩,hbb,hm,by decide,by omega,by omega⟩) ?_;exact rd 4 (by omega) (by omega) (by rw [e1]; rfl)
 ·exact Uh [] [0,1] [.f rfl] rfl
end Orr
