/- TW1 TW2 R3 R4 RefPL R5 R6 RefGL R7 RatOkL R8 R9 RefCL R10 R11 R12 R13 R14 R15 R16 R17 R18 SC1 W1 W2 WR18 WS18 X19 MeshK H2 H3 MD1 MD2 -/
import Derived.Test.YtoohlnnpalgnaaaGreatPart08
import Derived.Test.YtoohlnnpalgnaaaGreatPart00
import Derived.Test.YtoohlnnpalgnaaaGreatPart07
import Derived.Test.YtoohlnnpalgnaaaGreatPart04
import Derived.Test.YtoohlnnpalgnaaaGreatPart05
set_option linter.all false
namespace Orr
open Go Go.Proofs Tryz Orq
set_option maxRecDepth 10000
def I6 (l:List (Pt×Pt)):Uq:=l.map Qbt
theorem Qnc {l m:Uq} (h:l=m):TV.one (LV.row l)=.one (.row m):=h ▸ rfl
theorem oz {P:Program} [Mo P] {n:Nat} {Q:Exit->Sg->Ur->Prop} {L L':Sg} {B B':Ur} (d off T sz:Nat) {it:List It} (hs:Rf it=true) (h:nW (P:=P) d L B [.oc d off T sz]=some (L',B',[],[])) (k:AK P n Q it L' B'):AK P n Q it L B:=AK.sub (LU h EqOk.nil) hs k
theorem Ql0 {a b:Pt} {t:Tm} (ha:Sc a.c) (hb:Sc b.c) (ht:Va t):Uh 255 [.oi 2,.agg (ta t),.one (.row [Fa a,Fa b])] [.agg (Db (Do (Fp t) a b)),.oi 0]:=by
 have h1:=M3 hb ha;have h2:=M4 hb ha;refine Fw func255 rfl ?_;refine Ub [.k Qam,.f rfl] rfl ?_;refine Ug (S:=Nat) 3 (λL1 i=>(22,.v (.oi i))::L1) (λi=>[.blk 105 (ta t),.blk 99 zCt,.blk 99 [.int .i64 2,.int .i64 (if 1<=i then a.id else 0),.int .i64 (if 2<=i then b.id else 0),.int .i64 0,.int .i64 0,.nils,.int .i64 0]]) (λi=>2-i) (λi=>i<=2) 0 (Qh _) rfl rfl λi hi=>?_
 rcases (show i=0\/i=1\/i=2 by omega) with rfl | rfl | rfl
 ·refine Ub [.t rfl,.x (i:=0) (xs:=Fa a) rfl,.i 0] rfl ?_ (by simp [Uz]);exact rd 1 (by omega) (by omega) rfl
 ·refine Ub [.t rfl,.x (i:=1) (xs:=Fa b) rfl,.i 1] rfl ?_ (by simp [Uz]);exact rd 2 (by omega) (by omega) rfl
 ·exact Ud [.f rfl,.f rfl,.t rfl,.x (i:=1) (xs:=Fa b) rfl,.x (i:=0) (xs:=Fa a) rfl,.k (WS hb.n ha.n hb.cb ha.cb),.x (i:=1) (xs:=Fa b) rfl,.x (i:=0) (xs:=Fa a) rfl,.k (WN hb.n ha.n hb.cb ha.cb),.k kJ,.k (TN (JO h1 h2).dp ht)] rfl
theorem Qeh {a:Tm} (ha:Va a) {c:Cr} {r0 r1:Uq}:∀ (k:Nat) (l:List Pt) (ms:List (Pt×Pt)),l.length≤k->l.length≤1000->ms.length+l.length≤1000000->(∀ p∈l,Sc p.c)->U5 prog 254 [.one (.ow 0 0),.agg (ta a),.one (pts l)] [.blk 223 [.bool true,pl c.now.p,sg c.now.lo.num,mg c.now.lo.num,sg (c.now.lo.den:Int),mg (c.now.lo.den:Int),sg c.now.hi.num,mg c.now.hi.num,sg (c.now.hi.den:Int),mg (c.now.hi.den:Int),.row (Bu c.l),.int .i64 c.ev,.row r0,.row r1,.orow 1 10 none],.row false 323 10 (I6 ms)] [.one (.row (Uy (Mw (Fp a) l).1))] [.blk 223 [.bool true,pl c.now.p,sg c.now.lo.num,mg c.now.lo.num,sg (c.now.lo.den:Int),mg (c.now.lo.den:Int),sg c.now.hi.num,mg c.now.hi.num,sg (c.now.hi.den:Int),mg (c.now.hi.den:Int),.row (Bu c.l),.int .i64 c.ev,.row r0,.row r1,.orow 1 10 none],.row false 323 10 (I6 (ms++(Mw (Fp a) l).2))]
 := by
  intro k
  induction k with
  | zero=>?_
  | succ k ih=>?_
  all_goals
   intro l ms hk hn hms hl;have hcl:=G0 l;show U5 prog 254 [.one (.ow 0 0),.agg (ta a),.one (.row (Uy l))] _ _ _;by_cases hs:l.length<2
   ·rw [Cg _ hs,Zw];refine Fw func254 rfl ?_;exact Uf [] [0,1] [.t (by simp [hcl]; omega)] rfl
   first
    | (exfalso; omega)
    |
     skip
     obtain ⟨k1,k2,k3,k4⟩:=Qgy hs hk;obtain ⟨h,hh⟩:=nmE ((l.length+1) / 2);obtain ⟨u,hu,hul,_⟩:=Nc (Fp a) k (l.take ((l.length+1) / 2)) k1 k3;obtain ⟨v,hv,hvl,_⟩:=Nc (Fp a) k (l.drop ((l.length+1) / 2)) k2 k4;have g1:=Dd (Fp a) _ (l.take ((l.length+1) / 2)) (Ql _);have g2:=Dd (Fp a) _ (l.drop ((l.length+1) / 2)) (Ql _);have hlt:(l.take ((l.length+1) / 2)).length+(l.drop ((l.length+1) / 2)).length=l.length:=by rw [Qt,Zj]; omega
     have c1:=ih (l.take ((l.length+1) / 2)) ms k1 (by omega) (by omega) λp hp=>hl p (Qo hp)
     have c2:=ih (l.drop ((l.length+1) / 2)) (ms++(Mw (Fp a) (l.take ((l.length+1) / 2))).2) k2 (by omega) (by rw [Qy]; omega) λp hp=>hl p (Q3 hp)
     have hpl:=Oj (Fp a) hs hu hv;rw [hpl];rw [hu] at c1;rw [hv] at c2;generalize (Mw (Fp a) (l.take ((l.length+1) / 2))).2=G1 at *;generalize (Mw (Fp a) (l.drop ((l.length+1) / 2))).2=G2 at *;have hsu:=hl u (Qo hul);have hsv:=hl v (Q3 hvl);have cb:=Qlk (t:=a) hsu hsv ha;have htd:((l.length:Int)+1).tdiv 2=(((l.length+1) / 2:Nat):Int):=rfl;have hg:∀ m,I6 (ms++(G1++G2++[m]))=I6 ((ms++G1)++G2)++[Qbt m]:=λm=>by simp [I6]
     have hml:(I6 ((ms++G1)++G2)).length=ms.length+G1.length+G2.length:=by simp [I6]; omega
     have hml2:(I6 (ms++(G1++G2))).length=ms.length+G1.length+G2.length:=by simp [I6]; omega
     have h5:=eq_true (p:=∀ z,z∈Uy l->z.length=ti40.sz) (YR l);have e1:(Uy l).take ((l.length+1) / 2)=Uy (l.take ((l.length+1) / 2)):=by simp [Uy,Jv]
     have e2:(Uy l).drop ((l.length+1) / 2)=Uy (l.drop ((l.length+1) / 2)):=by simp [Uy,Vh]
     unfold PQ;refine Fw func254 rfl ?_;by_cases hb:By (Fp a) u v=true
     ·rw [if_pos hb,hg];exact Uf [] [0,1] [.f (by simp [hcl]; omega),.r 17 (eI (b:=(((l.length+1) / 2:Nat):Int)) (by rw [hcl]; rfl)),.i ((l.length+1) / 2),.r 22 (Qnc e1),.c [0,1] c1,.i ((l.length+1) / 2),.r 28 (Qnc e2),.c [0,1] c2,.x (i:=0) (l:=Uy [u]) (xs:=Fa u) rfl,.x (i:=0) (l:=Uy [v]) (xs:=Fa v) rfl,.k cb,.f (by rw [hb]; rfl),.x (i:=0) (l:=Uy [u]) (xs:=Fa u) rfl,.x (i:=0) (l:=Uy [v]) (xs:=Fa v) rfl,.s (sz:=10) (l:=[Qbt (u,v)]) (λc hc=>by rw [Qk.1 hc]; rfl),.i 1] rfl (by simp [Uz,G0,hml2,h5]; omega)
     ·have hb:By (Fp a) u v=false:=by simpa using hb
      rw [if_neg (by simp [hb]),hg];exact Uf [] [0,1] [.f (by simp [hcl]; omega),.r 17 (eI (b:=(((l.length+1) / 2:Nat):Int)) (by rw [hcl]; rfl)),.i ((l.length+1) / 2),.r 22 (Qnc e1),.c [0,1] c1,.i ((l.length+1) / 2),.r 28 (Qnc e2),.c [0,1] c2,.x (i:=0) (l:=Uy [u]) (xs:=Fa u) rfl,.x (i:=0) (l:=Uy [v]) (xs:=Fa v) rfl,.k cb,.t (by rw [hb]; rfl),.x (i:=0) (l:=Uy [v]) (xs:=Fa v) rfl,.x (i:=0) (l:=Uy [u]) (xs:=Fa u) rfl,.s (sz:=10) (l:=[Qbt (v,u)]) (λc hc=>by rw [Qk.1 hc]; rfl),.i 1] rfl (by simp [Uz,G0,hml2,h5]; omega)
theorem AM {l:List Pt} {a:Tm} {c:Cr} {r1:Uq×Uq} (hl:∀ p∈l,Sc p.c) (hn:l.length≤1000) (ha:Va a):U5 prog 196 [.one (.ow 0 0),.agg (ta a)] [.blk 223 (To c (Uy l) r1)] [.one (.row (U6 (PS l a)))] [.blk 223 (To c (Uy l) (brT l a))]:=by
 have cp:=Qeh (r0:=Uy l) (c:=c) (r1:=r1.1) ha l.length l [] (Ql _) hn (by show 0+l.length≤1000000; omega) hl;have hms:=Dd (Fp a) l.length l (Ql _);unfold PS brT;obtain ⟨M,hM⟩:=nmE ((Mw (Fp a) l).2);have hmm:∀ m∈M,Sc m.1.c/\Sc m.2.c:=λm hm=>by
  rw [hM] at hm;exact ⟨hl _ (XD m hm).1,hl _ (XD m hm).2⟩
 rw [<-hM] at cp hms ⊢;rw [Yf] at cp;have hgl:(I6 M).length=M.length:=by simp [I6]
 refine Fw func196 rfl ?_;refine Ub [] rfl ?_;refine oz 0 14 323 10 rfl rfl ?_;refine Ub [.k If,.c [0,2] cp,.o 5 99 7] rfl ?_;refine Ug (S:=Nat) 4 (λL1 i=>(29,.v (.oi i))::(5,.v (.one (.orow 3 7 none)))::L1) (λi=>[.blk 223 [.bool true,pl c.now.p,sg c.now.lo.num,mg c.now.lo.num,sg (c.now.lo.den:Int),mg (c.now.lo.den:Int),sg c.now.hi.num,mg c.now.hi.num,sg (c.now.hi.den:Int),mg (c.now.hi.den:Int),.row (Bu c.l),.int .i64 c.ev,.row (Uy l),.row (Uy (Mw (Fp a) l).1),.orow 2 10 none],.blk 105 (ta a),.row false 323 10 (I6 M),.row false 99 7 (U6 ((M.map λm=>Do (Fp a) m.1 m.2).take i))]) (λi=>M.length-i) (λi=>i<=M.length) 0 (Qh _) rfl rfl λi hi=>?_
 by_cases hlt:i<M.length
 ·obtain ⟨m,hm⟩:=gxE (l:=M) (i:=i) hlt;obtain ⟨s1,s2⟩:=hmm m (Qa hm);have hg:(I6 M)[i]? = some (Qbt m):=Gt hm;have hq:∀ y∈[Db (Do (Fp a) m.1 m.2)],y.length=7:=λy hy=>by rw [Qk.1 hy]; rfl
  have ht:(M.map λm=>Do (Fp a) m.1 m.2).take (i+1)=(M.map λm=>Do (Fp a) m.1 m.2).take i++[Do (Fp a) m.1 m.2]:=by
   rw [Zv,Zb,hm]; rfl
  refine go tt [.T,.i i,.x hg,.i 0,.i 1,.k (Ql0 s1 s2 ha),.s (sz:=7) hq] rfl (by simp [Uz,hgl,Pa]; omega) ?_;exact rd (i+1) (by omega) hlt (by rw [ht]; simp [U6]; rfl)
 ·obtain rfl:i=M.length:=by omega
  rw [Qn (by simp)];exact Uf [2,3] [0] [.F] rfl
def Qwg (l:List Pt) (a:Tm):Cr:=⟨a,(Fq (PS l a)).map fresh,0⟩
theorem Qmg {t:Rat} {l:List Pt} {K:Nat} {c c':Cr} {r1 r1':Uq×Uq} {n:Int} (ht:Qs 1640000 t) (hl:∀ p∈l,Sc p.c) (hn:l.length≤1000) (hc:CrOk c) (hev:0≤c.ev/\c.ev+K≤1000000000000000000) (h:Fj c.now t≤0) (hg:UR (PS l) (brT l) t K c r1 0=some (c',r1',n)) :
 U5 prog 417 [.one (.ow 0 0),.agg (rl t)] [.blk 223 (To c (Uy l) r1)] [.oi n,.oi 0] [.blk 223 (To c' (Uy l) r1')]:=by
 have cg:=Qws (T:=223) (r0:=Uy l) ht (sQ hl hn) (λa c r1 ha _=>AM (c:=c) (r1:=r1) hl hn ha) hc hev h hg;refine Fw func417 rfl ?_;exact Uf [] [0] [.k (Nl (ht.mono (by decide))),.c [0] cg] rfl
theorem Qmi {c:Cr} {r0 r2:Uq} {w:Pt}:U5 prog 84 [.one (.ow 0 0)] [.blk 223 (To c r0 ([Fa w],r2))] [.oi w.id,.one (.bool true)] [.blk 223 (To c r0 ([Fa w],r2))]:=by
 refine Fw func84 rfl ?_;exact Uf [] [0] [.f rfl,.x (i:=0) (xs:=Fa w) rfl] rfl
theorem Qej {c:Cr} {r0 r2:Uq}:U5 prog 84 [.one (.ow 0 0)] [.blk 223 (To c r0 ([],r2))] [.oi 0,.one (.bool false)] [.blk 223 (To c r0 ([],r2))]:=by
 refine Fw func84 rfl ?_;exact Uf [] [0] [.t rfl] rfl
end Orr
namespace Orr
open Go Go.Proofs Tryz
set_option maxRecDepth 10000
theorem KX (x:Nat):(Bi (Gd x)).length=(Gd x).length:=Rl _
theorem Qbu (z:Int):∀ c∈[[LV.int .i64 z]],c.length=1:=λc hc=>by rw [Qk.1 hc]; rfl
theorem Qw2 {x:Nat} (h:x<=1000000000):(Gd x).length<=3:=Qaz (by omega)
theorem tdn (n:Nat):((n:Nat):Int).tdiv 10000=((n / 10000:Nat):Int):=rfl
theorem WX (n:Nat):((n:Nat):Int).tdiv 2=((n / 2:Nat):Int):=rfl
theorem WA {x mu c0:Nat} (hx:sz x<=100000000) (hmu:mu<=65536) (hc:c0<=1000000000):Uh 180 [.one (nd x),.oi mu,.oi c0] [.one (nd (x*mu+c0))]:=by
 have hxl:=Qc (Me x) hx;have hll:=KX x;show Uh 180 [.one (.row (Bi (Gd x))),.oi mu,.oi c0] _;refine Fw func180 rfl ?_;refine Uc [.r 11 (eI (b:=(((Gd x).length+2:Nat):Int)) (by rw [hll]; omega)),.i 0,.i ((Gd x).length+2)] rfl ?_;refine Ug (S:=Nat×Nat×Um) 1 (λL1 s=>(8,.v (.oi (s.1:Int)))::(7,.v (.one (.orow 0 1 none)))::(2,.v (.oi (s.2.1:Int)))::L1.filter (λx=>x.1 != 12)) (λs=>[.row false 3 1 (Bi s.2.2)]) (λs=>((Gd x).length-s.1)*4+(Gd s.2.1).length) (λs=>Dg s.2.2/\s.2.2.length=s.1/\Tc s.2.2+s.2.1*10000^s.1=Tc ((Gd x).take s.1)*mu+c0/\(s.1<=(Gd x).length\/s.1+(Gd s.2.1).length<=(Gd x).length+3)/\s.2.1<=1000000000) (0,c0,[]) ⟨Dg.nil,rfl,by simp [Tc],.inl (Qh _),hc⟩ rfl rfl λs hs=>?_
 obtain ⟨i,c,o⟩:=s;obtain ⟨hp0,hp1,hp2,hp3,hp4⟩:=hs;dsimp only at hp0 hp1 hp2 hp3 hp4 ⊢;have hcl:=Qw2 (x:=c) hp4;by_cases h1:i<(Gd x).length
 ·obtain ⟨d,hd⟩:=gxE (l:=(Gd x)) (i:=i) h1;have hd9:=B8 x d (Qa hd);have hdm:d*mu<=9999*65536:=Zf (by omega) hmu;have hc3:=Qw2 (x:=(c+d*mu) / 10000) (by omega);have hol:(Bi o).length=i:=by rw [Rl,hp1]
  refine go tt [.g 17 true Uj,.t rfl,.T,.x (Gx hd),.r 33 (eI (b:=((d*mu:Nat):Int)) (by simp)),.r 34 (eI (b:=((c+d*mu:Nat):Int)) (by omega)),.r 37 (eI (b:=(((c+d*mu) % 10000:Nat):Int)) (by rfl)),.s (sz:=1) (Qbu _),.r 41 (eI (b:=(((c+d*mu) / 10000:Nat):Int)) (by rfl))] rfl (by simp [Uz,hol,tdn,WX,-Int.natCast_add,-Int.natCast_mul]; omega) ?_;exact rd (i+1,(c+d*mu) / 10000,o++[(c+d*mu) % 10000]) (by dsimp only; omega) ⟨hp0.snoc (Nat.mod_lt _ (by decide)),by dsimp only; rw [List.length_append]; show o.length+1=_; omega,by
   dsimp only;rw [Pd,Tp hd,hp1,Nat.pow_succ]; simp only [Tc,Nat.mul_zero,Nat.add_zero]; have:=IZ (d:=d) (m:=mu) rfl hp2; rw [this]; grind,.inl (by dsimp only; omega),by dsimp only; omega⟩ (by rw [A5]; rfl)
 ·by_cases h2:0<c
  ·have hdc:=A3 (x:=c) (by omega);have hol:(Bi o).length=i:=by rw [Rl,hp1]
   refine go tt [.g 17 false Ui,.T,.F,.r 37 (eI (b:=((c % 10000:Nat):Int)) (by rfl)),.s (sz:=1) (Qbu _),.r 41 (eI (b:=((c / 10000:Nat):Int)) (by rfl))] rfl (by simp [Uz,hol,tdn,WX,-Int.natCast_add]; omega) ?_;exact rd (i+1,c / 10000,o++[c % 10000]) (by dsimp only; omega) ⟨hp0.snoc (Nat.mod_lt _ (by decide)),by dsimp only; rw [List.length_append]; show o.length+1=_; omega,by
    dsimp only;rw [Pd,hp1,Nat.pow_succ]; simp only [Tc,Nat.mul_zero,Nat.add_zero]; have:=IZ (d:=0) (m:=mu) rfl hp2; simp only [Nat.zero_mul,Nat.mul_zero,Nat.add_zero] at this; rw [this,List.take_of_length_le (by omega),List.take_of_length_le (by omega)],.inr (by dsimp only; omega),by dsimp only; omega⟩ (by rw [A5]; rfl)
  ·have cc:=HQ hp0;rw [show Tc o=x*mu+c0 from by
    have h:=hp2; rw [Qn (by omega),H8,show c=0 by omega] at h; omega] at cc
   exact Ud [.g 17 false Ui,.F,.k cc] rfl
theorem Qcj {l:Um} {j d:Nat} (h:l[j]? = some d):val (l.drop j)=d+4294967296*val (l.drop (j+1)):=by
 have hi:=(Qf.1 h).1;rw [Zr hi,(Qf.1 h).2]; rfl
theorem SE:∀ (l:Um) (j:Nat),val (l.drop j)<=val l
 | l,0=>Ql _
 | [],j+1=>by simp
 |
  x::l,j+1=>by
  have:=SE l j;rw [Wh]; simp only [val]; omega
theorem Qls {l:Um} (hu:∀ u∈l,u<4294967296) (hl:l.length≤1099511627776) (hx:sz (val l)≤100000000):Uh 146 [lr l] [.one (nd (val l))]:=by
 have hll:=U4 l;show Uh 146 [.one (.row (lm l))] _;refine Fw func146 rfl ?_;refine Uc [.z 3,.r 7 (eI (b:=((l.length:Nat):Int)-1) (by rw [hll]))] rfl ?_;refine Ug (S:=Nat×Um) 0 (λL1 s=>(4,.v (.oi ((s.1:Int)-1)))::(3,.v (.one (.row (Bi s.2))))::L1) (λ_=>[]) (λs=>s.1) (λs=>s.1<=l.length/\s.2=Gd (val (l.drop s.1))) (l.length,[]) ⟨Nat.le_refl _,by dsimp only; rw [List.drop_eq_nil_of_le (Nat.le_refl _)]; show []=Gd 0; rw [Ho]⟩ rfl rfl λs hs=>?_
 obtain ⟨j,o⟩:=s;obtain ⟨hj,ho⟩:=hs;dsimp only at hj ho ⊢;subst ho;cases j with
 | zero=>exact Ud [.f (by simp)] rfl (by rw [Xv]; rfl) trivial
 |
  succ j =>
  obtain ⟨d,hd⟩:=gxE (l:=l) (i:=j) (by omega);have hd9:=hu d (Qa hd);have hdd:=Qcj hd;have hle:=SE l j;have hs2:sz (val (l.drop (j+1))*65536+d / 65536)<=100000000:=Qc (Tr (by omega)) hx;have hs1:sz (val (l.drop (j+1)))<=100000000:=Qc (Tr (by omega)) hx;have c1:=WA (x:=val (l.drop (j+1))) (mu:=65536) (c0:=d / 65536) hs1 (by omega) (by omega);have c2:=WA (x:=val (l.drop (j+1))*65536+d / 65536) (mu:=65536) (c0:=d % 65536) hs2 (by omega) (by omega);have ej:((j+1:Nat):Int)-1=(j:Int):=by omega
  have e2:(val (l.drop (j+1))*65536+d / 65536)*65536+d % 65536=val (l.drop j):=by rw [hdd]; omega
  rw [e2] at c2;rw [ej];refine go tt [.T,.x (Gz hd),.r 17 (L9 (b:=((d / 65536:Nat):Int)) (by rfl)),.k c1,.x (Gz hd),.r 25 (L9 (b:=((d % 65536:Nat):Int)) (by rfl)),.k c2] rfl (by simp [Uz,IntKind.bits]; omega) ?_;exact rd (j,Gd (val (l.drop j))) (by dsimp only; omega) ⟨by dsimp only; omega,rfl⟩ rfl
theorem sF {x y:Nat} (hx:sz x<=200000000) (hy:sz y<=200000000):Uh 187 [.one (nd x),.one (nd y)] [.oi (ZJ x y)]:=by
 have hxl:=Qc (Me x) hx;have hyl:=Qc (Me y) hy;have lx:=KX x;have ly:=KX y;show Uh 187 [.one (.row (Bi (Gd x))),.one (.row (Bi (Gd y)))] _;refine Fw func187 rfl ?_;by_cases hl:(Gd x).length=(Gd y).length
 ·refine Uc [.f (by simp; omega),.r 18 (eI (b:=((Gd x).length:Int)-1) (by rw [lx]))] rfl ?_;refine Ug (S:=Nat) 0 (λL1 j=>(5,.v (.oi ((j:Int)-1)))::L1) (λ_=>[]) (λj=>j) (λj=>j<=(Gd x).length/\(Gd x).drop j=(Gd y).drop j) (Gd x).length ⟨Ql _,by rw [Yq (Ql _),Yq (by omega)]⟩ rfl rfl λj hs=>?_
  obtain ⟨hj,hp⟩:=hs;cases j with
  |
   zero =>
   have hxy:x=y:=by rw [Xv,Xv] at hp; rw [<-H8 x,<-H8 y,hp]
   exact Ud [.f (by simp)] rfl (by rw [dC hxy]) trivial
  |
   succ j =>
   obtain ⟨d,hd⟩:=gxE (l:=(Gd x)) (i:=j) (by omega);obtain ⟨e,he⟩:=gxE (l:=(Gd y)) (i:=j) (by omega);have ej:((j+1:Nat):Int)-1=(j:Int):=by omega
   rw [ej];by_cases h2:d=e
   ·refine Uc [.T,.x (Gx hd),.x (Gx he),.f (by simp [h2])] rfl ?_;exact rd j (by omega) ⟨by omega,by rw [Zr (by omega:j<(Gd x).length),Zr (by omega:j<(Gd y).length),hp,(Qf.1 hd).2,(Qf.1 he).2,h2]⟩ rfl
   ·by_cases h3:d<e
    ·have hxy:=BP (B8 x) hd he hp h3;rw [H8,H8] at hxy;exact Ud [.T,.x (Gx hd),.x (Gx he),.t (by simp; omega),.x (Gx hd),.x (Gx he),.T] rfl (by rw [PI hxy]) trivial
    ·have hxy:=BP (B8 y) he hd hp.symm (by omega);rw [H8,H8] at hxy;exact Ud [.T,.x (Gx hd),.x (Gx he),.t (by simp; omega),.x (Gx hd),.x (Gx he),.F] rfl (by rw [PE hxy]) trivial
 ·by_cases hlt:(Gd x).length<(Gd y).length
  ·exact Ud [.t (by simp; omega),.T] rfl (by rw [PI (wX hlt)]) trivial
  ·exact Ud [.t (by simp; omega),.F] rfl (by rw [PE (wX (by omega))]) trivial
theorem JA {o c s P V:Nat} (h:o+c*P=V):o+P*((c+s) % 10000)+(c+s) / 10000*(P*10000)=V+P*s:=by
 have e:=Xc (c+s) 10000;generalize (c+s) / 10000=q at *;generalize (c+s) % 10000=r at *;have e2:P*(c+s)=P*(10000*q+r):=by rw [e]
 grind
theorem I0 {l:Um} {i:Nat} (h:l.length<=i):Tc (l.take (i+1))=Tc (l.take i):=by rw [Qn (by omega),Qn h]
theorem lY {l:Um} {p v u:Nat} (h:l[p]? = some v):Tc (l.set p u)+10000^p*v=Tc l+10000^p*u:=by
 have hp:=(Qf.1 h).1;rw [MZ (l.set p u) p (by rw [Jr]; omega),MZ l p (by omega),ZD h,HK hp,List.take_set_of_le (Ql _)];simp only [Tc];generalize 10000^p=P;grind
theorem A6 {l:Um} {p u:Nat} (h:p<l.length):Tc ((l.set p u).take (p+1))=Tc (l.take p)+10000^p*u:=by
 rw [Tp (l:=l.set p u) (i:=p) (x:=u) (by simp [h]),List.take_set_of_le (Ql _)]
structure AddI (x y:Nat) (s:Nat×Nat×List Nat):Prop where
 d:Dg s.2.2
 l:s.2.2.length=s.1
 v:Tc s.2.2+s.2.1*10000^s.1=Tc ((Gd x).take s.1)+Tc ((Gd y).take s.1)
 c:s.2.1<=1
 b:s.1<=max (Gd x).length (Gd y).length\/s.1=max (Gd x).length (Gd y).length+1/\10000^(max (Gd x).length (Gd y).length)<=x+y/\s.2.1=0
theorem Qr5 {x y:Nat} (hx:sz x<=200000000) (hy:sz y<=200000000):Uh 186 [.one (nd x),.one (nd y)] [.one (nd (x+y))]:=by
 have hxl:=Qc (Me x) hx;have hyl:=Qc (Me y) hy;have lx:=KX x;have ly:=KX y;show Uh 186 [.one (.row (Bi (Gd x))),.one (.row (Bi (Gd y)))] _;refine Fw func186 rfl ?_;refine Ub [.o 5 3 1] rfl ?_;refine Ug (S:=Nat×Nat×Um) 1 (λL1 s=>(7,.v (.oi (s.1:Int)))::(6,.v (.oi (s.2.1:Int)))::(5,.v (.one (.orow 0 1 none)))::L1) (λs=>[.row false 3 1 (Bi s.2.2)]) (λs=>(max (Gd x).length (Gd y).length-s.1)*2+s.2.1) (AddI x y) (0,0,[]) ⟨Dg.nil,rfl,by simp [Tc],by decide,.inl (Qh _)⟩ rfl rfl λs hs=>?_
 obtain ⟨i,c,o⟩:=s;obtain ⟨hp0,hp1,hp2,hp3,hp4⟩:=hs;dsimp only at hp0 hp1 hp2 hp3 hp4 ⊢;have hol:(Bi o).length=i:=by rw [Rl,hp1]
 by_cases h1:i<(Gd x).length
 ·obtain ⟨d,hd⟩:=gxE (l:=(Gd x)) (i:=i) h1;have hd9:=B8 x d (Qa hd);by_cases h2:i<(Gd y).length
  ·obtain ⟨e,he⟩:=gxE (l:=(Gd y)) (i:=i) h2;have he9:=B8 y e (Qa he);refine go tt [.g 12 true Uj,.g 18 true rfl,.t rfl,.T,.x (Gx hd),.r 33 (eI (b:=((c+d:Nat):Int)) (by omega)),.T,.x (Gx he),.r 43 (eI (b:=((c+(d+e):Nat):Int)) (by omega)),.r 46 (eI (b:=(((c+(d+e)) % 10000:Nat):Int)) (by rfl)),.s (sz:=1) (Qbu _),.r 50 (eI (b:=(((c+(d+e)) / 10000:Nat):Int)) (by rfl))] rfl (by simp [Uz,hol,tdn,WX,-Int.natCast_add]; omega) ?_;exact rd (i+1,(c+(d+e)) / 10000,o++[(c+(d+e)) % 10000]) (by dsimp only; omega) ⟨hp0.snoc (Nat.mod_lt _ (by decide)),by dsimp only; rw [List.length_append]; show o.length+1=_; omega,by
    dsimp only;rw [Pd,hp1,Nat.pow_succ]; simp only [Tc,Nat.mul_zero,Nat.add_zero]; have:=JA (s:=d+e) hp2; rw [this,Tp hd,Tp he]; grind,by dsimp only; omega,.inl (by dsimp only; omega)⟩ (by rw [A5]; rfl)
  ·refine go tt [.g 12 true Uj,.g 18 true rfl,.t rfl,.T,.x (Gx hd),.r 33 (eI (b:=((c+d:Nat):Int)) (by omega)),.F,.r 46 (eI (b:=(((c+d) % 10000:Nat):Int)) (by rfl)),.s (sz:=1) (Qbu _),.r 50 (eI (b:=(((c+d) / 10000:Nat):Int)) (by rfl))] rfl (by simp [Uz,hol,tdn,WX,-Int.natCast_add]; omega) ?_;exact rd (i+1,(c+d) / 10000,o++[(c+d) % 10000]) (by dsimp only; omega) ⟨hp0.snoc (Nat.mod_lt _ (by decide)),by dsimp only; rw [List.length_append]; show o.length+1=_; omega,by
    dsimp only;rw [Pd,hp1,Nat.pow_succ]; simp only [Tc,Nat.mul_zero,Nat.add_zero]; have:=JA (s:=d) hp2; rw [this,Tp hd,I0 (l:=Gd y) (by omega)]; grind,by dsimp only; omega,.inl (by dsimp only; omega)⟩ (by rw [A5]; rfl)
 ·by_cases h2:i<(Gd y).length
  ·obtain ⟨e,he⟩:=gxE (l:=(Gd y)) (i:=i) h2;have he9:=B8 y e (Qa he);refine go tt [.g 12 false Ui,.g 18 true Uj,.t rfl,.F,.T,.x (Gx he),.r 43 (eI (b:=((c+e:Nat):Int)) (by omega)),.r 46 (eI (b:=(((c+e) % 10000:Nat):Int)) (by rfl)),.s (sz:=1) (Qbu _),.r 50 (eI (b:=(((c+e) / 10000:Nat):Int)) (by rfl))] rfl (by simp [Uz,hol,tdn,WX,-Int.natCast_add]; omega) ?_;exact rd (i+1,(c+e) / 10000,o++[(c+e) % 10000]) (by dsimp only; omega) ⟨hp0.snoc (Nat.mod_lt _ (by decide)),by dsimp only; rw [List.length_append]; show o.length+1=_; omega,by
    dsimp only;rw [Pd,hp1,Nat.pow_succ]; simp only [Tc,Nat.mul_zero,Nat.add_zero]; have:=JA (s:=e) hp2; rw [this,Tp he,I0 (l:=Gd x) (by omega)]; grind,by dsimp only; omega,.inl (by dsimp only; omega)⟩ (by rw [A5]; rfl)
  ·by_cases h3:0<c
   ·refine go tt [.g 12 false Ui,.g 18 false Ui,.T,.F,.F,.r 46 (eI (b:=((c % 10000:Nat):Int)) (by rfl)),.s (sz:=1) (Qbu _),.r 50 (eI (b:=((c / 10000:Nat):Int)) (by rfl))] rfl (by simp [Uz,hol,tdn,WX,-Int.natCast_add]; omega) ?_;exact rd (i+1,c / 10000,o++[c % 10000]) (by dsimp only; omega) ⟨hp0.snoc (Nat.mod_lt _ (by decide)),by dsimp only; rw [List.length_append]; show o.length+1=_; omega,by
     dsimp only;rw [Pd,hp1,Nat.pow_succ]; simp only [Tc,Nat.mul_zero,Nat.add_zero]; have:=JA (s:=0) hp2; rw [Nat.add_zero,Nat.mul_zero,Nat.add_zero] at this; rw [this,I0 (l:=Gd y) (by omega),I0 (l:=Gd x) (by omega)],by dsimp only; omega,.inr ⟨by dsimp only; omega,by
      have h:=hp2; rw [List.take_of_length_le (by omega),List.take_of_length_le (by omega),H8,H8,show c=1 by omega,Nat.one_mul,show i=(max (Gd x).length (Gd y).length) by omega] at h; omega,by dsimp only; omega⟩⟩ (by rw [A5]; rfl)
   ·have hv:Tc o=x+y:=by
     have h:=hp2;rw [Qn (by omega),Qn (by omega),H8,H8,show c=0 by omega] at h;omega
    have hfin:o=Gd (x+y):=by
     have h:=Qfr (o:=o) hp0;rw [hv] at h;refine h ?_;have m1:=ZN (x:=x) (y:=x+y) (by omega);have m2:=ZN (x:=y) (y:=x+y) (by omega);rcases hp4 with hb | ⟨_,hb,_⟩
     ·omega
     ·have:=Qay hb; omega
    exact Ud [.g 12 false Ui,.g 18 false Ui,.F] rfl (by rw [hfin]; rfl) trivial
theorem YQ {o b a c P u d e c':Nat} (h:o+b=a+c*P) (hs:u+e+c=d+10000*c'):(o+P*u)+(b+P*e)=(a+P*d)+c'*(P*10000):=by
 have e2:P*(u+e+c)=P*(d+10000*c'):=by rw [hs]
 grind
theorem QJ (o:Um) (i u:Nat):Bi (o.set i u)=(Bi o).set i [.int .i64 (u:Int)]:=by simp [Bi,Vu]
theorem sP {x y:Nat} (hx:sz x<=200000000) (hy:sz y<=200000000) (hyx:y<=x):Uh 188 [.one (nd x),.one (nd y)] [.one (nd (x-y))]:=by
 have hxl:=Qc (Me x) hx;have hyl:=Qc (Me y) hy;have lx:=KX x;have ly:=KX y;have hmy:=ZN hyx;show Uh 188 [.one (.row (Bi (Gd x))),.one (.row (Bi (Gd y)))] _;refine Fw func188 rfl ?_;refine Uc [.i (Bi (Gd x)).length,.i (Bi (Gd x)).length] rfl ?_;rw [lx,show List.replicate (Gd x).length [LV.int .i64 0]=Bi (List.replicate (Gd x).length 0) from by simp [Bi]];refine Ug (S:=Nat×Nat×Um) 1 (λL1 s=>(14,.v (.oi (s.1:Int)))::(6,.v (.oi (s.2.1:Int)))::L1) (λs=>[.row false 3 1 (Bi s.2.2)]) (λs=>(Gd x).length-s.1) (λs=>s.1<=(Gd x).length/\s.2.2.length=(Gd x).length/\Dg s.2.2/\Tc (s.2.2.take s.1)+Tc ((Gd y).take s.1)=Tc ((Gd x).take s.1)+s.2.1*10000^s.1/\s.2.1<=1) (0,0,List.replicate (Gd x).length 0) ⟨Qh _,Je ..,Dg.zeros _,by simp [Tc],Qh _⟩ rfl rfl λs hs=>?_
 obtain ⟨i,c,o⟩:=s;obtain ⟨hp0,hp1,hp2,hp3,hp4⟩:=hs;dsimp only at hp0 hp1 hp2 hp3 hp4 ⊢;have hol:(Bi o).length=(Gd x).length:=by rw [Rl,hp1]
 by_cases h1:i<(Gd x).length
 ·obtain ⟨d,hd⟩:=gxE (l:=(Gd x)) (i:=i) h1;have hd9:=B8 x d (Qa hd);by_cases h2:i<(Gd y).length
  ·obtain ⟨e,he⟩:=gxE (l:=(Gd y)) (i:=i) h2;have he9:=B8 y e (Qa he);by_cases h3:d<c+e
   ·refine go tt [.T,.x (Gx hd),.T,.x (Gx he),.T,.r 36 (eI (b:=((d+10000-c-e:Nat):Int)) (by omega)),.i i] rfl (by simp [Uz,hol,tdn,WX,-Int.natCast_add]; omega) ?_;exact rd (i+1,1,o.set i (d+10000-c-e)) (by dsimp only; omega) ⟨by dsimp only; omega,by dsimp only; rw [List.length_set]; exact hp1,hp2.set (by omega),by
     dsimp only;rw [A6 (by omega),Tp hd,Tp he,Nat.pow_succ]; exact YQ hp3 (u:=d+10000-c-e) (d:=d) (e:=e) (c':=1) (by omega),by dsimp only; omega⟩ (by rw [QJ]; rfl)
   ·refine go tt [.T,.x (Gx hd),.T,.x (Gx he),.r 32 (eI (b:=((d-c-e:Nat):Int)) (by omega)),.F,.i i] rfl (by simp [Uz,hol,tdn,WX,-Int.natCast_add]; omega) ?_;exact rd (i+1,0,o.set i (d-c-e)) (by dsimp only; omega) ⟨by dsimp only; omega,by dsimp only; rw [List.length_set]; exact hp1,hp2.set (by omega),by
     dsimp only;rw [A6 (by omega),Tp hd,Tp he,Nat.pow_succ]; exact YQ hp3 (u:=d-c-e) (d:=d) (e:=e) (c':=0) (by omega),by dsimp only; omega⟩ (by rw [QJ]; rfl)
  ·have hy0:Tc ((Gd y).take (i+1))=Tc ((Gd y).take i)+10000^i*0:=by rw [I0 (by omega),Yw,Xk]
   by_cases h3:d<c
   ·refine go tt [.T,.x (Gx hd),.F,.T,.r 36 (eI (b:=((d+10000-c:Nat):Int)) (by omega)),.i i] rfl (by simp [Uz,hol,tdn,WX,-Int.natCast_add]; omega) ?_;exact rd (i+1,1,o.set i (d+10000-c)) (by dsimp only; omega) ⟨by dsimp only; omega,by dsimp only; rw [List.length_set]; exact hp1,hp2.set (by omega),by
     dsimp only;rw [A6 (by omega),Tp hd,hy0,Nat.pow_succ]; exact YQ hp3 (u:=d+10000-c) (d:=d) (e:=0) (c':=1) (by omega),by dsimp only; omega⟩ (by rw [QJ]; rfl)
   ·refine go tt [.T,.x (Gx hd),.r 22 (eI (b:=((d-c:Nat):Int)) (by omega)),.F,.F,.i i] rfl (by simp [Uz,hol,tdn,WX,-Int.natCast_add]; omega) ?_;exact rd (i+1,0,o.set i (d-c)) (by dsimp only; omega) ⟨by dsimp only; omega,by dsimp only; rw [List.length_set]; exact hp1,hp2.set (by omega),by
     dsimp only;rw [A6 (by omega),Tp hd,hy0,Nat.pow_succ]; exact YQ hp3 (u:=d-c) (d:=d) (e:=0) (c':=0) (by omega),by dsimp only; omega⟩ (by rw [QJ]; rfl)
 ·have hi:i=(Gd x).length:=by omega
  have hv:Tc o=x-y:=by
   have h:=hp3;rw [Qn (by omega),Qn (by omega),Qn (by omega),H8,H8] at h;have hlt:=BD hp2;rw [hp1,<-hi] at hlt;have hc0:c=0:=by
    rcases Q0 c with h0 | h0
    ·exact h0
    ·exfalso;have:c=1:=by omega
     rw [this,Wn] at h; omega
   rw [hc0] at h; omega
  have cc:=HQ hp2;rw [hv] at cc;exact Ud [.F,.k cc] rfl
theorem BB {o o2 c P u v s V:Nat} (h:o+c*P=V) (hs:o2+P*v=o+P*u) {q:Nat} (hu:u+10000*q=v+c+s):o2+q*(P*10000)=V+P*s:=by
 have e2:P*(u+10000*q)=P*(v+c+s):=by rw [hu]
 grind
theorem Qw3 (S:Nat):S % 10000+10000*(S / 10000)=S:=W6 S 10000
structure MulI (x y i d:Nat) (s:Nat×Nat×List Nat):Prop where
 l:s.2.2.length=(Gd x).length+(Gd y).length
 dg:Dg s.2.2
 v:Tc s.2.2+s.2.1*10000^(i+s.1)=Tc ((Gd x).take i)*y+10000^i*d*Tc ((Gd y).take s.1)
 c:s.2.1<10000
 b:s.1<=(Gd y).length/\(∀ j v,i+(Gd y).length<=j->s.2.2[j]? = some v->v=0)\/s.1=(Gd y).length+1/\s.2.1=0/\∀ j v,i+(Gd y).length+1<=j->s.2.2[j]? = some v->v=0
theorem Qsg {x y:Nat} (hx:sz x<=200000000) (hy:sz y<=200000000):Uh 145 [.one (nd x),.one (nd y)] [.one (nd (x*y))]:=by
 have hxl:=Qc (Me x) hx;have hyl:=Qc (Me y) hy;have lx:=KX x;have ly:=KX y;show Uh 145 [.one (.row (Bi (Gd x))),.one (.row (Bi (Gd y)))] _;refine Fw func145 rfl ?_;refine Uc [.r 14 (eI (b:=(((Gd x).length+(Gd y).length:Nat):Int)) (by rw [lx,ly]; omega)),.i ((Gd x).length+(Gd y).length),.i ((Gd x).length+(Gd y).length)] rfl ?_;rw [show List.replicate ((Gd x).length+(Gd y).length) [LV.int .i64 0]=Bi (List.replicate ((Gd x).length+(Gd y).length) 0) from by simp [Bi]];refine Ug (S:=Nat×Um) 1 (λL1 s=>(18,.v (.oi (s.1:Int)))::L1) (λs=>[.row false 3 1 (Bi s.2)]) (λs=>(Gd x).length-s.1) (λs=>s.1<=(Gd x).length/\s.2.length=(Gd x).length+(Gd y).length/\Dg s.2/\Tc s.2=Tc ((Gd x).take s.1)*y/\∀ j v,s.1+(Gd y).length<=j->s.2[j]? = some v->v=0) (0,List.replicate ((Gd x).length+(Gd y).length) 0) ⟨Qh _,Je ..,Dg.zeros _,by rw [BL (λx hx=>Zx hx)]; simp [Tc],λj v _ hv=>Zx (Qa hv)⟩ rfl rfl λs hs=>?_
 obtain ⟨i,o⟩:=s;obtain ⟨hp0,hp1,hp2,hp3,hp4⟩:=hs;dsimp only at hp0 hp1 hp2 hp3 hp4 ⊢;by_cases h1:i<(Gd x).length
 ·obtain ⟨d,hd⟩:=gxE (l:=(Gd x)) (i:=i) h1;have hd9:=B8 x d (Qa hd);refine Ub [.T] rfl ?_;refine Ug (S:=Nat×Nat×Um) 1 (λL1 s=>(8,.v (.oi (s.1:Int)))::(7,.v (.oi (s.2.1:Int)))::L1) (λs=>[.row false 3 1 (Bi s.2.2)]) (λs=>((Gd y).length-s.1)*2+min s.2.1 1) (MulI x y i d) (0,0,o) ⟨hp1,hp2,by dsimp only; rw [hp3]; simp [Tc],by show 0<10000; decide,.inl ⟨Nat.zero_le _,hp4⟩⟩ rfl rfl λs hs=>?_
  obtain ⟨k,c,o2⟩:=s;obtain ⟨hq0,hq1,hq2,hq3,hq4⟩:=hs;dsimp only at hq0 hq1 hq2 hq3 hq4 ⊢;have hol:(Bi o2).length=(Gd x).length+(Gd y).length:=by rw [Rl,hq0]
  by_cases h2:k<(Gd y).length
  ·obtain ⟨e,he⟩:=gxE (l:=(Gd y)) (i:=k) h2;have he9:=B8 y e (Qa he);have hde:d*e<=9999*9999:=Zf (by omega) (by omega);obtain ⟨v,hoi⟩:=gxE (l:=o2) (i:=i+k) (by omega);have hv9:=hq1 v (Qa hoi);refine go tt [.g 25 true Uj,.t rfl,.r 34 (eI (b:=((i+k:Nat):Int)) (by omega)),.i (i+k),.x (Gx hoi),.r 38 (eI (b:=((v+c:Nat):Int)) (by omega)),.T,.x (Gx hd),.x (Gx he),.r 52 (eI (b:=((d*e:Nat):Int)) (by simp)),.r 53 (eI (b:=((v+c+d*e:Nat):Int)) (by omega)),.r 57 (eI (b:=((i+k:Nat):Int)) (by omega)),.r 59 (eI (b:=(((v+c+d*e) % 10000:Nat):Int)) (by rfl)),.i (i+k),.r 62 (eI (b:=(((v+c+d*e) / 10000:Nat):Int)) (by rfl))] rfl (by simp [Uz,hol,tdn,WX,-Int.natCast_add,-Int.natCast_mul]; omega) ?_;exact rd (k+1,(v+c+d*e) / 10000,o2.set (i+k) ((v+c+d*e) % 10000)) (by dsimp only; omega) ⟨by dsimp only; rw [List.length_set]; exact hq0,hq1.set (Nat.mod_lt _ (by decide)),by
    dsimp only;rw [<-Nat.add_assoc i k 1,Nat.pow_succ]; have:=BB hq2 (lY hoi (u:=((v+c)+(d*e)) % 10000)) (s:=d*e) (q:=((v+c)+(d*e)) / 10000) (by rw [Qw3]); rw [this,Tp he,Nat.pow_add]; grind,by dsimp only; omega,.inl ⟨by dsimp only; omega,λj w hj hw=>(by
     dsimp only at hw;rcases hq4 with ⟨_,h⟩ | ⟨_,_,h⟩ <;> (rw [Yc (by omega)] at hw; exact h j w (by omega) hw))⟩⟩ (by rw [QJ]; rfl)
  ·by_cases h3:0<c
   ·have hk:k=(Gd y).length:=by omega
    have hz:∀ j v,i+(Gd y).length<=j->o2[j]? = some v->v=0:=by
     rcases hq4 with ⟨_,h⟩ | ⟨_,h,_⟩
     ·exact h
     ·omega
    obtain ⟨v,hoi⟩:=gxE (l:=o2) (i:=i+k) (by omega);have hv0:v=0:=hz (i+k) v (by omega) hoi;have hv9:=hq1 v (Qa hoi);refine go tt [.g 25 false Ui,.T,.r 34 (eI (b:=((i+k:Nat):Int)) (by omega)),.i (i+k),.x (Gx hoi),.r 38 (eI (b:=((v+c:Nat):Int)) (by omega)),.F,.r 57 (eI (b:=((i+k:Nat):Int)) (by omega)),.r 59 (eI (b:=(((v+c) % 10000:Nat):Int)) (by rfl)),.i (i+k),.r 62 (eI (b:=(((v+c) / 10000:Nat):Int)) (by rfl))] rfl (by simp [Uz,hol,tdn,WX,-Int.natCast_add]; omega) ?_;exact rd (k+1,(v+c) / 10000,o2.set (i+k) ((v+c) % 10000)) (by dsimp only; omega) ⟨by dsimp only; rw [List.length_set]; exact hq0,hq1.set (Nat.mod_lt _ (by decide)),by
     dsimp only;rw [<-Nat.add_assoc i k 1,Nat.pow_succ]; have:=BB hq2 (lY hoi (u:=(v+c) % 10000)) (s:=0) (q:=(v+c) / 10000) (by rw [Qw3]; rfl); rw [this,Nat.mul_zero,Nat.add_zero,I0 (by omega)],by dsimp only; omega,.inr ⟨by dsimp only; omega,by dsimp only; omega,λj w hj hw=>(by
      dsimp only at hw;rw [Yc (by omega)] at hw; exact hz j w (by omega) hw)⟩⟩ (by rw [QJ]; rfl)
   ·refine Uc [.g 25 false Ui,.F] rfl ?_;exact rd (i+1,o2) (by dsimp only; omega) ⟨by dsimp only; omega,hq0,hq1,by
     dsimp only;rw [Tp hd,X2]; have h:=hq2; rw [show c=0 by omega,Qn (l:=Gd y) (i:=k) (by omega),H8] at h; rw [Yh,Xk] at h; exact h,by
     dsimp only;rcases hq4 with ⟨_,h⟩ | ⟨_,_,h⟩
     ·exact λj w hj hw=>h j w (by omega) hw
     ·exact λj w hj hw=>h j w (by omega) hw⟩ rfl
 ·have hv:Tc o=x*y:=by rw [hp3,Qn (by omega),H8]
  have cc:=HQ hp2;rw [hv] at cc;exact Ud [.F,.k cc] rfl
theorem dL {x y:Nat}:ZJ x y<=0↔x<=y:=by
 unfold ZJ;constructor
 ·intro h; split at h
  ·omega
  ·split at h <;> omega
 ·intro h; split
  ·omega
  ·split <;> omega
theorem Qa1 {R y lo:Nat} (h1:y*lo<=R) (h2:R<y*(lo+1)):R / y=lo/\R % y=R-y*lo:=by
 have hy:0<y:=by
  rcases Q0 y with h | h
  ·subst h; simp at h2
  ·exact h
 have e:R / y=lo:=Nat.div_eq_of_lt_le (by rw [Zp]; exact h1) (by rw [Zp]; exact h2);refine ⟨e,?_⟩;have:=Xc R y;rw [e] at this; omega
theorem Qjy {R y:Nat} (h:R<y*10000):sz R<=sz y+14:=by
 refine Ni.2 (Z6 h ?_);have:=UD y;rw [Xd];have e:(2:Nat)^14=16384:=by decide
 rw [e]; exact Zf (by omega) (by decide)
theorem Qcd (y:Nat):sz (y*10000)<=sz y+14:=by
 refine Ni.2 ?_;have:=UD y;rw [Xd];have e:(2:Nat)^14=16384:=by decide
 rw [e]; omega
theorem Qdo {x y:Nat} (hx:sz x<=90000000) (hy:sz y<=90000000) (hy0:0<y):Uh 210 [.one (nd x),.one (nd y)] [.one (nd (x / y)),.one (nd (x % y))]:=by
 have hxl:=Qc (Me x) hx;have hyl:=Qc (Me y) hy;have lx:=KX x;show Uh 210 [.one (.row (Bi (Gd x))),.one (nd y)] _;refine Fw func210 rfl ?_;refine Uc [.i (Bi (Gd x)).length,.i (Bi (Gd x)).length,.z 7,.r 17 (eI (b:=((Gd x).length:Int)-1) (by rw [lx]))] rfl ?_;rw [lx,show List.replicate (Gd x).length [LV.int .i64 0]=Bi (List.replicate (Gd x).length 0) from by simp [Bi]];refine Ug (S:=Nat×Um×Um) 1 (λL1 s=>(8,.v (.oi ((s.1:Int)-1)))::(7,.v (.one (.row (Bi s.2.1))))::L1) (λs=>[.row false 3 1 (Bi s.2.2)]) (λs=>s.1) (λs=>s.1<=(Gd x).length/\s.2.2.length=(Gd x).length/\Dg s.2.2/\Tc (s.2.2.drop s.1)=Tc ((Gd x).drop s.1) / y/\s.2.1=Gd (Tc ((Gd x).drop s.1) % y)) ((Gd x).length,[],List.replicate (Gd x).length 0) ⟨Nat.le_refl _,List.length_replicate ..,Dg.zeros _,by dsimp only; rw [List.drop_eq_nil_of_le (by simp),List.drop_eq_nil_of_le (Nat.le_refl _)]; simp [Tc],by dsimp only; rw [List.drop_eq_nil_of_le (Nat.le_refl _)]; simp [Tc,Ho]⟩ rfl rfl λs hs=>?_
 obtain ⟨j,R,o⟩:=s;obtain ⟨hp0,hp1,hp2,hp3,hp4⟩:=hs;dsimp only at hp0 hp1 hp2 hp3 hp4 ⊢;cases j with
 |
  zero =>
  have cc:=HQ hp2;rw [Xv,Xv,H8] at hp3;rw [Xv,H8] at hp4;rw [hp3] at cc;exact Ud [.f (by simp),.k cc] rfl (by rw [hp4]; rfl) trivial
 |
  succ j =>
  obtain ⟨d,hd⟩:=gxE (l:=(Gd x)) (i:=j) (by omega);have hd9:=B8 x d (Qa hd);have hdd:=ZD hd;obtain ⟨hq1,hq2,hq3⟩:=wW (V:=Tc ((Gd x).drop (j+1))) (kd:=y) (d:=d) hy0;rw [<-hdd] at hq1 hq2;have hq3:=hq3 hd9;obtain ⟨rr,hrr0⟩:=nmE (Tc ((Gd x).drop (j+1)) % y);have hrr:rr<y:=by rw [hrr0]; exact Z5 _ hy0
  rw [<-hrr0] at hp4 hq1 hq2 hq3;subst hp4;have hrl:(Gd rr).length<=(Gd y).length:=ZN (by omega);have hR:rr*10000+d<y*10000:=by omega
  have hRs:=Qjy hR;have hdv:Dg (d::Gd rr):=λz hz=>by
   rcases Qm.1 hz with rfl | hz
   ·exact hd9
   ·exact B8 rr z hz
  have cc:=HQ hdv;rw [show Tc (d::Gd rr)=rr*10000+d from by simp only [Tc]; rw [H8]; omega] at cc;have hol:(Bi o).length=(Gd x).length:=by rw [Rl,hp1]
  have hrrl:=Rl (Gd rr);have ej:((j+1:Nat):Int)-1=(j:Int):=by omega
  rw [ej];refine go tt [.T,.x (Gx hd),.lo,.s (sz:=1) (Qte (Gd rr)),.k cc] rfl (by simp [Uz,KX]; omega) ?_;refine Ug (S:=Nat×Nat) 2 (λL1 s=>(9,.v (.oi (s.1:Int)))::(10,.v (.oi (s.2:Int)))::L1) (λ_=>[.row false 3 1 (Bi o),.gone]) (λs=>s.2-s.1) (λs=>s.1<=s.2/\s.2<=9999/\y*s.1<=rr*10000+d/\rr*10000+d<y*(s.2+1)) (0,9999) ⟨by decide,by decide,by dsimp only; omega,by dsimp only; omega⟩ rfl rfl λs hs=>?_
  obtain ⟨lo,hi⟩:=s;obtain ⟨hb0,hb1,hb2,hb3⟩:=hs;dsimp only at hb0 hb1 hb2 hb3 ⊢;by_cases h2:lo<hi
  ·obtain ⟨m,hm⟩:=nmE ((lo+hi+1) / 2);have hym:y*m<=y*10000:=Zu y (by omega);have c1:=WA (x:=y) (mu:=m) (c0:=0) (by omega) (by omega) (by omega);have c2:=sF (x:=y*m+0) (y:=rr*10000+d) (Qc (Tr (show _<=y*10000 by omega)) (Qc (Qcd y) (by omega))) (by omega);by_cases h3:y*m+0<=rr*10000+d
   ·refine go tt [.T,.r 35 (eI (b:=((lo+hi:Nat):Int)) (by omega)),.r 36 (eI (b:=((lo+hi+1:Nat):Int)) (by omega)),.r 37 (eI (b:=(m:Int)) (by rw [hm]; rfl)),.k c1,.k c2,.t (decide_eq_true (dL.2 h3))] rfl (by simp [Uz,WX,-Int.natCast_add]; omega) ?_;exact rd (m,hi) (by dsimp only; omega) ⟨by dsimp only; omega,hb1,by dsimp only; omega,hb3⟩ rfl
   ·refine go tt [.T,.r 35 (eI (b:=((lo+hi:Nat):Int)) (by omega)),.r 36 (eI (b:=((lo+hi+1:Nat):Int)) (by omega)),.r 37 (eI (b:=(m:Int)) (by rw [hm]; rfl)),.k c1,.k c2,.f (decide_eq_false λh=>h3 (dL.1 h)),.r 46 (eI (b:=((m-1:Nat):Int)) (by omega))] rfl (by simp [Uz,WX,-Int.natCast_add]; omega) ?_;exact rd (lo,m-1) (by dsimp only; omega) ⟨by dsimp only; omega,by dsimp only; omega,hb2,by dsimp only; rw [show m-1+1=m by omega]; omega⟩ rfl
  ·have hlh:lo=hi:=by omega
   have hfd:=Qa1 hb2 (by rw [hlh]; exact hb3);have c1:=WA (x:=y) (mu:=lo) (c0:=0) (by omega) (by omega) (by omega);have c2:=sP (x:=rr*10000+d) (y:=y*lo+0) (by omega) (Qc (Tr (show _<=rr*10000+d by omega)) (by omega)) (by omega);rw [show rr*10000+d-(y*lo+0)=Tc ((Gd x).drop j) % y from by rw [hq2,hfd.2]; omega] at c2;refine go tt [.F,.i j,.k c1,.k c2] rfl (by simp [Uz,hol,tdn,WX,-Int.natCast_add]; omega) ?_;exact rd (j,Gd (Tc ((Gd x).drop j) % y),o.set j lo) (by dsimp only; omega) ⟨by dsimp only; omega,by dsimp only; rw [List.length_set]; exact hp1,hp2.set (by omega),by
    dsimp only;rw [HK (by omega)]; simp only [Tc]; rw [hp3,hq1,hfd.1],rfl⟩ (by rw [QJ]; rfl)
theorem Qpb {a b:Int} (h:(decide (a<0) == decide (b<0))=true):Fb (decide (a<0)) (a.natAbs+b.natAbs)=a+b:=by
 unfold Fb;by_cases h1:a<0 <;> by_cases h2:b<0 <;> simp [h1,h2] at h ⊢ <;> omega
theorem Qpe {a b:Int} (h:¬(decide (a<0) == decide (b<0))=true) (hl:b.natAbs<=a.natAbs):Fb (decide (a<0)) (a.natAbs-b.natAbs)=a+b:=by
 unfold Fb;by_cases h1:a<0 <;> by_cases h2:b<0 <;> simp [h1,h2] at h ⊢ <;> omega
theorem Qjf {a b:Int} (h:¬(decide (a<0) == decide (b<0))=true) (hl:¬b.natAbs<=a.natAbs):Fb (decide (b<0)) (b.natAbs-a.natAbs)=a+b:=by
 unfold Fb;by_cases h1:a<0 <;> by_cases h2:b<0 <;> simp [h1,h2] at h ⊢ <;> omega
theorem YT (a:Int):(∃ m:Nat,a=(m:Int))\/∃ m:Nat,a=-(m:Int)/\0<m:=by
 rcases K9 a 0 with h | h
 ·exact .inr ⟨a.natAbs,by omega,by omega⟩
 ·exact .inl ⟨a.natAbs,by omega⟩
theorem Qpd (a b:Int):Fb (!(decide (a<0) == decide (b<0))) (a.natAbs*b.natAbs)=a*b:=by
 rcases YT a with ⟨m,rfl⟩ | ⟨m,rfl,hm⟩ <;> rcases YT b with ⟨n,rfl⟩ | ⟨n,rfl,hn⟩
 ·simp [Fb,show ¬((m:Int)<0) by omega,show ¬((n:Int)<0) by omega]
 ·simp [Fb,show ¬((m:Int)<0) by omega,show (-(n:Int)<0) by omega,hn,Kn]
 ·simp [Fb,show (-(m:Int)<0) by omega,show ¬((n:Int)<0) by omega,hm,Ko]
 ·simp [Fb,show (-(m:Int)<0) by omega,show (-(n:Int)<0) by omega,hm,hn,W5]
theorem Qpc {a b:Int} (h:a % b=0):Fb (!(decide (a<0) == decide (b<0))) (a.natAbs / b.natAbs)=a / b:=by
 by_cases hb:b=0
 ·subst hb; simp [Fb]
 obtain ⟨c,rfl⟩:=Vf h;rw [Jd _ hb,J6,Nat.mul_div_cancel_left _ (by omega)];rcases YT b with ⟨n,rfl⟩ | ⟨n,rfl,hn⟩ <;> rcases YT c with ⟨m,rfl⟩ | ⟨m,rfl,hm⟩
 ·have:¬((n:Int)*(m:Int)<0):=by rw [<-Vj]; omega
  simp [Fb,this,show ¬((n:Int)<0) by omega]
 ·have h1:0<n*m:=J4 (by omega) hm;have:((n:Int)*-(m:Int)<0):=by rw [Kn,<-Vj]; omega
  simp only [this,show ¬((n:Int)<0) by omega];simp [Fb]
 ·by_cases h0:m=0
  ·subst h0; simp [Fb]
  ·have h1:0<n*m:=J4 hn (by omega);have:(-(n:Int)*(m:Int)<0):=by rw [Ko,<-Vj]; omega
   simp only [this,show (-(n:Int)<0) by omega];simp [Fb]
 ·have:¬(-(n:Int)*-(m:Int)<0):=by rw [W5,<-Vj]; omega
  simp only [this,show (-(n:Int)<0) by omega];simp [Fb]
theorem Qjm (a b:Int):Int.sign (a-b)=B7 a b:=by
 unfold B7;rcases Y3 a b with h | h | h
 ·rw [if_pos h,X4 (by omega)]
 ·rw [if_neg (by omega),if_neg (by omega),h,Int.sub_self]; rfl
 ·rw [if_neg (by omega),if_pos h,Jm (by omega)]
theorem dD {x y:Nat}:0<=ZJ x y↔y<=x:=by
 unfold ZJ;constructor
 ·intro h; split at h
  ·omega
  ·omega
 ·intro h; split
  ·omega
  ·split <;> omega
theorem BR {x e:Nat} (h:(Gd x).length=1) (he:(Gd x)[0]? = some e):x=e:=by
 rcases hd:Gd x with _ | ⟨u,l⟩
 ·rw [hd] at h; cases h
 ·rcases l with _ | ⟨w,l⟩
  ·rw [hd] at he; simp at he;have:=H8 x;rw [hd] at this; simp [Tc] at this; omega
  ·rw [hd] at h; simp at h
theorem pB {a b:Int} (hb:0<b):ri (a / ((Int.gcd a b:Nat):Int))++ri (b / ((Int.gcd a b:Nat):Int))=fr (Rat.divInt a b):=by
 obtain ⟨h1,h2⟩:=eN (n:=a) hb;rw [Dz,Int.gcd_comm] at h1 h2;rw [h1,h2]
theorem pC (a:Int):ri a++ri 1=fr (Rat.divInt a 1):=by
 have h:=pB (a:=a) (b:=1) (by decide);rw [show ((Int.gcd a 1:Nat):Int)=1 by simp] at h;simpa using h
theorem OQ {a b:Int} (hb:b≠0) (ha2:Fe a<=90000000) (hb2:Fe b<=90000000):Fe ((Int.gcd a b:Nat):Int)<=90000000/\((Int.gcd a b:Nat):Int)≠0/\a % ((Int.gcd a b:Nat):Int)=0/\b % ((Int.gcd a b:Nat):Int)=0:=by
 have h1:=lI (n:=a) hb hb2;have h2:=uX (n:=a) hb;have h3:=CH a b;have h4:=CS a b;rw [Dz,Int.gcd_comm] at h1 h2 h3 h4;exact ⟨h1,by omega,h3,h4⟩
theorem qU {a b:Int} (h:b<0):Gu a b=Rat.divInt (-a) (-b):=by
 unfold Gu; rw [if_neg (by omega)];exact (Rat.neg_divInt_neg a b).symm
theorem RN {a b:Int} (h:0<b):Gu a b=Rat.divInt a b:=by
 unfold Gu; rw [if_neg (by omega)]
theorem oK (a b:Rat):Gu (a.num*(b.den:Int)+b.num*(a.den:Int)) ((a.den:Int)*(b.den:Int))=a+b:=by
 unfold Gu;rw [if_neg (Jp (E4 a) (E4 b)),<-Rat.divInt_add_divInt _ _ (E4 a) (E4 b),Z2,Z2]
theorem OP (a b:Rat):Gu (a.num*b.num) ((a.den:Int)*(b.den:Int))=a*b:=by
 unfold Gu;rw [if_neg (Jp (E4 a) (E4 b)),<-K0,Z2,Z2]
theorem qW {a b:Rat} (h:b≠0):Gu (a.num*(b.den:Int)) ((a.den:Int)*b.num)=a / b:=by
 have hn:b.num≠0:=λe=>h (Rat.num_eq_zero.1 e)
 unfold Gu;rw [if_neg (Jp (E4 a) hn),<-K0,Z2,Jn];congr 1
 conv=>rhs; rw [<-Z2 b,Rat.inv_divInt]
theorem Qml {z:Int}:Uh 143 [.agg (ri z)] [.oi (Int.sign z)]:=by
 have hn:=UX (x:=z.natAbs);have hl:=KX z.natAbs;rcases Y3 z 0 with h | h | h
 ·rw [X4 h];exact Ue func143 rfl [.f (by simp only [Rl]; exact decide_eq_false (by omega)),.t (decide_eq_true h)] rfl
 ·subst h;exact Ue func143 rfl [.t (by simp only [Rl]; show decide (((Gd 0).length:Int)=0)=true; rw [Ho]; rfl)] rfl
 ·rw [Jm h];exact Ue func143 rfl [.f (by simp only [Rl]; exact decide_eq_false (by omega)),.F] rfl
theorem Qer {a b:Int} (ha:Fe a<=200000000) (hb:Fe b<=200000000):Uh 115 [.agg (ri a),.agg (ri b)] [.agg (ri (a+b))]:=by
 by_cases hs:(decide (a<0) == decide (b<0))=true
 ·have cm:=Ax (decide (a<0)) (a.natAbs+b.natAbs);rw [Qpb hs] at cm;exact Ue func115 rfl [.t hs,.k (Qr5 ha hb),.k cm] rfl
 ·have hs':(decide (a<0) == decide (b<0))=false:=by simpa using hs
  by_cases hl:b.natAbs<=a.natAbs
  ·have cm:=Ax (decide (a<0)) (a.natAbs-b.natAbs);rw [Qpe hs hl] at cm;exact Ue func115 rfl [.f hs',.k (sF ha hb),.t (decide_eq_true (dD.2 hl)),.k (sP ha hb hl),.k cm] rfl
  ·have cm:=Ax (decide (b<0)) (b.natAbs-a.natAbs);rw [Qjf hs hl] at cm;exact Ue func115 rfl [.f hs',.k (sF ha hb),.f (decide_eq_false λh=>hl (dD.1 h)),.k (sP hb ha (by omega)),.k cm] rfl
theorem Qes {a b:Int} (ha:Fe a<=200000000) (hb:Fe b<=200000000):Uh 144 [.agg (ri a),.agg (ri b)] [.agg (ri (a-b))]:=by
 have ca:=Qer (a:=a) (b:=-b) ha (by rw [Hx]; exact hb);rw [show a+-b=a-b from by omega] at ca;exact Ue func144 rfl [.k (O7 (z:=b)),.k ca] rfl
theorem C7 {a b:Int} (ha:Fe a<=200000000) (hb:Fe b<=200000000):Uh 73 [.agg (ri a),.agg (ri b)] [.agg (ri (a*b))]:=by
 have cm:=Ax (!(decide (a<0) == decide (b<0))) (a.natAbs*b.natAbs);rw [Qpd] at cm;exact Ue func73 rfl [.k (Qsg ha hb),.k cm] rfl
theorem Qss {a b:Int} (ha:Fe a<=200000000) (hb:Fe b<=200000000):Uh 72 [.agg (ri a),.agg (ri b)] [.oi (B7 a b)]:=by
 have h:=Qml (z:=a-b);rw [Qjm] at h;exact Ue func72 rfl [.k (Qes ha hb),.k h] rfl
theorem NE {a b:Int} (ha:Fe a<=90000000) (hb:Fe b<=90000000) (h0:b≠0) (hd:a % b=0):Uh 139 [.agg (ri a),.agg (ri b)] [.agg (ri (a / b))]:=by
 have cm:=Ax (!(decide (a<0) == decide (b<0))) (a.natAbs / b.natAbs);rw [Qpc hd] at cm;exact Ue func139 rfl [.k (Qdo ha hb (by omega)),.k cm] rfl
theorem Qu0 (x:Nat):ri ((x:Nat):Int)=[nd x,.bool false]:=by
 unfold ri sg;rw [Xf,decide_eq_false (by omega)]
theorem zI {a b:Int} (ha:Fe a<=90000000) (hb:Fe b<=90000000):Uh 138 [.agg (ri a),.agg (ri b)] [.agg (ri ((Int.gcd a b:Nat):Int))]:=by
 rw [Qu0];refine Fw func138 rfl ?_;refine Ub [] rfl ?_;refine Ug (S:=Nat×Nat) 3 (λL1 s=>(5,.v (.one (nd s.1)))::(6,.v (.one (nd s.2)))::L1) (λ_=>[.blk 49 (ri a),.blk 49 (ri b),.blk 49 [.nils,.bool false]]) (λs=>s.2) (λs=>Nat.gcd s.1 s.2=Int.gcd a b/\sz s.1<=90000000/\sz s.2<=90000000) (a.natAbs,b.natAbs) ⟨rfl,ha,hb⟩ rfl rfl λs hs=>?_
 obtain ⟨x,y⟩:=s;obtain ⟨hp0,hp1,hp2⟩:=hs;dsimp only at hp0 hp1 hp2 ⊢;have hyn:=UX (x:=y);have hyl:=KX y;by_cases h1:y=0
 ·have e:Int.gcd a b=x:=by rw [<-hp0,h1,Nat.gcd_zero_right]
  rw [e];exact Ud [.f (by simp only [Rl]; exact decide_eq_false (by omega))] rfl
 ·have hlt:=Z5 x (show 0<y by omega);refine Ub [.t (by simp only [Rl]; exact decide_eq_true (by omega)),.k (Qdo hp1 hp2 (by omega))] rfl ?_;exact rd (y,x % y) (by dsimp only; omega) ⟨by dsimp only; rw [<-hp0,Nat.gcd_comm x y,Nat.gcd_rec y x,Nat.gcd_comm],hp2,Nat.le_trans (Tr (by dsimp only; omega)) hp2⟩ rfl
theorem WL {a b:Int} (ha:Fe a<=90000000) (hb:Fe b<=90000000):Uh 68 [.agg (ri a),.agg (ri b)] [.agg (fr (Gu a b))]:=by
 rcases Y3 b 0 with hs | hs | hs
 ·skip
  by_cases h1:-b=1
  ·have h0:(Bi (Gd (-b).natAbs))[0]? = some [LV.int .i64 1]:=by rw [h1,show (1:Int).natAbs=1 from rfl,A4]; rfl
   have hl1:decide (((Bi (Gd (-b).natAbs)).length:Int)=1)=true:=by rw [h1,show (1:Int).natAbs=1 from rfl,A4]; rfl
   have e:fr (Gu a b)=ri (-a)++ri (-b):=by rw [qU hs,h1]; exact (pC _).symm
   rw [e];exact Ue func68 rfl [.k (Dh (z:=b)),.F,.t (decide_eq_true hs),.k (O7 (z:=a)),.k (O7 (z:=b)),.g 19 true hl1,.x h0,.t rfl] rfl
  ·have hgf:=OQ (a:=-a) (b:=-b) (by omega) (by first | exact ha | (rw [Hx]; exact ha)) (by first | exact hb | (rw [Hx]; exact hb));have cg:=zI (a:=-a) (b:=-b) (by first | exact ha | (rw [Hx]; exact ha)) (by first | exact hb | (rw [Hx]; exact hb));have q1:=NE (a:=-a) (b:=((Int.gcd (-a) (-b):Nat):Int)) (by first | exact ha | (rw [Hx]; exact ha)) hgf.1 hgf.2.1 hgf.2.2.1;have q2:=NE (a:=-b) (b:=((Int.gcd (-a) (-b):Nat):Int)) (by first | exact hb | (rw [Hx]; exact hb)) hgf.1 hgf.2.1 hgf.2.2.2;have e:fr (Gu a b)=ri ((-a) / ((Int.gcd (-a) (-b):Nat):Int))++ri ((-b) / ((Int.gcd (-a) (-b):Nat):Int)):=by rw [qU hs]; exact (pB (by omega)).symm
   rw [e];have hl:=KX (-b).natAbs;by_cases hl1:(Gd (-b).natAbs).length=1
   ·obtain ⟨u,hu⟩:=gxE (l:=(Gd (-b).natAbs)) (i:=0) (by omega);have hue:=BR hl1 hu;exact Ue func68 rfl [.k (Dh (z:=b)),.F,.t (decide_eq_true hs),.k (O7 (z:=a)),.k (O7 (z:=b)),.g 19 true (by simp only [Rl]; exact decide_eq_true (by omega)),.x (Gx hu),.F,.k cg,.k q1,.k q2] rfl
   ·exact Ue func68 rfl [.k (Dh (z:=b)),.F,.t (decide_eq_true hs),.k (O7 (z:=a)),.k (O7 (z:=b)),.g 19 false (by simp only [Rl]; exact decide_eq_false (by omega)),.f rfl,.k cg,.k q1,.k q2] rfl
 ·subst hs;have h0:(Bi (Gd (1:Int).natAbs))[0]? = some [LV.int .i64 1]:=by rw [show (1:Int).natAbs=1 from rfl,A4]; rfl
  have h1:decide (((Bi (Gd (1:Int).natAbs)).length:Int)=1)=true:=by rw [show (1:Int).natAbs=1 from rfl,A4]; rfl
  have e:fr (Gu a 0)=ri a++ri 1:=(pC a).symm;rw [e];exact Ue func68 rfl [.k (Dh (z:=0)),.t rfl,.k (VF (n:=1) (by decide)),.f rfl,.g 19 true h1,.x h0,.t rfl] rfl
 ·skip
  by_cases h1:b=1
  ·have h0:(Bi (Gd (b).natAbs))[0]? = some [LV.int .i64 1]:=by rw [h1,show (1:Int).natAbs=1 from rfl,A4]; rfl
   have hl1:decide (((Bi (Gd (b).natAbs)).length:Int)=1)=true:=by rw [h1,show (1:Int).natAbs=1 from rfl,A4]; rfl
   have e:fr (Gu a b)=ri (a)++ri (b):=by rw [RN hs,h1]; exact (pC _).symm
   rw [e];exact Ue func68 rfl [.k (Dh (z:=b)),.F,.F,.g 19 true hl1,.x h0,.t rfl] rfl
  ·have hgf:=OQ (a:=a) (b:=b) (by omega) (by first | exact ha | (rw [Hx]; exact ha)) (by first | exact hb | (rw [Hx]; exact hb));have cg:=zI (a:=a) (b:=b) (by first | exact ha | (rw [Hx]; exact ha)) (by first | exact hb | (rw [Hx]; exact hb));have q1:=NE (a:=a) (b:=((Int.gcd (a) (b):Nat):Int)) (by first | exact ha | (rw [Hx]; exact ha)) hgf.1 hgf.2.1 hgf.2.2.1;have q2:=NE (a:=b) (b:=((Int.gcd (a) (b):Nat):Int)) (by first | exact hb | (rw [Hx]; exact hb)) hgf.1 hgf.2.1 hgf.2.2.2;have e:fr (Gu a b)=ri ((a) / ((Int.gcd (a) (b):Nat):Int))++ri ((b) / ((Int.gcd (a) (b):Nat):Int)):=by rw [RN hs]; exact (pB (by omega)).symm
   rw [e];have hl:=KX (b).natAbs;by_cases hl1:(Gd (b).natAbs).length=1
   ·obtain ⟨u,hu⟩:=gxE (l:=(Gd (b).natAbs)) (i:=0) (by omega);have hue:=BR hl1 hu;exact Ue func68 rfl [.k (Dh (z:=b)),.F,.F,.g 19 true (by simp only [Rl]; exact decide_eq_true (by omega)),.x (Gx hu),.F,.k cg,.k q1,.k q2] rfl
   ·exact Ue func68 rfl [.k (Dh (z:=b)),.F,.F,.g 19 false (by simp only [Rl]; exact decide_eq_false (by omega)),.f rfl,.k cg,.k q1,.k q2] rfl
theorem Qqj {n d:Int} (hn:-1000000000<=n/\n<=1000000000) (hd:-1000000000<=d/\d<=1000000000):Uh 15 [.oi n,.oi d] [.agg (fr (Gu n d))]:=by
 have b1:Fe n<=90000000:=Qc (Sj.2 (show n.natAbs<2^40 by omega)) (by decide);have b2:Fe d<=90000000:=Qc (Sj.2 (show d.natAbs<2^40 by omega)) (by decide);exact Ue func15 rfl [.k (VF (by omega)),.k (VF (by omega)),.k (WL b1 b2)] rfl
theorem Qsi {a:Rat}:Uh 87 [.agg (fr a)] [.agg (fr (-a))]:=by
 have e:fr (-a)=ri (-a.num)++ri (a.den:Int):=rfl;rw [e];exact Ue func87 rfl [.k (O7 (z:=a.num))] rfl
theorem Qdi {a b:Rat} (ha:Qs 20000000 a) (hb:Qs 20000000 b):Uh 50 [.agg (fr a),.agg (fr b)] [.agg (fr (a+b))]:=by
 have k1:=Ga a.num (b.den:Int);have k2:=Ga b.num (a.den:Int);have k3:=Ga (a.den:Int) (b.den:Int);have k4:=YJ (a.num*(b.den:Int)) (b.num*(a.den:Int));have h1:=ha.1; have h2:=ha.2; have h3:=hb.1; have h4:=hb.2;have cm:=WL (a:=a.num*(b.den:Int)+b.num*(a.den:Int)) (b:=(a.den:Int)*(b.den:Int)) (by omega) (by omega);rw [oK] at cm;exact Ue func50 rfl [.k (C7 (a:=a.num) (b:=(b.den:Int)) (by omega) (by omega)),.k (C7 (a:=b.num) (b:=(a.den:Int)) (by omega) (by omega)),.k (Qer (by omega) (by omega)),.k (C7 (a:=(a.den:Int)) (b:=(b.den:Int)) (by omega) (by omega)),.k cm] rfl
theorem Qdy {a b:Rat} (ha:Qs 40000000 a) (hb:Qs 40000000 b):Uh 120 [.agg (fr a),.agg (fr b)] [.agg (fr (a*b))]:=by
 have k1:=Ga a.num b.num;have k3:=Ga (a.den:Int) (b.den:Int);have h1:=ha.1; have h2:=ha.2; have h3:=hb.1; have h4:=hb.2;have cm:=WL (a:=a.num*b.num) (b:=(a.den:Int)*(b.den:Int)) (by omega) (by omega);rw [OP] at cm;exact Ue func120 rfl [.k (C7 (a:=a.num) (b:=b.num) (by omega) (by omega)),.k (C7 (a:=(a.den:Int)) (b:=(b.den:Int)) (by omega) (by omega)),.k cm] rfl
theorem sR {a b:Rat} (ha:Qs 40000000 a) (hb:Qs 40000000 b) (h0:b≠0):Uh 247 [.agg (fr a),.agg (fr b)] [.agg (fr (a / b))]:=by
 have k1:=Ga a.num (b.den:Int);have k3:=Ga (a.den:Int) b.num;have h1:=ha.1; have h2:=ha.2; have h3:=hb.1; have h4:=hb.2;have cm:=WL (a:=a.num*(b.den:Int)) (b:=(a.den:Int)*b.num) (by omega) (by omega);rw [qW h0] at cm;exact Ue func247 rfl [.k (C7 (a:=a.num) (b:=(b.den:Int)) (by omega) (by omega)),.k (C7 (a:=(a.den:Int)) (b:=b.num) (by omega) (by omega)),.k cm] rfl
theorem Qmk {a b:Rat} (ha:Qs 40000000 a) (hb:Qs 40000000 b):Uh 18 [.agg (fr a),.agg (fr b)] [.oi (G6 a b)]:=by
 have k1:=Ga a.num (b.den:Int);have k2:=Ga b.num (a.den:Int);have h1:=ha.1; have h2:=ha.2; have h3:=hb.1; have h4:=hb.2;exact Ue func18 rfl [.k (C7 (a:=a.num) (b:=(b.den:Int)) (by omega) (by omega)),.k (C7 (a:=b.num) (b:=(a.den:Int)) (by omega) (by omega)),.k (Qss (a:=a.num*(b.den:Int)) (b:=b.num*(a.den:Int)) (by omega) (by omega))] rfl
end Orr
namespace Orr
def Cz:Un->Un
 | []=>[]
 |
  x::l=>match Cz l with
  | []=>if x=0 then [] else [x]
  | y::k=>x::y::k
theorem JZ:∀ {l:Un},(∀ x∈l,x=0)->Cz l=[]
 | [],_=>rfl
 |
  x::l,h=>by
  have ih:=JZ (l:=l) (λy hy=>h y (Qg _ hy));simp [Cz,ih,h x (Qx ..)]
theorem LN:∀ {l:Un} {m:Nat} {y:Rat},(∀ j x,m<j->l[j]? = some x->x=0)->l[m]? = some y->y≠0->Cz l=l.take (m+1)
 | [],m,y,_,h,_=>by simp at h
 |
  x::l,0,y,h1,h2,h3=>by
  have h0:Cz l=[]:=JZ λz hz=>by
   obtain ⟨j,hj⟩:=Zh.1 hz;exact h1 (j+1) z (by omega) (by simpa using hj)
  simp at h2;subst h2;simp [Cz,h0,h3]
 |
  x::l,m+1,y,h1,h2,h3=>by
  have ih:=LN (l:=l) (m:=m) (y:=y) (λj z hj hz=>h1 (j+1) z (by omega) (by simpa using hz)) (by simpa using h2) h3;cases hl:l with
  | nil=>subst hl; simp at h2
  |
   cons u k =>
   subst hl;rw [Ve] at ih;simp only [Cz] at ih ⊢;rw [ih];simp
theorem qM {l:Un} {m:Nat} (hm:m<=l.length) (h1:∀ j x,m<=j->l[j]? = some x->x=0) (h2:0<m->∃ y,l[m-1]? = some y/\y≠0):Cz l=l.take m:=by
 rcases Q0 m with h0 | h0
 ·subst h0;rw [JZ λz hz=>?_]; rfl;obtain ⟨j,hj⟩:=Zh.1 hz;exact h1 j z (by omega) hj
 ·obtain ⟨y,hy,hy0⟩:=h2 h0;have:=LN (l:=l) (m:=m-1) (y:=y) (λj x hj hx=>h1 j x (by omega) hx) hy hy0;rwa [show m-1+1=m from by omega] at this
theorem qB:∀ (l:Un),∀ z∈Cz l,z∈l
 | [],z,h=>h
 |
  x::l,z,h=>by
  simp only [Cz] at h;have ih:=qB l
  split at h
  ·split at h
   ·cases h
   ·simp at h; simp [h]
  ·rename_i y k e;rw [e] at ih;rcases Qm.1 h with h | h
   ·simp [h]
   ·exact Qg _ (ih z h)
theorem qN:∀ (l:Un),(Cz l).length<=l.length
 | []=>Ql _
 |
  x::l=>by
  have ih:=qN l;simp only [Cz]
  split
  ·split <;> simp
  ·rename_i y k e;rw [e] at ih;simp at ih ⊢; omega
def zp (p:Uk):Un:=p.map λ(z:Int)=>(z:Rat)
theorem Ei:∀ (p:Uk),Cz (zp p)=zp (trim p)
 | []=>rfl
 |
  x::l=>by
  have ih:=Ei l;unfold zp at ih ⊢;simp only [Z0,Cz,trim,ih];cases h:trim l with
  |
   nil =>
   simp only [X7];by_cases hx:x=0
   ·subst hx; simp
   ·have:(x:Rat)≠0:=λe=>hx (by exact_mod_cast e)
    simp [hx,this]
  | cons y k=>simp
theorem Ar (p:Uk):(zp p).length=p.length:=Q6 _
theorem Qv0 {p:Uk} {i:Nat} {z:Int} (h:p[i]? = some z):(zp p)[i]? = some (z:Rat):=by simp [zp,h]
theorem NQ (p:Uk) (i:Nat):(zp p).getD i 0=((p.getD i 0:Int):Rat):=by
 simp only [Qi,zp,Zb];cases p[i]? <;> rfl
def Rb (s:Nat) (p:Un):Prop:=∀ q∈p,Qs s q
theorem Rb.mono {s t:Nat} {p:Un} (h:Rb s p) (ht:s<=t):Rb t p:=λq hq=>(h q hq).mono ht
theorem Rb.get {s:Nat} {p:Un} (h:Rb s p) {i:Nat} {q:Rat} (hq:p[i]? = some q):Qs s q:=h q (Qa hq)
theorem Al {s:Nat} {z:Int} (h:Fe z<=s) (h1:1<=s):Qs s (z:Rat):=⟨by simpa using h,Qc (show Fe ((1:Nat):Int)<=1 by decide) h1⟩
theorem qF {s:Nat} {p:Uk} (h:Bd s p) (h1:1<=s):Rb s (zp p):=λq hq=>by
 obtain ⟨z,hz,rfl⟩:=Q8.1 hq;exact Al (h z hz) h1
theorem Qov {s:Nat} (h1:1<=s):Qs s 0:=Al (z:=0) (by simp [M6]) h1
theorem Rb.getD {s:Nat} {p:Un} (h:Rb s p) (h1:1<=s) (i:Nat):Qs s (p.getD i 0):=by
 rw [Qi];cases e:p[i]? with
 | none=>exact Qov h1
 | some q=>exact h.get e
theorem Rb.trim {s:Nat} {p:Un} (h:Rb s p):Rb s (Cz p):=λq hq=>h q (qB p q hq)
def VJ (f:Nat->Rat) (n:Nat):Un:=(List.range n).map f
theorem EZ (f:Nat->Rat) (n:Nat):(VJ f n).length=n:=by simp [VJ]
theorem qA (f:Nat->Rat) (n:Nat):VJ f (n+1)=VJ f n++[f n]:=by simp [VJ,Wd]
theorem Qpm {s n:Nat} {f:Nat->Rat} (h:∀ i,i<n->Qs s (f i)):Rb s (VJ f n):=λq hq=>by
 obtain ⟨i,hi,rfl⟩:=Q8.1 hq;exact h i (Kj.1 hi)
theorem yM {f:Nat->Rat} {g:Nat->Int} (n:Nat) (h:∀ i,i<n->f i=(g i:Rat)):VJ f n=zp ((List.range n).map g):=by
 simp only [VJ,zp,List.map_map];exact Xo λi hi=>h i (Kj.1 hi)
def Qb3 (p q:Un):Un:=Cz (VJ (λi=>p.getD i 0+q.getD i 0) (max p.length q.length))
def QM (p:Un) (c:Rat):Un:=Cz (VJ (λi=>p.getD i 0*c) p.length)
def yF (p:Un):Un:=QM p (-1)
def Qrg (p q:Un):Un:=Qb3 p (yF q)
theorem Qox (p q:Uk):Qb3 (zp p) (zp q)=zp (ZK p q):=by
 unfold Qb3 ZK As;rw [yM (g:=λk=>p.getD k 0+q.getD k 0) _ λi _=>by rw [NQ,NQ,Kd],Ei,Ar,Ar]
theorem qS (p:Uk) (c:Int):QM (zp p) (c:Rat)=zp (Ft p c):=by
 unfold QM Ft As;rw [yM (g:=λk=>p.getD k 0*c) _ λi _=>by rw [NQ,Xx],Ei,Ar]
theorem nK (p:Uk):Ft p (-1)=Mi p:=by
 unfold Ft Mi As;congr 2;funext k;omega
theorem iY (p:Uk):yF (zp p)=zp (Mi p):=by
 rw [<-nK,<-qS]; rfl
theorem wN {p q:Uk} (hp:U9 p) (hq:U9 q) (h:∀ k,p.getD k 0=q.getD k 0):p=q:=by
 have key:∀ {p q:Uk},U9 q->(∀ k,p.getD k 0=q.getD k 0)->q.length<=p.length:=by
  intro p q hq h;rcases Q9 p.length q.length with h1 | h1
  ·have h2:=H5 hq (by omega);rw [<-h,Qi,Qw (by omega)] at h2;exact (h2 rfl).elim
  ·exact h1
 exact BI (Kc (key hp λk=>(h k).symm) (key hq h)) λj _=>h j
theorem pH {n m:Nat} {f g:Nat->Int} (hn:n<=m) (h:∀ k,k<n->f k=g k) (h0:∀ k,n<=k->k<m->g k=0):As n f=As m g:=by
 refine wN (Fv _ _) (Fv _ _) λk=>?_
 rw [Sy,Sy];by_cases h1:k<n
 ·rw [if_pos h1,if_pos (by omega),h k h1]
 ·rw [if_neg h1];by_cases h2:k<m
  ·rw [if_pos h2,h0 k (by omega) h2]
  ·rw [if_neg h2]
theorem Qo5 (p q:Uk):Qrg (zp p) (zp q)=zp (Mx p q):=by
 unfold Qrg;rw [iY,Qox];congr 1;have hl:=XU q;unfold ZK Mx;refine pH (by omega) (λk _=>?_) λk h1 h2=>?_
 ·unfold Mi;rw [Sy]
  split
  ·omega
  ·rename_i h;have:q.getD k 0=0:=by rw [Qi,Qw (by omega)]; rfl
   omega
 ·have h3:p.getD k 0=0:=by rw [Qi,Qw (by omega)]; rfl
  have h4:(Mi q).getD k 0=0:=by rw [Qi,Qw (by omega)]; rfl
  unfold Mi at h4;rw [Sy] at h4
  split at h4
  ·omega
  ·have:q.getD k 0=0:=by rw [Qi,Qw (by omega)]; rfl
   omega
end Orr
namespace Orr
open Go Go.Proofs Tryz
set_option maxRecDepth 10000
def frow (p:Un):Uq:=p.map fr
theorem B9 (p:Un):(frow p).length=p.length:=by simp [frow]
theorem ZA {p:Un} {i:Nat} {q:Rat} (h:p[i]? = some q):(frow p)[i]? = some (fr q):=Gt h
theorem IA (p:Un) (q:Rat):frow (p++[q])=frow p++[fr q]:=by simp [frow]
theorem Qa9 (p:Un):∀ c∈frow p,c.length=4:=λc hc=>by obtain ⟨x,_,rfl⟩:=Q8.1 hc; rfl
abbrev rp (p:Un):LV:=.row (frow p)
theorem Qbv (q:Rat):∀ c∈[fr q],c.length=4:=λc hc=>by rw [Qk.1 hc]; rfl
theorem Qeq:Uh 246 [] [.agg (fr 0)]:=Ue func246 rfl [.k (VL (n:=0) (by decide))] rfl
theorem VA {p:Un}:Uh 89 [.one (rp p)] [.one (rp (Cz p))]:=by
 refine Fw func89 rfl (ln 0 rfl rfl λhl=>?_);rw [B9] at hl;have hpl:=B9 p;refine Ub [] rfl ?_;refine lp (S:=Nat) 0 (λL1 n=>(3,.v (.oi n))::L1) (λ_=>[]) id (λn=>n<=p.length/\∀ j x,n<=j->p[j]? = some x->x=0) (frow p).length ⟨by rw [hpl]; exact Ql _,λj x h1 h2=>by
  have:=(Qf.1 h2).1; rw [hpl] at h1; omega⟩ rfl (λ_ _=>rfl) rfl λn hs=>?_
 obtain ⟨h1,h2⟩:=hs;cases n with
 |
  zero =>
  have e:=qM h1 (λj x h=>h2 j x h) (λh=>absurd h (by decide));exact Ud [.g 8 false (by simp),.f rfl,.i 0] rfl (by rw [e]; rfl) (by simp [Uz])
 |
  succ n =>
  obtain ⟨x,hx⟩:=gxE (l:=p) (i:=n) (by omega);have hn:=Rat.num_eq_zero (q:=x);by_cases h0:x=0
  ·refine Uc [.g 8 true (by simp),.r 11 (eI (b:=(n:Int)) (by simp)),.x (ZA hx),.k (Dh (z:=x.num)),.t (decide_eq_true (hn.2 h0)),.r 18 (eI (b:=(n:Int)) (by simp))] rfl ?_;exact rd n (by simp) ⟨by omega,λj y h3 h4=>by
    rcases Vl h3 with rfl | h3
    ·rw [hx] at h4; injection h4 with h4; rw [<-h4,h0]
    ·exact h2 j y h3 h4⟩ rfl
  ·have e:=qM h1 (λj x h=>h2 j x h) (λ_=>⟨x,hx,h0⟩);exact Ud [.g 8 true (by simp),.r 11 (eI (b:=(n:Int)) (by simp)),.x (ZA hx),.k (Dh (z:=x.num)),.f (decide_eq_false λh=>h0 (hn.1 h)),.i (n+1)] rfl (by rw [e]; simp [rp,frow,Jv]) (by simp [Uz,hpl] <;> omega)
theorem Qqn {p:Un} {i:Nat} (hi:i<1099511627776):Uh 323 [.one (rp p),.oi i] [.agg (fr (p.getD i 0))]:=by
 have hpl:=B9 p;by_cases h:i<p.length
 ·have e:p.getD i 0=p[i]:=by rw [Qi,Qe h]; rfl
  rw [e];exact Ue func323 rfl [.g 7 false Ui,.F,.x (ZA (Qe h))] rfl
 ·have e:p.getD i 0=0:=by rw [Qi,Qw (by omega)]; rfl
  rw [e];exact Ue func323 rfl [.g 7 false Ui,.T,.k Qeq] rfl
theorem Qe5:Uh 178 [.one (ids [1])] [.one (rp (zp [1]))]:=by
 have cc:=VA (p:=zp [1]);rw [Ei,show trim [1]=[1] from rfl] at cc;refine Fw func178 rfl ?_;refine Ub [.o 3 51 4] rfl ?_;refine Ug (S:=Nat) 1 (λL1 i=>(7,.v (.oi i))::(3,.v (.one (.orow 0 4 none)))::L1) (λi=>[.row false 51 4 (frow ((zp [1]).take i))]) (λi=>1-i) (λi=>i<=1) 0 (by decide) rfl rfl λi hi=>?_
 rcases (show i=0\/i=1 by omega) with rfl | rfl
 ·refine go tt [.t rfl,.x (l:=idl [1]) (i:=0) (xs:=[.int .i64 1]) rfl,.k (VL (n:=1) (by decide)),.s (sz:=4) (Qbv _)] rfl (by simp [Uz,frow]) ?_;exact rd 1 (by omega) (by omega) rfl
 ·exact Ud [.f rfl,.k cc] rfl
theorem Qsy {p q:Un} (hp:Rb 20000000 p) (hq:Rb 20000000 q) (hlp:p.length<=1000000) (hlq:q.length<=1000000):Uh 293 [.one (rp p),.one (rp q)] [.one (rp (Qb3 p q))]:=by
 have h1:=B9 p;have h2:=B9 q;obtain ⟨M,hM⟩:=nmE (max p.length q.length);have cc:=VA (p:=VJ (λi=>p.getD i 0+q.getD i 0) M);unfold Qb3;rw [<-hM];refine Fw func293 rfl ?_;refine Ub [.o 5 51 4] rfl ?_;refine Ug (S:=Nat) 1 (λL1 i=>(6,.v (.oi i))::(5,.v (.one (.orow 0 4 none)))::L1) (λi=>[.row false 51 4 (frow (VJ (λi=>p.getD i 0+q.getD i 0) i))]) (λi=>M-i) (λi=>i<=M) 0 (Qh _) rfl rfl λi hi=>?_
 have hol:(frow (VJ (λi=>p.getD i 0+q.getD i 0) i)).length=i:=by rw [B9,EZ]
 by_cases h:i<M
 ·refine go tt [.r 12 (eI (b:=(M:Int)) (by omega)),.T,.k (Qqn (p:=p) (i:=i) (by omega)),.k (Qqn (p:=q) (i:=i) (by omega)),.k (Qdi (hp.getD (by decide) i) (hq.getD (by decide) i)),.s (sz:=4) (Qbv _)] rfl (by simp [Uz,hol,-List.getD_eq_getElem?_getD]; omega) ?_;exact rd (i+1) (by omega) h (by rw [qA,IA]; rfl)
 ·have e:i=M:=by omega
  rw [e];exact Ud [.r 12 (eI (b:=(M:Int)) (by omega)),.F,.k cc] rfl
theorem BZ {p:Un} {c:Rat} (hp:Rb 40000000 p) (hc:Qs 40000000 c) (hlp:p.length<=1000000):Uh 221 [.one (rp p),.agg (fr c)] [.one (rp (QM p c))]:=by
 have h1:=B9 p;have cc:=VA (p:=VJ (λi=>p.getD i 0*c) p.length);unfold QM;refine Fw func221 rfl ?_;refine Ub [.o 5 51 4] rfl ?_;refine Ug (S:=Nat) 2 (λL1 i=>(9,.v (.oi i))::(5,.v (.one (.orow 1 4 none)))::L1) (λi=>[.blk 51 (fr c),.row false 51 4 (frow (VJ (λi=>p.getD i 0*c) i))]) (λi=>p.length-i) (λi=>i<=p.length) 0 (Qh _) rfl rfl λi hi=>?_
 have hol:(frow (VJ (λi=>p.getD i 0*c) i)).length=i:=by rw [B9,EZ]
 by_cases h:i<p.length
 ·have hg:p[i]? = some (p.getD i 0):=by rw [Qi,Qe h]; rfl
  refine go tt [.T,.x (ZA hg),.k (Qdy (hp.getD (by decide) i) hc),.s (sz:=4) (Qbv _)] rfl (by simp [Uz,hol,-List.getD_eq_getElem?_getD]; omega) ?_;exact rd (i+1) (by omega) h (by rw [qA,IA]; rfl)
 ·have e:i=p.length:=by omega
  rw [e];exact Ud [.F,.k cc] rfl
theorem Qe4 {p:Un} (hp:Rb 40000000 p) (hlp:p.length<=1000000):Uh 157 [.one (rp p)] [.one (rp (yF p))]:=by
 have cs:=BZ (p:=p) (c:=-1) hp ⟨by decide,by decide⟩ hlp;have co:=VL (n:=-1) (by decide);rw [show ((-1:Int):Rat)=-1 from rfl] at co;exact Ue func157 rfl [.k co,.k cs] rfl
theorem Qot {s t:Nat} {a b:Rat} (ha:Qs s a) (hb:Qs t b):Qs (s+t+1) (a*b):=by
 rw [<-OP];unfold Gu;rw [if_neg (Jp (E4 a) (E4 b))];have h1:=Ga a.num b.num;have h2:=Ga (a.den:Int) (b.den:Int);have:=ha.1; have:=ha.2; have:=hb.1; have:=hb.2;exact Qs.divInt (by omega) (by omega) (by omega)
theorem Quz {s:Nat} {p:Un} (hp:Rb s p):Rb (s+2) (yF p):=by
 unfold yF QM;refine Rb.trim (Qpm λi hi=>?_);have h1:Qs (s+0) (p.getD i 0):=by
  have hi:i<p.length:=hi;rw [Qi,Qe hi];exact hp _ (Xq hi)
 have:=Qot h1 (show Qs 1 (-1:Rat) from ⟨by decide,by decide⟩);exact this.mono (by omega)
theorem Qiz (p:Un):(yF p).length<=p.length:=by
 unfold yF QM;exact Qc (qN _) (by rw [EZ]; exact Ql _)
theorem Qdz {a b:Int} (ha:Fe a<=40000000) (hb:Fe b<=40000000):Uh 120 [.agg (fr (a:Rat)),.agg (fr (b:Rat))] [.agg (fr ((a*b:Int):Rat))]:=by
 have h:=Qdy (Al ha (by decide)) (Al hb (by decide));rw [<-Xx] at h; exact h
theorem Qr6 {a b:Int} (ha:Fe a<=20000000) (hb:Fe b<=20000000):Uh 50 [.agg (fr (a:Rat)),.agg (fr (b:Rat))] [.agg (fr ((a+b:Int):Rat))]:=by
 have h:=Qdi (Al ha (by decide)) (Al hb (by decide));rw [<-Kd] at h; exact h
theorem uQ (l:Uk) (i:Nat) (z:Int):(frow (zp l)).set i (fr (z:Rat))=frow (zp (l.set i z)):=by simp [frow,zp,Vu]
theorem Qkq {p:Uk} {i:Nat} (h:i<p.length):(zp p)[i]? = some ((p.getD i 0:Int):Rat):=Qv0 (Ra h)
theorem Tz {p:Uk} {i:Nat} (h:i<p.length):(frow (zp p))[i]? = some (fr ((p.getD i 0:Int):Rat)):=ZA (Qkq h)
theorem II (p:Uk):(frow (zp p)).length=p.length:=by rw [B9,Ar]
abbrev zR:Up:=[.nils,.bool false,.nils,.bool false]
theorem xP {n i:Nat} (h:i<n):(List.replicate i (fr 0)++List.replicate (n-i) zR).set i (fr 0)=List.replicate (i+1) (fr 0)++List.replicate (n-(i+1)) zR:=by
 rw [List.set_append_right _ _ (by simp),Je,Ki,show n-i=n-(i+1)+1 by omega,J3 (n:=n-(i+1)),List.set_cons_zero,List.replicate_succ' (n:=i),Za]; rfl
theorem EU (n:Nat):List.replicate n (fr 0)++List.replicate (n-n) zR=frow (zp (List.replicate n 0)):=by simp [zp,frow]
theorem Qs0 {p q:Uk} {s t:Nat} (hlp:p.length<=1000000) (hlq:q.length<=1000000) (hp:Bd s p) (hq:Bd t q) (hst:s+t<=19000000):Uh 220 [.one (rp (zp p)),.one (rp (zp q))] [.one (rp (zp (Gk p q)))]:=by
 have hpl:=II p;have hql:=II q;rcases Q0 p.length with h0 | h0
 ·have e:Gk p q=[]:=by unfold Gk; rw [if_pos (.inl h0)]
  rw [e];exact Ue func220 rfl [.g 12 true Uj,.t rfl] rfl
 rcases Q0 q.length with h1 | h1
 ·have e:Gk p q=[]:=by unfold Gk; rw [if_pos (.inr h1)]
  rw [e];exact Ue func220 rfl [.g 12 false Ui,.T] rfl
 have e:Gk p q=trim (Aj p q (List.replicate (p.length+q.length-1) 0) p.length):=by unfold Gk; rw [if_neg (by omega)]
 rw [e];obtain ⟨N,hN⟩:=nmE (p.length+q.length-1);rw [<-hN];obtain ⟨o,ho⟩:=nmE (List.replicate N (0:Int));rw [<-ho];have hol:o.length=N:=by rw [ho]; simp
 have ho0:∀ m,o.getD m 0=0:=λm=>by rw [ho]; exact Ca N m
 have cc:=VA (p:=zp (Aj p q o p.length));rw [Ei] at cc;refine Fw func220 rfl ?_;refine Uc [.g 12 false Ui,.F,.r 22 (eI (b:=(N:Int)) (by omega)),.i N,.i N,.r 25 (eI (b:=(N:Int)) (by simp))] rfl ?_;refine Ug (S:=Nat) 1 (λL1 i=>(26,.v (.oi i))::L1) (λi=>[.row false 51 4 (List.replicate i (fr 0)++List.replicate (N-i) zR)]) (λi=>N-i) (λi=>i<=N) 0 (Qh _) rfl rfl λi hi=>?_
 by_cases hlt:i<N
 ·refine Uc [.T,.k Qeq,.i i] rfl ?_;rw [xP hlt];exact rd (i+1) (by omega) hlt rfl
 have hiN:i=N:=by omega
 rw [hiN,EU,<-ho];clear hiN hlt hi;refine Ub [.F] rfl ?_;refine Ug (S:=Nat) 1 (λL1 i=>(36,.v (.oi i))::L1) (λi=>[.row false 51 4 (frow (zp (Aj p q o i)))]) (λi=>p.length-i) (λi=>i<=p.length) 0 (Qh _) rfl rfl λi hi=>?_
 by_cases hlt:i<p.length
 ·refine Ub [.T] rfl ?_;refine Ug (S:=Nat) 1 (λL1 k=>(41,.v (.oi k))::L1) (λk=>[.row false 51 4 (frow (zp (Oa (p.getD i 0) q i (Aj p q o i) k)))]) (λk=>q.length-k) (λk=>k<=q.length) 0 (Qh _) rfl rfl λk hk=>?_
  by_cases hk2:k<q.length
  ·have hm1:Fe ((Oa (p.getD i 0) q i (Aj p q o i) k).getD (i+k) 0)<=20000000:=Qc (Ij (t:=39) (jG (by rw [D5]; omega) (jF (λj hj=>by omega) ho0 (λi j=>M9 (Fo hp i) (Fo hq j))) (λj=>M9 (Fo hp i) (Fo hq j)) (i+k)) (Kh (show i+1<549755813888 by omega) (by decide))) (by omega);have hm2:Fe (p.getD i 0*q.getD k 0)<=20000000:=Qc (Ga _ _) (by have:=Fo hp i; have:=Fo hq k; omega);have hml:(Oa (p.getD i 0) q i (Aj p q o i) k).length=N:=by rw [Ob,D5,hol]
   have cm:=Qdz (a:=p.getD i 0) (b:=q.getD k 0) (Qc (Fo hp i) (by omega)) (Qc (Fo hq k) (by omega));have hfl:=II (Oa (p.getD i 0) q i (Aj p q o i) k);refine go tt [.T,.i (i+k),.x (Tz (p:=Oa (p.getD i 0) q i (Aj p q o i) k) (i:=i+k) (by omega)),.x (Tz hlt),.x (Tz hk2),.k cm,.k (Qr6 hm1 hm2),.i (i+k)] rfl (by simp [Uz,hfl,-List.getD_eq_getElem?_getD] <;> omega) ?_;rw [uQ];exact rd (k+1) (by omega) hk2 rfl
  ·obtain rfl:k=q.length:=by omega
   exact go tt [.F] rfl (by simp [Uz]; omega) (rd (i+1) (by omega) hlt rfl)
 ·obtain rfl:i=p.length:=by omega
  exact Ud [.F,.k cc] rfl
def wG (p:Uk) (n:Nat):Uk:=(List.range n).map λk=>p.getD (k+1) 0*((k+1:Nat):Int)
theorem Qf0 (p:Uk) (n:Nat):(wG p n).length=n:=by simp [wG]
theorem Qa3 (p:Uk) (n:Nat):wG p (n+1)=wG p n++[p.getD (n+1) 0*((n+1:Nat):Int)]:=by simp [wG,Wd]
theorem vW (p:Uk) (z:Int):frow (zp (p++[z]))=frow (zp p)++[fr (z:Rat)]:=by simp [frow,zp]
theorem Qe3 {p:Uk} (hp:Bd 40000000 p) (hl:p.length<=1000000):Uh 91 [.one (rp (zp p))] [.one (rp (zp (Gv p)))]:=by
 have hpl:=II p;have cc:=VA (p:=zp (wG p (p.length-1)));rw [Ei] at cc;refine Fw func91 rfl ?_;refine Ub [.o 3 51 4] rfl ?_;refine Ug (S:=Nat) 1 (λL1 j=>(4,.v (.oi ((j+1:Nat):Int)))::(3,.v (.one (.orow 0 4 none)))::L1) (λj=>[.row false 51 4 (frow (zp (wG p j)))]) (λj=>p.length-j) (λj=>j<=p.length-1) 0 (Qh _) rfl rfl λj hj=>?_
 have hfl:=II (wG p j);rw [Qf0] at hfl;by_cases h:j+1<p.length
 ·have hk:Fe ((j+1:Nat):Int)<=40000000:=Qc (xI (t:=38) (k:=j+1) (Kh (show j+1<274877906944 by omega) (by decide))) (by decide);refine go tt [.T,.x (Tz h),.k (VL (n:=((j+1:Nat):Int)) (by omega)),.k (Qdz (Fo hp (j+1)) hk),.s (sz:=4) (Qbv _)] rfl (by simp [Uz,hfl,-List.getD_eq_getElem?_getD] <;> omega) ?_;exact rd (j+1) (by omega) (by omega) (by rw [Qa3,vW]; rfl)
 ·have e:j=p.length-1:=by omega
  rw [e];exact Ud [.F,.k cc] rfl
theorem Qo1:[LV.nils,LV.bool false].map UE=ri 0:=by
 show _=[nd 0,sg 0];unfold nd dl;rw [Ho]; rfl
end Orr
namespace Orr
def Hd (p:Uk):Int:=p.getD (p.length-1) 0
def LM (a b:Uk):Int:=if Hd b<0 then -(Hd a) else Hd a
def WQ (a b:Uk) (i:Nat):Int:=a.getD i 0*((Hd b).natAbs:Int)-(if a.length-b.length<=i then LM a b*b.getD (i-(a.length-b.length)) 0 else 0)
def rV (a b:Uk):Uk:=As a.length (WQ a b)
inductive RRun (b:List Int):Nat->List Int->List Int->Prop
 | stop {a:List Int}:a.length<b.length->RRun b 0 a a
 | step {k:Nat} {a r:List Int}:b.length<=a.length->a.length<=1000->Bd 9000000 a->Bd 9000000 b->RRun b k (rV a b) r->RRun b (k+1) a r
def Ix (p:Uk):Nat->Nat
 | 0=>0
 | i+1=>Int.gcd (Ix p i:Nat) (p.getD i 0)
def UQ (p:Uk):Nat:=Ix p p.length
theorem HJ (p:Uk):∀ {i j:Nat},j<i->((Ix p i:Nat):Int)∣p.getD j 0
 | 0,_,h=>absurd h (Nat.not_lt_zero _)
 |
  i+1,j,h=>by
  simp only [Ix];rcases Q9 j i with h1 | h1
  ·exact V6 (Int.gcd_dvd_left ..) (HJ p h1)
  ·rw [show j=i by omega]; exact Wv ..
theorem kC (p:Uk) (j:Nat):((UQ p:Nat):Int)∣p.getD j 0:=by
 rcases Q9 j p.length with h | h
 ·exact HJ p h
 ·rw [Qi,Qw h]; exact Int.dvd_zero _
theorem ZP {s:Nat} {p:Uk} (h:Bd s p):∀ i,Fe ((Ix p i:Nat):Int)<=s
 | 0=>by simp [Ix,M6]
 |
  i+1=>by
  simp only [Ix];by_cases h0:p.getD i 0=0
  ·rw [h0,Int.gcd_zero_right]; exact ZP h i
  ·have h1:=Wv (Ix p i:Nat) (p.getD i 0);have h2:(Int.gcd (Ix p i:Nat) (p.getD i 0))<=(p.getD i 0).natAbs:=Kv (by omega) (by simpa using X1.2 h1);have h3:=Fo h i;rw [Sj] at h3 ⊢;simp only [Xf];omega
theorem Qav {p:Uk} {j i:Nat} (hj:j<i) (h:p.getD j 0≠0):0<Ix p i:=by
 have:=HJ p hj;rcases Q0 (Ix p i) with h0 | h0
 ·rw [h0] at this;exact absurd (Int.zero_dvd.1 this) h
 ·exact h0
theorem kL {p:Uk} (ht:U9 p) (h:0<p.length):0<UQ p:=Qav (j:=p.length-1) (by omega) (H5 ht h)
def Lv (p:Uk):Int:=if Hd p<0 then -((UQ p:Nat):Int) else ((UQ p:Nat):Int)
def Tf (p:Uk):Uk:=As p.length λi=>p.getD i 0 / Lv p
def Ny (p:Uk):Uk:=if Hd p<0 then Mi (Tf p) else Tf p
theorem Qa7 (p:Uk) (j:Nat):Lv p∣p.getD j 0:=by
 unfold Lv
 split
 ·exact Ua.2 (kC p j)
 ·exact kC p j
theorem Qgd {p:Uk} (ht:U9 p) (h:0<p.length):Lv p≠0:=by
 have:=kL ht h;unfold Lv
 split <;> omega
theorem IG {s:Nat} {p:Uk} (h:Bd s p):Fe (Lv p)<=s:=by
 unfold Lv
 split
 ·rw [Hx]; exact ZP h _
 ·exact ZP h _
theorem nO {p:Uk} {c:Int} (hc:c≠0) (hd:∀ j,c∣p.getD j 0):QM (zp p) (1 / (c:Rat))=zp (As p.length λi=>p.getD i 0 / c):=by
 unfold QM As;rw [yM (g:=λi=>p.getD i 0 / c) _ λi _=>?_,Ei,Ar];obtain ⟨k,hk⟩:=hd i;have hc':(c:Rat)≠0:=λe=>hc (by exact_mod_cast e)
 rw [NQ,hk,Jd _ hc,Xx];grind
theorem NH {s:Nat} {p:Uk} (h:Bd s p):Bd s (Tf p):=JS λi _=>Qc (XY _ _) (Fo h i)
theorem HI (p:Uk):(Tf p).length<=p.length:=I1 _ _
theorem oG {s:Nat} {p:Uk} (h:Bd s p):Bd s (Ny p):=by
 unfold Ny
 split
 ·exact PP (NH h)
 ·exact NH h
theorem mV (p:Uk):(Ny p).length<=p.length:=by
 unfold Ny
 split
 ·exact Qc (XU _) (HI p)
 ·exact HI p
inductive GRun:Nat->List Int->List Int->List Int->Prop
 | stop (a:List Int):GRun 0 a [] a
 | step {k m:Nat} {a b r g:List Int}:0<b.length->b.length<=1000->Bd 9000000 b->RRun b m a r->r.length<=1000->Bd 9000000 r->U9 r->GRun k b (Tf r) g->GRun (k+1) a b g
theorem GRun.inv {k:Nat} {a b g:Uk} (h:GRun k a b g):(k=0/\b.length=0/\a=g)\/∃ j m r,k=j+1/\0<b.length/\b.length<=1000/\Bd 9000000 b/\RRun b m a r/\r.length<=1000/\Bd 9000000 r/\U9 r/\GRun j b (Tf r) g:=by
 cases h with
 | stop=>exact .inl ⟨rfl,rfl,rfl⟩
 | step h1 h2 h3 h4 h5 h6 h7 h8=>exact .inr ⟨_,_,_,rfl,h1,h2,h3,h4,h5,h6,h7,h8⟩
def QN (k:Nat) (p:Uk):Uk:=List.replicate k 0++p
theorem bV (k:Nat) (p:Uk):(QN k p).length=k+p.length:=by simp [QN]
theorem oH {s k:Nat} {p:Uk} (h:Bd s p):Bd s (QN k p):=λz hz=>by
 rcases Qq.1 hz with h1 | h1
 ·rw [Zx h1,M6]; exact Qh _
 ·exact h z h1
inductive DRun (b:List Int):Nat->List Int->List Int->List Int->List Int->Prop
 | stop {a q:List Int}:a.length<b.length->DRun b 0 a q q a
 | step {k:Nat} {a q qf r:List Int}:b.length<=a.length->a.length<=1000->Bd 9000000 a->Hd b≠0->Hd b∣Hd a->a.length-b.length<q.length ->
  DRun b k (Mx a (QN (a.length-b.length) (Ft b (Hd a / Hd b)))) (q.set (a.length-b.length) (Hd a / Hd b)) qf r->DRun b (k+1) a q qf r
theorem DRun.inv {b a q qf r:Uk} {k:Nat} (h:DRun b k a q qf r):(k=0/\q=qf/\a=r/\a.length<b.length)\/∃ j,k=j+1/\b.length<=a.length/\a.length<=1000/\Bd 9000000 a/\Hd b≠0/\Hd b∣Hd a/\a.length-b.length<q.length /\
 DRun b j (Mx a (QN (a.length-b.length) (Ft b (Hd a / Hd b)))) (q.set (a.length-b.length) (Hd a / Hd b)) qf r:=by
 cases h with
 | stop h=>exact .inl ⟨rfl,rfl,rfl,h⟩
 | step h1 h2 h3 h4 h5 h6 h7=>exact .inr ⟨_,rfl,h1,h2,h3,h4,h5,h6,h7⟩
def Mq (l:Ul):Uk:=l.getD (l.length-1) []
inductive LRun:Nat->List (List Int)->List (List Int)->Prop
 | stop {l:List (List Int)}:(Mq l).length<=1->LRun 0 l l
 | step {k m:Nat} {l f:List (List Int)} {g:List Int}:1<(Mq l).length->(Mq l).length<=1000->U9 (Mq l)->Bd 9000000 (Mq l)->Bd 9000000 (Gv (Mq l))->GRun m (Tf (Mq l)) (Tf (Gv (Mq l))) g->l.length<=1000->LRun k (l++[g]) f->LRun (k+1) l f
theorem LRun.inv {k:Nat} {l f:Ul} (h:LRun k l f):(k=0/\l=f/\(Mq l).length<=1)\/∃ j m g,k=j+1/\1<(Mq l).length/\(Mq l).length<=1000/\U9 (Mq l)/\Bd 9000000 (Mq l)/\Bd 9000000 (Gv (Mq l))/\GRun m (Tf (Mq l)) (Tf (Gv (Mq l))) g/\l.length<=1000/\LRun j (l++[g]) f:=by
 cases h with
 | stop h=>exact .inl ⟨rfl,rfl,h⟩
 | step h1 h2 h3 h4 h5 h6 h7 h8=>exact .inr ⟨_,_,_,rfl,h1,h2,h3,h4,h5,h6,h7,h8⟩
def DOk (a b q:Uk):Prop:=0<b.length/\b.length<=1000/\a.length<=1000/\Bd 9000000 b/\∃ qf r n,Bd 9000000 qf/\qf.length<=1000/\DRun b n a (List.replicate (a.length+1-b.length) 0) qf r/\q=trim qf
theorem DOk.bd {a b q:Uk} (h:DOk a b q):Bd 9000000 q:=by
 obtain ⟨_,_,_,_,qf,r,n,h1,_,_,rfl⟩:=h;exact Su h1
theorem DOk.len {a b q:Uk} (h:DOk a b q):q.length<=1000:=by
 obtain ⟨_,_,_,_,qf,r,n,_,h1,_,rfl⟩:=h;exact Qc (Rt _) h1
theorem DOk.trim {a b q:Uk} (h:DOk a b q):U9 q:=by
 obtain ⟨_,_,_,_,qf,r,n,_,_,_,rfl⟩:=h;exact Tl _
def Qv7 (a b c f:Uk):Prop:=∃ x y z,DOk a b x/\DOk b c y/\DOk (Tf x) (Tf y) z/\f=Tf z
structure FRun (a:List Int) (m:Nat) (f:Nat->List Int):Prop where
 run:∃ n l,LRun n [Tf a] l/\l.length=m+1/\∀ k,k<m->Qv7 ((l++[[1]]).getD k []) ((l++[[1]]).getD (k+1) []) ((l++[[1]]).getD (k+2) []) (f k)
 small:m<=1000
def EQ (f:Nat->Uk) (n:Nat):Ul:=(List.range n).map f
theorem rB (f:Nat->Uk) (n:Nat):(EQ f n).length=n:=by simp [EQ]
theorem Qce (f:Nat->Uk) (n:Nat):EQ f (n+1)=EQ f n++[f n]:=by simp [EQ,Wd]
theorem Qj0 {f:Nat->Uk} {n i:Nat} (h:i<n):(EQ f n)[i]? = some (f i):=by simp [EQ,Xz h]
theorem pE {l:Ul} {i:Nat} (h:i<l.length):l[i]? = some (l.getD i []):=by
 rw [Qi,Qe h]; rfl
def Ol (f:Nat->Uk):Nat->Uk
 | 0=>[1]
 | i+1=>Gk (Ol f i) (f i)
def Qv5 (m:Nat) (f:Nat->Uk):Prop:=∀ i,i<m->Bd 9000000 (Ol f i)/\(Ol f i).length<=1000/\Bd 9000000 (f i)/\(f i).length<=1000
inductive CRun:Nat->List (List Int)->List Int->List (List Int)->Prop
 | stop {l:List (List Int)} {g:List Int}:g.length=0->CRun 0 l g l
 | step {k m:Nat} {l f:List (List Int)} {g r:List Int}:0<g.length->g.length<=1000->Bd 9000000 g->RRun g m (Mq l) r->U9 r->Bd 9000000 r->r.length<=1000->0<l.length->l.length<=1000->CRun k (l++[g]) (Mi (Ny r)) f->CRun (k+1) l g f
theorem CRun.inv {k:Nat} {l f:Ul} {g:Uk} (h:CRun k l g f):(k=0/\l=f/\g.length=0)\/∃ j m r,k=j+1/\0<g.length/\g.length<=1000/\Bd 9000000 g/\RRun g m (Mq l) r/\U9 r/\Bd 9000000 r/\r.length<=1000/\0<l.length/\l.length<=1000/\CRun j (l++[g]) (Mi (Ny r)) f:=by
 cases h with
 | stop h=>exact .inl ⟨rfl,rfl,h⟩
 | step h1 h2 h3 h4 h5 h6 h7 h8 h9 h10=>exact .inr ⟨_,_,_,rfl,h1,h2,h3,h4,h5,h6,h7,h8,h9,h10⟩
structure ChRun (a:List Int) (sq:List Int) (c:List (List Int)):Prop where
 fac:∃ m f,FRun a m f/\Qv5 m f/\sq=Ol f m
 Lt:∃ n,CRun n [sq] (Ny (Gv sq)) c
 bd:Bd 8000000 sq
 len:sq.length<=1000
 small:c.length<=1000
def Qcx (q:Rat) (c:Ul):Prop:=∃ sq,ChRun [-q.num,(q.den:Int)] sq c
end Orr
namespace Orr
open Go Go.Proofs Tryz
set_option maxRecDepth 10000
theorem RRun.inv {b a r:Uk} {k:Nat} (h:RRun b k a r):(k=0/\a=r/\a.length<b.length)\/(∃ j,k=j+1/\b.length<=a.length/\a.length<=1000/\Bd 9000000 a/\Bd 9000000 b/\RRun b j (rV a b) r):=by
 cases h with
 | stop h=>exact .inl ⟨rfl,rfl,h⟩
 | step h1 h2 h3 h4 h5=>exact .inr ⟨_,rfl,h1,h2,h3,h4,h5⟩
theorem Qo6 {a b:Uk} (ha:Bd 9000000 a):Fe (LM a b)<=9000000:=by
 unfold LM; split
 ·rw [Hx]; exact Fo ha _
 ·exact Fo ha _
theorem Qo0 (n:Nat):ri (n:Int)=[nd n,.bool false]:=by
 show [nd n,sg (n:Int)]=_;unfold sg;rw [decide_eq_false (by omega)]
def yH (a b:Uk) (n:Nat):Uk:=(List.range n).map (WQ a b)
theorem Qi6 (a b:Uk) (n:Nat):(yH a b n).length=n:=by simp [yH]
theorem qP (a b:Uk) (n:Nat):yH a b (n+1)=yH a b n++[WQ a b n]:=by simp [yH,Wd]
theorem dG {a0 b res:Uk} {n:Nat} (hb0:0<b.length) (hb1:b.length<=1000) (hbb0:Bd 9000000 b) (hrun:RRun b n a0 res):Uh 158 [.one (rp (zp a0)),.one (rp (zp b))] [.one (rp (zp res))]:=by
 have hbl:=II b;have hle:Fe (((Hd b).natAbs:Nat):Int)<=9000000:=Fo hbb0 _;refine Fw func158 rfl ?_;refine Uc [.r 15 (eI (b:=((b.length-1:Nat):Int)) (by omega)),.x (Tz (p:=b) (i:=b.length-1) (by omega))] rfl ?_;refine sb [(0,.v (.one (rp (zp a0)))),(1,.v (.one (rp (zp b)))),(5,.v (.one (.ow 0 0))),(6,.v (.one (.ow 1 0)))] [.blk 49 (ri (Hd b)),.blk 49 [nd (Hd b).natAbs,.bool false]] rfl rfl ?_;refine Ug (S:=Nat×Uk) 2 (λL1 s=>(0,.v (.one (rp (zp s.2))))::L1) (λ_=>[.blk 49 (ri (Hd b)),.blk 49 [nd (Hd b).natAbs,.bool false]]) (λs=>s.1) (λs=>RRun b s.1 s.2 res) (n,a0) hrun rfl rfl λ⟨k,a⟩ hs=>?_
 have hal:=II a;have hs:RRun b k a res:=hs;rcases RRun.inv hs with ⟨rfl,rfl,h1⟩ | ⟨j,rfl,h1,h2,ha,hb,hr⟩
 ·exact Ud [.f (decide_eq_false (by dsimp only; omega))] rfl
 obtain ⟨K,hK⟩:=nmE (a.length-b.length);have htb:=Qo6 (b:=b) ha;have cc:=VA (p:=zp (yH a b a.length));rw [Ei,show trim (yH a b a.length)=rV a b from rfl] at cc;refine Uc [.t (decide_eq_true (by dsimp only; omega)),.r 30 (eI (b:=(K:Int)) (by dsimp only; omega)),.r 34 (eI (b:=((a.length-1:Nat):Int)) (by dsimp only; omega)),.x (Tz (p:=a) (i:=a.length-1) (by omega))] rfl ?_;refine ct 1 (S:=Unit) (λ_=>[(0,.v (.one (rp (zp a)))),(1,.v (.one (rp (zp b)))),(5,.v (.one (.ow 0 0))),(6,.v (.one (.ow 1 0))),(7,.v (.oi K)),(8,.v (.one (.ow 2 0)))]) (λ_=>[.blk 49 (ri (Hd b)),.blk 49 [nd (Hd b).natAbs,.bool false],.blk 49 (ri (LM a b))]) (λ_=>True) rfl ?_ (λ_ _=>?_)
 ·by_cases hn:Hd b<0
  ·have e:LM a b=-(Hd a):=if_pos hn;rw [e];exact go tt [.t (decide_eq_true hn),.k (O7 (z:=Hd a))] rfl trivial (rc () trivial rfl)
  ·have e:LM a b=Hd a:=if_neg hn;rw [e];exact go tt [.f (decide_eq_false hn)] rfl trivial (rc () trivial rfl)
 refine Ub [.o 9 51 4] rfl ?_;refine Ug (S:=Nat) 4 (λL1 i=>(44,.v (.oi i))::(9,.v (.one (.orow 3 4 none)))::L1) (λi=>[.blk 49 (ri (Hd b)),.blk 49 [nd (Hd b).natAbs,.bool false],.blk 49 (ri (LM a b)),.row false 51 4 (frow (zp (yH a b i)))]) (λi=>a.length-i) (λi=>i<=a.length) 0 (Qh _) rfl rfl λi hi=>?_
 have hfl:=II (yH a b i);rw [Qi6] at hfl;by_cases h:i<a.length
 ·have cm:=C7 (a:=a.getD i 0) (b:=(((Hd b).natAbs:Nat):Int)) (Qc (Fo ha i) (by decide)) (by omega);have hm:=Ga (a.getD i 0) (((Hd b).natAbs:Nat):Int);have hai:=Fo ha i;rw [Qo0 (Hd b).natAbs] at cm;by_cases hk:K<=i
  ·have hbi:=Fo hb (i-K);have hm2:=Ga (LM a b) (b.getD (i-K) 0);have e:WQ a b i=a.getD i 0*(((Hd b).natAbs:Nat):Int)-LM a b*b.getD (i-K) 0:=by unfold WQ; rw [if_pos (by omega),hK]
   refine go tt [.T,.x (Tz h),.k cm,.T,.r 62 (eI (b:=((i-K:Nat):Int)) (by omega)),.x (Tz (p:=b) (i:=i-K) (by omega)),.k (C7 (a:=LM a b) (b:=b.getD (i-K) 0) (by omega) (by omega)),.k (Qes (by omega) (by omega)),.k (VF (n:=1) (by decide)),.k (Ex (n:=a.getD i 0*(((Hd b).natAbs:Nat):Int)-LM a b*b.getD (i-K) 0)),.s (sz:=4) (Qbv _)] rfl (by simp [Uz,hfl,-List.getD_eq_getElem?_getD] <;> omega) ?_;exact rd (i+1) (by omega) h (by rw [qP,vW,e]; rfl)
  ·have e:WQ a b i=a.getD i 0*(((Hd b).natAbs:Nat):Int):=by unfold WQ; rw [if_neg (by omega),Int.sub_zero]
   refine go tt [.T,.x (Tz h),.k cm,.F,.k (VF (n:=1) (by decide)),.k (Ex (n:=a.getD i 0*(((Hd b).natAbs:Nat):Int))),.s (sz:=4) (Qbv _)] rfl (by simp [Uz,hfl,-List.getD_eq_getElem?_getD] <;> omega) ?_;exact rd (i+1) (by omega) h (by rw [qP,vW,e]; rfl)
 ·have e:i=a.length:=by omega
  rw [e];exact go tt [.F,.k cc] rfl trivial (rd (j,rV a b) (by omega) hr rfl)
theorem Qsx:Uh 73 [.agg (ri 1),.agg (ri 1)] [.agg (ri 1)]:=C7 (a:=1) (b:=1) (by decide) (by decide)
theorem Qmo:Uh 138 [.agg (ri 1),.agg (ri 1)] [.agg (ri 1)]:=zI (a:=1) (b:=1) (by decide) (by decide)
theorem Ql1 {z:Int} (hz:Fe z<=90000000):Uh 73 [.agg (ri z),.agg (ri 1)] [.agg (ri z)]:=by
 have h:=C7 (a:=z) (b:=1) (by omega) (by decide);rwa [W9] at h
theorem dQ {z:Int} (hz:Fe z<=90000000):Uh 139 [.agg (ri z),.agg (ri 1)] [.agg (ri z)]:=by
 have h:=NE (a:=z) (b:=1) hz (by decide) (by decide) (Int.emod_one z);rwa [Int.ediv_one] at h
theorem Qd0 {z:Int}:Uh 87 [.agg (fr (z:Rat))] [.agg (fr ((-z:Int):Rat))]:=by
 have h:=Qsi (a:=(z:Rat));rwa [<-Vn] at h
theorem Qux {c:Int} (hc:c≠0) (hs:Fe c<=9000000):Qs 40000000 (((1:Int):Rat) / (c:Rat)):=by
 have h0:(c:Rat)≠0:=λe=>hc (by exact_mod_cast e)
 rw [<-qW h0];unfold Gu;rw [if_neg (Jp (E4 _) (λe=>hc (by simpa using e)))];refine Qs.divInt (by show Fe (1*1)<=_; decide) ?_ (by decide);show Fe (1*c)<=_;rw [Kq]; omega
theorem sS {p:Uk} {c:Int} (hc:c≠0) (hs:Fe c<=9000000) (hd:∀ j,c∣p.getD j 0) (hp:Bd 9000000 p) (hl:p.length<=1000):Uh 221 [.one (rp (zp p)),.agg (fr (((1:Int):Rat) / (c:Rat)))] [.one (rp (zp (As p.length λi=>p.getD i 0 / c)))]:=by
 have h:=BZ ((qF hp (by omega)).mono (by omega)) (Qux hc hs) (by rw [Ar]; omega);rwa [show ((1:Int):Rat)=1 from rfl,nO hc hd] at h
theorem O9 {p:Uk} (tp:U9 p) (hp:Bd 9000000 p) (hl:p.length<=1000):Uh 189 [.one (rp (zp p))] [.agg (fr ((Lv p:Int):Rat)),.one (rp (zp (Tf p)))]:=by
 have hpl:=II p;rcases Q0 p.length with h0 | h0
 ·have e:=Qj h0;subst e;exact Ue func189 rfl [.t rfl,.k Qeq] rfl
 have hc:=Qgd tp h0;refine Fw func189 rfl ?_;refine Ub [.F,.k (VF (n:=1) (by decide))] rfl ?_;refine Ug (S:=Nat) 2 (λL1 i=>(16,.v (.oi i))::L1) (λi=>[.blk 51 [.nils,.bool false,.nils,.bool false],.blk 49 (ri 1)]) (λi=>p.length-i) (λi=>i<=p.length) 0 (Qh _) rfl rfl λi hi=>?_
 by_cases h:i<p.length
 ·refine Uc [.T,.x (Tz h),.k Qsx,.x (Tz h),.k Qmo,.k (dQ (z:=1) (by decide))] rfl ?_;exact rd (i+1) (by omega) h rfl
 refine Ub [.F] rfl ?_;clear h hi;refine nlb 2 rfl rfl rfl ?_;rw [Qo1];refine Ug (S:=Nat) 3 (λL1 i=>(37,.v (.oi i))::L1) (λi=>[.blk 51 [.nils,.bool false,.nils,.bool false],.blk 49 (ri 1),.blk 49 (ri ((Ix p i:Nat):Int))]) (λi=>p.length-i) (λi=>i<=p.length) 0 (Qh _) rfl rfl λi hi=>?_
 by_cases h:i<p.length
 ·have hb:=Fo hp i;have hg:=ZP hp i;refine Uc [.T,.x (Tz h),.k (Ql1 (z:=p.getD i 0) (by omega)),.x (Tz h),.k (dQ (z:=p.getD i 0) (by omega)),.k (zI (a:=((Ix p i:Nat):Int)) (b:=p.getD i 0) (by omega) (by omega))] rfl ?_;exact rd (i+1) (by omega) h rfl
 have e:i=p.length:=by omega
 rw [e];have co:=VL (n:=1) (by decide);have cs:=sS hc (IG hp) (Qa7 p) hp hl;by_cases hn:Hd p<0
 ·have e2:Lv p=-((UQ p:Nat):Int):=if_pos hn;rw [show (λi=>p.getD i 0 / Lv p)=λi=>p.getD i 0 / Lv p from rfl] at cs;have cn:=Qd0 (z:=((UQ p:Nat):Int));rw [<-e2] at cn;exact Ud [.F,.k (Ex (n:=((UQ p:Nat):Int))),.r 62 (eI (b:=((p.length-1:Nat):Int)) (by omega)),.x (Tz (p:=p) (i:=p.length-1) (by omega)),.t (decide_eq_true hn),.k cn,.k co,.k (sR (a:=((1:Int):Rat)) (b:=((Lv p:Int):Rat)) ⟨by decide,by decide⟩ (Al (by have:=IG hp; omega) (by decide)) (λe=>hc (by exact_mod_cast e))),.k cs] rfl rfl (by simp [Uz]; omega)
 ·have e2:Lv p=((UQ p:Nat):Int):=if_neg hn;have cm:=Ex (n:=Lv p);rw [e2] at cm cs hc ⊢;exact Ud [.F,.k cm,.r 62 (eI (b:=((p.length-1:Nat):Int)) (by omega)),.x (Tz (p:=p) (i:=p.length-1) (by omega)),.f (decide_eq_false hn),.k co,.k (sR (a:=((1:Int):Rat)) (b:=((((UQ p:Nat):Int):Int):Rat)) ⟨by decide,by decide⟩ (Al (by have:=ZP hp p.length; unfold UQ; omega) (by decide)) (λe=>hc (by exact_mod_cast e))),.k cs] rfl (by unfold Tf; rw [e2]; rfl) (by simp [Uz]; omega)
theorem O8 {p:Uk} (tp:U9 p) (hp:Bd 9000000 p) (hl:p.length<=1000):Uh 116 [.one (rp (zp p))] [.one (rp (zp (Tf p)))] :=
 Ue func116 rfl [.k (O9 tp hp hl)] rfl
theorem IH {p:Uk} (tp:U9 p):Lv p<0↔Hd p<0:=by
 unfold Lv;rcases Q0 p.length with h0 | h0
 ·have:=Qj h0; subst this; decide
 ·have:=kL tp h0
  split <;> omega
theorem Qe0 {p:Uk} (hp:Bd 9000000 p) (hl:p.length<=1000000):Uh 157 [.one (rp (zp p))] [.one (rp (zp (Mi p)))]:=by
 have h:=Qe4 ((qF hp (by decide)).mono (by decide)) (by rw [Ar]; exact hl);rwa [iY] at h
theorem kU {p:Uk} (tp:U9 p) (hp:Bd 9000000 p) (hl:p.length<=1000):Uh 156 [.one (rp (zp p))] [.one (rp (zp (Ny p)))]:=by
 by_cases hn:Hd p<0
 ·have e:Ny p=Mi (Tf p):=if_pos hn;rw [e];exact Ue func156 rfl [.k (O9 tp hp hl),.t (decide_eq_true ((IH tp).2 hn)),.k (Qe0 (NH hp) (Qc (HI p) (by omega)))] rfl
 ·have e:Ny p=Tf p:=if_neg hn;rw [e];exact Ue func156 rfl [.k (O9 tp hp hl),.f (decide_eq_false λh=>hn ((IH tp).1 h))] rfl
end Orr
namespace Orr
section
variable {x d:Int} (hd:0<d) (hg:Int.gcd x d=1) (hx:Fe x<=2000000) (hs:Fe d<=2000000)
include hd in
include hd in
include hd in
include hd hx hs in
include hd hx hs in
include hd hx hs in
include hd hg hx hs in
include hd hg hx hs in
end
end Orr
namespace Orr
open Go Go.Proofs Tryz
set_option maxRecDepth 10000
theorem Qsz {a b g:Uk} {n:Nat} (ta:U9 a) (tb:U9 b) (ha:Bd 9000000 a) (hb:Bd 9000000 b) (la:a.length<=1000) (lb:b.length<=1000) (hrun:GRun n (Tf a) (Tf b) g):Uh 161 [.one (rp (zp a)),.one (rp (zp b))] [.one (rp (zp g))]:=by
 refine Fw func161 rfl ?_;refine Ub [.k (O8 ta ha la),.k (O8 tb hb lb)] rfl ?_;refine sb [(0,.v (.one (rp (zp (Tf a))))),(1,.v (.one (rp (zp (Tf b)))))] [] rfl rfl ?_;refine Ug (S:=Nat×Uk×Uk) 0 (λL1 s=>(0,.v (.one (rp (zp s.2.1))))::(1,.v (.one (rp (zp s.2.2))))::L1) (λ_=>[]) (λs=>s.1) (λs=>GRun s.1 s.2.1 s.2.2 g) (n,Tf a,Tf b) hrun rfl rfl λ⟨k,x,y⟩ hs=>?_
 have hs:GRun k x y g:=hs;have hyl:=II y;rcases hs.inv with ⟨hk,hy0,hxg⟩ | ⟨j,m2,r,hk,hy0,hy1,hyb,hrr,hrl,hrb,hrt,hgr⟩
 ·rw [<-hxg];exact Ud [.f (decide_eq_false (by dsimp only; omega))] rfl
 ·subst hk;refine Ub [.t (decide_eq_true (by dsimp only; omega)),.k (dG (a0:=x) (b:=y) (res:=r) hy0 hy1 hyb hrr),.k (O8 (p:=r) hrt hrb hrl)] rfl ?_;exact rd (j,y,Tf r) (by dsimp only; omega) hgr rfl
theorem Ql4 {x y:Int} (hx:Fe x<=9000000) (hy:Fe y<=9000000) (h0:y≠0) (hd:y∣x):Uh 247 [.agg (fr (x:Rat)),.agg (fr (y:Rat))] [.agg (fr ((x / y:Int):Rat))]:=by
 have hy0:(y:Rat)≠0:=λe=>h0 (by exact_mod_cast e)
 have h:=sR (Al (s:=40000000) (z:=x) (by omega) (by omega)) (Al (s:=40000000) (z:=y) (by omega) (by omega)) hy0;obtain ⟨k,rfl⟩:=hd;rw [Jd _ h0];rwa [show (((y*k:Int):Rat)) / (y:Rat)=(k:Rat) by rw [Xx]; grind] at h
theorem Qaq {p:Uk} {c:Int} (hp:Bd 40000000 p) (hc:Fe c<=40000000) (hl:p.length<=1000000):Uh 221 [.one (rp (zp p)),.agg (fr (c:Rat))] [.one (rp (zp (Ft p c)))]:=by
 have h:=BZ (qF hp (by omega)) (Al hc (by omega)) (by rw [Ar]; exact hl);rwa [qS] at h
theorem Qpf (k:Nat) (p:Uk):frow (zp (List.replicate k 0))++frow (zp p)=frow (zp (QN k p)):=by simp [zp,QN,frow]
theorem Qba (l:Uk) (i:Nat) (z:Int):(frow (zp l)).set i [nd ((z:Rat)).num.natAbs,sg ((z:Rat)).num,nd (((z:Rat)).den:Int).natAbs,sg (((z:Rat)).den:Int)]=frow (zp (l.set i z)):=uQ l i z
theorem Qmt {p q:Uk} (hp:Bd 18000000 p) (hq:Bd 18000000 q) (hlp:p.length<=1000000) (hlq:q.length<=1000000):U5 prog 262 [.one (rp (zp p)),.one (.orow 0 4 none)] [.row false 51 4 (frow (zp q))] [.one (rp (zp (Mx p q)))] [.gone]:=by
 have hn:=Qe4 ((qF hq (by decide)).mono (by decide)) (by rw [Ar]; exact hlq);have ha:=Qsy (p:=zp p) (q:=yF (zp q)) ((qF hp (by decide)).mono (by decide)) ((Quz (qF hq (by decide))).mono (by decide)) (by rw [Ar]; exact hlp) (Qc (Qiz _) (by rw [Ar]; exact hlq));have e:Qb3 (zp p) (yF (zp q))=zp (Mx p q):=Qo5 p q;rw [e] at ha;refine Fw func262 rfl ?_;exact Uf [] [0] [.k hn,.k ha] rfl
theorem Qar {a0 b qf rem:Uk} {n:Nat} (hb0:0<b.length) (hb1:b.length<=1000) (hl0:a0.length<=1000) (hbb:Bd 9000000 b) (hqb:Bd 9000000 qf) (hrun:DRun b n a0 (List.replicate (a0.length+1-b.length) 0) qf rem):Uh 230 [.one (rp (zp a0)),.one (rp (zp b))] [.one (rp (zp (trim qf))),.one (rp (zp rem))]:=by
 have h0l:=II a0;have hbl:=II b;obtain ⟨N,hN⟩:=nmE (a0.length+1-b.length);rw [<-hN] at hrun;have cc:=VA (p:=zp qf);rw [Ei] at cc;refine Fw func230 rfl ?_;refine Uc [.r 18 (eI (b:=(N:Int)) (by omega)),.i N,.i N,.r 21 (eI (b:=(N:Int)) (by simp))] rfl ?_;refine Ug (S:=Nat) 1 (λL1 i=>(22,.v (.oi i))::L1) (λi=>[.row false 51 4 (List.replicate i (fr 0)++List.replicate (N-i) zR)]) (λi=>N-i) (λi=>i<=N) 0 (Qh _) rfl rfl λi hi=>?_
 by_cases hlt:i<N
 ·refine Uc [.T,.k Qeq,.i i] rfl ?_;rw [xP hlt];exact rd (i+1) (by omega) hlt rfl
 have hiN:i=N:=by omega
 rw [hiN,EU];clear hiN hlt hi;refine Ub [.F] rfl ?_;refine sb [(0,.v (.one (rp (zp a0)))),(1,.v (.one (rp (zp b)))),(6,.v (.one (.orow 0 4 none)))] [.row false 51 4 (frow (zp (List.replicate N 0)))] rfl rfl ?_;refine Ug (S:=Nat×Uk×Uk) 1 (λL1 s=>(0,.v (.one (rp (zp s.2.1))))::L1) (λs=>[.row false 51 4 (frow (zp s.2.2))]) (λs=>s.1) (λs=>DRun b s.1 s.2.1 s.2.2 qf rem/\s.2.2.length=N) (n,a0,List.replicate N 0) ⟨hrun,Je⟩ rfl rfl λ⟨k,a,q⟩ ⟨hr0,hr1⟩=>?_
 have hr0:DRun b k a q qf rem:=hr0;have hr1:q.length=N:=hr1;have hal:=II a;have hql:=II q;rcases hr0.inv with ⟨hk,hqf,har,hlt⟩ | ⟨j,hk,hba,hal2,hab,hpb,hpd,hkq,hrj⟩
 ·subst hqf; subst har;exact Ud [.f (decide_eq_false (by dsimp only; omega)),.k cc] rfl
 subst hk;obtain ⟨K,hK⟩:=nmE (a.length-b.length);rw [<-hK] at hrj hkq;have hla:Fe (Hd a)<=9000000:=Fo hab _;have hlb:Fe (Hd b)<=9000000:=Fo hbb _;obtain ⟨c,hc⟩:=nmE (Hd a / Hd b);have cq:=Ql4 hla hlb hpb hpd;have hcs:Fe (Hd a / Hd b)<=9000000:=Qc (XY _ _) hla;rw [<-hc] at cq hcs hrj;have hsl:=Fx b c;have hqs:∀ x,(q.set K x).length=N:=λx=>by rw [Jr]; exact hr1
 dsimp only;refine go tt [.T,.r 39 (eI (b:=(K:Int)) (by omega)),.r 43 (eI (b:=((a.length-1:Nat):Int)) (by omega)),.x (Tz (p:=a) (i:=a.length-1) (by omega)),.r 49 (eI (b:=((b.length-1:Nat):Int)) (by omega)),.x (Tz (p:=b) (i:=b.length-1) (by omega)),.k cq,.i K,.i K,.i K,.r 60 (eI (b:=(K:Int)) (by simp))] rfl (by simp [Uz,hql] <;> omega) ?_;rw [Qba];refine Ug (S:=Nat) 3 (λL1 i=>(61,.v (.oi i))::L1) (λi=>[.row false 51 4 (frow (zp (q.set K c))),.blk 51 (fr (c:Rat)),.row false 51 4 (List.replicate i (fr 0)++List.replicate (K-i) zR)]) (λi=>K-i) (λi=>i<=K) 0 (Qh _) rfl rfl λi hi=>?_
 by_cases hlt:i<K
 ·refine Uc [.T,.k Qeq,.i i] rfl ?_;rw [xP hlt];exact rd (i+1) (by omega) hlt rfl
 have hiK:i=K:=by omega
 rw [hiK,EU];clear hiK hlt hi;have hzl:=II (List.replicate K 0);rw [Je] at hzl;have hpl:=II (Ft b c);refine Ub [.F] rfl ?_;refine sb [(10,.v (.one (.orow 2 4 none))),(9,.v (.one (.ow 1 0))),(0,.v (.one (rp (zp a)))),(1,.v (.one (rp (zp b)))),(6,.v (.one (.orow 0 4 none)))] [.row false 51 4 (frow (zp (q.set K c))),.blk 51 (fr (c:Rat)),.row false 51 4 (frow (zp (List.replicate K 0)))] rfl rfl ?_;have p2:=Qmt (p:=a) (q:=QN K (Ft b c)) (U0 hab (by decide)) (U0 (oH (Gf hbb hcs)) (by decide)) (by omega) (by rw [bV]; omega);rw [<-Qpf] at p2;refine go tt [.k (Qaq (c:=c) (U0 hbb (by decide)) (by omega) (by omega)),.s (sz:=4) (Qa9 (zp (Ft b c))),.c [2] p2] rfl (by simp [Uz,hzl,hpl]; omega) ?_;exact rd (j,Mx a (QN K (Ft b c)),q.set K c) (by dsimp only; omega) ⟨hrj,hqs c⟩ rfl
def tW (l:Ul):Uq:=l.map λp=>[rp (zp p)]
theorem YI (l:Ul):(tW l).length=l.length:=by simp [tW]
theorem GU (l:Ul) (g:Uk):tW l++[[rp (zp g)]]=tW (l++[g]):=by simp [tW]
theorem YA {l:Ul} {i:Nat} (h:i<l.length):(tW l)[i]? = some [rp (zp (l.getD i []))]:=Gt (pE h)
theorem Qod (x:LV):∀ c∈[[x]],c.length=1:=λc hc=>by rw [Qk.1 hc]; rfl
theorem BQ {a b q:Uk} (h:DOk a b q):∃ r,Uh 230 [.one (rp (zp a)),.one (rp (zp b))] [.one (rp (zp q)),.one (rp (zp r))]:=by
 obtain ⟨h1,h2,h3,h4,qf,r,n,h5,h6,h7,rfl⟩:=h;exact ⟨r,Qar h1 h2 h3 h4 h5 h7⟩
theorem sD {a:Uk} {mf:Nat} {f:Nat->Uk} (ta:U9 a) (ha:Bd 9000000 a) (la:a.length<=1000) (h2:2<=a.length) (hF:FRun a mf f):Uh 164 [.one (rp (zp a))] [.one (.row (tW (EQ f mf)))]:=by
 obtain ⟨⟨n,ls,hrun,hlen,hq⟩,hms⟩:=hF;have hal:=II a;refine Fw func164 rfl ?_;refine Ub [.F,.k (O8 ta ha la),.o 3 87 1,.lo] rfl ?_;refine sb [(3,.v (.one (.orow 0 1 none))),(4,.v (.one (.orow 1 1 none)))] [.row false 87 1 [],.row false 87 1 (tW [Tf a])] rfl rfl ?_;refine Ug (S:=Nat×Ul) 2 (λL1 s=>(4,.v (.one (.orow 1 1 none)))::L1) (λs=>[.row false 87 1 [],.row false 87 1 (tW s.2)]) (λs=>s.1) (λs=>LRun s.1 s.2 ls/\0<s.2.length/\s.2.length<=1001) (n,[Tf a]) ⟨hrun,by show 0<1; decide,by show 1<=1001; decide⟩ rfl rfl λ⟨k,l⟩ ⟨hs1,hs2,hs3⟩=>?_
 have hs1:LRun k l ls:=hs1;have hs2:0<l.length:=hs2;have hs3:l.length<=1001:=hs3;have hll:=YI l;have hlast:(tW l)[l.length-1]? = some [rp (zp (Mq l))]:=YA (by omega);have hpl:=II (Mq l);dsimp only;rcases hs1.inv with ⟨hk,hlf,hl1⟩ | ⟨j,m2,g,hk,hg1,hg2,hg3,hg4,hg5,hg6,hg7,hlr⟩
 ·have hlm:l.length=mf+1:=by rw [hlf]; exact hlen
  rw [<-hlf] at hq;have hl2:=YI (l++[[1]]);have hl3:(l++[[1]]).length=mf+2:=by simp [hlm]
  refine go tt [.r 23 (eI (b:=((l.length-1:Nat):Int)) (by omega)),.i (l.length-1),.x hlast,.F,.k Qe5,.s (sz:=1) (Qod _)] rfl (by simp [Uz,hll]; omega) ?_;rw [GU];refine Ug (S:=Nat) 2 (λL1 i=>(6,.v (.oi i))::(3,.v (.one (.orow 0 1 none)))::L1) (λi=>[.row false 87 1 (tW (EQ f i)),.row false 87 1 (tW (l++[[1]]))]) (λi=>mf-i) (λi=>i<=mf) 0 (Qh _) rfl rfl λi hi=>?_
  have htl:=YI (EQ f i);rw [rB] at htl;by_cases h:i<mf
  ·obtain ⟨x,y,z,hx,hy,hz,hf⟩:=hq i h;obtain ⟨rx,hdx⟩:=BQ hx;obtain ⟨ry,hdy⟩:=BQ hy;obtain ⟨rz,hdz⟩:=BQ hz;refine go tt [.T,.i i,.x (YA (by omega)),.i (i+1),.x (YA (by omega)),.k hdx,.i (i+1),.x (YA (by omega)),.i (i+2),.x (YA (by omega)),.k hdy,.k (O8 hx.trim hx.bd hx.len),.k (O8 hy.trim hy.bd hy.len),.k hdz,.k (O8 hz.trim hz.bd hz.len),.s (sz:=1) (Qod _)] rfl (by simp [Uz,hl2,htl]; omega) ?_;exact rd (i+1) (by omega) h (by rw [GU,Qce,hf]; rfl)
  ·have e:i=mf:=by omega
   rw [e];exact Ud [.F] rfl rfl (by simp [Uz]; omega)
 ·subst hk;refine go tt [.r 23 (eI (b:=((l.length-1:Nat):Int)) (by omega)),.i (l.length-1),.x hlast,.T,.r 31 (eI (b:=((l.length-1:Nat):Int)) (by omega)),.i (l.length-1),.x hlast,.k (Qe3 (U0 hg4 (by decide)) (by omega)),.k (Qsz hg3 (Fv _ _) hg4 hg5 hg2 (Qc (M7 _) (by omega)) hg6),.s (sz:=1) (Qod _)] rfl (by simp [Uz,hll]; omega) ?_;exact rd (j,l++[g]) (by dsimp only; omega) ⟨hlr,by simp,by simp; omega⟩ (by rw [GU]; rfl)
theorem Qas {a:Uk} {mf:Nat} {f:Nat->Uk} (ta:U9 a) (ha:Bd 9000000 a) (la:a.length<=1000) (h2:2<=a.length) (hF:FRun a mf f) (hP:Qv5 mf f):Uh 155 [.one (rp (zp a))] [.one (rp (zp (Ol f mf)))]:=by
 have hms:=hF.small;have hal:=II a;have htl:=YI (EQ f mf);rw [rB] at htl;refine Fw func155 rfl ?_;refine Ub [.F,.k Qe5,.k (sD ta ha la h2 hF)] rfl ?_;refine Ug (S:=Nat) 0 (λL1 i=>(15,.v (.oi i))::(3,.v (.one (rp (zp (Ol f i)))))::L1) (λ_=>[]) (λi=>mf-i) (λi=>i<=mf) 0 (Qh _) rfl rfl λi hi=>?_
 by_cases h:i<mf
 ·obtain ⟨g1,g2,g3,g4⟩:=hP i h;refine Uc [.T,.x (Gt (f:=λp=>[rp (zp p)]) (Qj0 h)),.k (Qs0 (p:=Ol f i) (q:=f i) (by omega) (by omega) g1 g3 (by decide))] rfl ?_;exact rd (i+1) (by omega) h rfl
 ·have e:i=mf:=by omega
  rw [e];exact Ud [.F] rfl
theorem Qbk {l:Ul} (g:Uk) (h:0<l.length):(tW l++[[rp (zp g)]])[l.length-1]? = some [rp (zp (Mq l))]:=by
 rw [Zm (by rw [YI]; omega)];exact YA (by omega)
theorem Qe2 {a sq:Uk} {c:Ul} (ta:U9 a) (ha:Bd 9000000 a) (la:a.length<=1000) (h2:2<=a.length) (hC:ChRun a sq c):Uh 88 [.one (rp (zp a))] [.one (.row (tW c))]:=by
 obtain ⟨⟨mf,f,hF,hP,rfl⟩,⟨n,hcr⟩,hbd,hle,hsm⟩:=hC;refine Fw func88 rfl ?_;refine Ub [.k (Qas ta ha la h2 hF hP),.lo,.k (Qe3 (p:=Ol f mf) (U0 hbd (by decide)) (by omega)),.k (kU (p:=Gv (Ol f mf)) (Fv _ _) (U0 (zG (t:=10) hbd (by omega)) (by decide)) (Qc (M7 _) (by omega)))] rfl ?_;refine sb [(5,.v (.one (rp (zp (Ny (Gv (Ol f mf))))))),(4,.v (.one (.orow 0 1 none)))] [.row false 87 1 (tW [Ol f mf])] rfl rfl ?_;refine Ug (S:=Nat×Ul×Uk) 1 (λL1 s=>(5,.v (.one (rp (zp s.2.2))))::(4,.v (.one (.orow 0 1 none)))::L1) (λs=>[.row false 87 1 (tW s.2.1)]) (λs=>s.1) (λs=>CRun s.1 s.2.1 s.2.2 c/\0<s.2.1.length/\s.2.1.length<=1001) (n,[Ol f mf],Ny (Gv (Ol f mf))) ⟨hcr,by show 0<1; decide,by show 1<=1001; decide⟩ rfl rfl λ⟨k,l,g⟩ ⟨hs1,hs2,hs3⟩=>?_
 have hs1:CRun k l g c:=hs1;have hs2:0<l.length:=hs2;have hs3:l.length<=1001:=hs3;have hll:=YI l;have hgl:=II g;dsimp only;rcases hs1.inv with ⟨hk,hlf,hg0⟩ | ⟨j,m2,r,hk,hg1,hg2,hg3,hrr,hrt,hrb,hrl,hl0,hl1,hcj⟩
 ·subst hlf;exact Ud [.F] rfl
 ·subst hk;refine go tt [.T,.s (sz:=1) (Qod _),.r 23 (eI (b:=((l.length-1:Nat):Int)) (by simp; omega)),.i (l.length-1),.x (Qbk g hl0),.k (dG (a0:=Mq l) (b:=g) (res:=r) hg1 hg2 hg3 hrr),.k (kU (p:=r) hrt hrb hrl),.k (Qe0 (p:=Ny r) (oG hrb) (Qc (mV r) (by omega)))] rfl (by simp [Uz,hll]; omega) ?_;exact rd (j,l++[g],Mi (Ny r)) (by dsimp only; omega) ⟨hcj,by simp,by simp; omega⟩ (by rw [GU]; rfl)
theorem Qwb {q:Rat} (h1:Fe q.num<=2000000) (h2:Fe (q.den:Int)<=2000000):Bd 9000000 [-q.num,(q.den:Int)]:=λz hz=>by
 simp only [Qm,Xy,or_false] at hz;rcases hz with rfl | rfl
 ·rw [Hx]; omega
 ·omega
abbrev aq (q:Rat) (c:Ul):Up:=[rp (zp [-q.num,(q.den:Int)]),.row (tW c)]++fr q++fr q
theorem kW {q:Rat} {c:Ul} (hq:Qs 2000000 q) (hC:Qcx q c):Uh 31 [.agg (fr q)] [.agg (aq q c)]:=by
 obtain ⟨sq,hch⟩:=hC;have co:=VF (n:=1) (by decide);exact Ue func31 rfl [.k co,.k (Ex (n:=q.num)),.k (Qd0 (z:=q.num)),.k co,.k (Ex (n:=(q.den:Int))),.k (Qe2 (a:=[-q.num,(q.den:Int)]) (iC q) (Qwb hq.1 hq.2) (by show 2<=1000; decide) (Ql 2) hch)] rfl
end Orr
namespace Orr
theorem pW (z d:Int):(z:Rat) / (d:Rat)=Rat.divInt z d:=by
 by_cases h:d=0
 ·subst h; simp; grind
 ·rw [Jn];have e1:(z:Rat)=Rat.divInt z 1:=by have:=Z2 (z:Rat); simpa using this.symm
  have e2:(d:Rat)⁻¹=Rat.divInt 1 d:=by
   have:(d:Rat)=Rat.divInt d 1:=by have:=Z2 (d:Rat); simpa using this.symm
   rw [this,Rat.inv_divInt]
  rw [e1,e2,K0];simp
end Orr
namespace Orr
open Go Go.Proofs Tryz
set_option maxRecDepth 10000
structure Rs (k:Crv):Prop where
 n:JH k
 c:Cs 100000 16 k



theorem Qny (l:Um) (n:Nat):(lm l).take (min l.length n)=lm (l.take n):=by
 rw [lm,lm,<-Jv];rcases Nat.le_total l.length n with h | h
 ·rw [Zy h,Q5,Qn h]
 ·rw [V3 h]
theorem Qsv {l:Um} {n:Nat} (hn:n<=1000):Uh 264 [.one (.row (lm l)),.oi n] [.one (.row (lm (l.take n)))]:=by
 rw [<-Qny];have hll:(lm l).length=l.length:=by simp [lm]
 exact Ue func264 rfl [.r 9 (eI (b:=((min l.length n:Nat):Int)) (by omega)),.i (min l.length n)] rfl rfl (by simp [Uz,hll]; omega)
def Ic (l:List RawInt):Uq:=l.map Ip
theorem Ou (l:List RawInt):(Ic l).length=l.length:=by simp [Ic]
abbrev rcw (z:RawPt):Up:=[.row (Ic z.x),.row (Ic z.y),.bool z.d.b,.row (lm z.d.l)]
theorem WE {z:RawInt} (hz:z.Ok) {most:Int} (hm:0<=most/\most<=999):Uh 204 [.agg (Ip z),.oi most] [.agg (Hh (Hy most z))]:=by
 obtain ⟨b,l⟩:=z;have hb:=KG hm.1 ⟨b,l⟩;have hs:Fe (Hy most ⟨b,l⟩)<=100000000:=Qc (Sj.2 (show (Hy most ⟨b,l⟩).natAbs<2^10 by omega)) (by decide);cases l with
 | nil=>exact Ue func204 rfl [.t rfl] rfl (by simp [Hy,D7]) trivial
 |
  cons u l =>
  have hu:=hz.u u (Qx ..);have co:=VF (n:=Hy most ⟨b,u::l⟩) (by omega);have ct:=Qsp hs;have hr:Int.tmod (u:Int) (most+1)=(u:Int) % (most+1):=Y0 (by omega);have h1:=Vi (u:Int) (b:=most+1) (by omega);have h2:=Yu (u:Int) (b:=most+1) (by omega);cases b with
  |
   true =>
   rw [show Hy most ⟨true,u::l⟩=-((u:Int) % (most+1)) from rfl] at co ct ⊢;exact Ue func204 rfl [.f (decide_eq_false (by simp [lm]; try omega)),.x (l:=lm (u::l)) (i:=0) (xs:=[.int .u32 (u:Int)]) rfl,.r 18 (eI hr),.t rfl,.k co,.k ct] rfl rfl (by simp [Uz]; omega)
  |
   false =>
   rw [show Hy most ⟨false,u::l⟩=(u:Int) % (most+1) from rfl] at co ct ⊢;exact Ue func204 rfl [.f (decide_eq_false (by simp [lm]; try omega)),.x (l:=lm (u::l)) (i:=0) (xs:=[.int .u32 (u:Int)]) rfl,.r 18 (eI hr),.f rfl,.k co,.k ct] rfl rfl (by simp [Uz]; omega)
theorem oz2 {P:Program} [Mo P] {n:Nat} {Q:Exit->Sg->Ur->Prop} {L L':Sg} {B B':Ur} (d off T sz:Nat) {it:List It} (hs:Rf it=true) (h:nW (P:=P) d L B [.oc d off T sz]=some (L',B',[],[])) (k:AK P n Q it L' B'):AK P n Q it L B:=AK.sub (LU h EqOk.nil) hs k
theorem pz {P:Program} [Mo P] {n:Nat} {Q:Exit->Sg->Ur->Prop} {L L':Sg} {B B':Ur} (i:Nat) {it:List It} (hs:Rf it=true) (h:Qb1 [i] L B=some (L',B')) (k:AK P n Q it L' B'):AK P n Q it L B:=AK.sub (FH h) hs k
def Af (l:Uk):Uq:=l.map Hh
theorem OH (l:Uk):(Af l).length=l.length:=by simp [Af]
theorem RJ {most:Int} {l:List RawInt} {i:Nat} {a:RawInt} (hi:i<3) (h:l[i]? = some a):Af (Gi most (l.take (i+1)))=Af (Gi most (l.take i))++[Hh (Hy most a)]:=by
 rw [jV hi h]; simp [Af]
theorem jJ {most:Int} {l:List RawInt} {i:Nat} (hi:i<=3) (h:i<=l.length):(Af (Gi most (l.take i))).length=i:=by
 rw [OH]; unfold Gi; rw [List.length_map,List.length_take,List.length_take]; omega
def rwq (z:RawPt):Up:=rcw z++[.int .i64 z.id]
def iW (l:List RawPt):Uq:=l.map rwq
end Orr
namespace Orr
open Go Go.Proofs Tryz Orq
set_option maxRecDepth 10000
theorem Qma {l:Um} (hl:l.length<=1000000000):Uh 218 [.one (.row (lm l)),.one (.row (lm l))] [.one (.bool true)]:=by
 have hll:(lm l).length=l.length:=by simp [lm]
 refine Fw func218 rfl ?_;refine Ub [.f (decide_eq_false (λh=>h rfl))] rfl ?_;refine Ug (S:=Nat) 0 (λL1 i=>(5,.v (.oi i))::L1) (λ_=>[]) (λi=>l.length-i) (λi=>i<=l.length) 0 (Qh _) rfl rfl λi hi=>?_
 by_cases h:i<l.length
 ·have hx:(lm l)[i]? = some [.int .u32 ((l[i]:Nat):Int)]:=Gt (Qe h);refine Uc [.T,.x hx,.x hx,.f (decide_eq_false (λh=>h rfl))] rfl ?_;exact rd (i+1) (by omega) h rfl
 ·exact Ud [.F] rfl
theorem Ql8 {z:Int} (hz:Fe z<=4294967295):Uh 149 [.agg (Hh z),.agg (Hh z)] [.one (.bool true)] :=
 Ue func149 rfl [.g 10 true (decide_eq_true rfl),.k (Qma (l:=Fy z.natAbs) (by have:=Ri (x:=z.natAbs) (k:=4294967295) hz; omega))] rfl
theorem Ql9 {p:Uk} (hp:Bd 4294967295 p) (hl:p.length<=1000000):Uh 78 [pr p,pr p] [.one (.bool true)]:=by
 have hpl:(p.map Hh).length=p.length:=by simp
 show Uh 78 [.one (.row (p.map Hh)),.one (.row (p.map Hh))] _;refine Fw func78 rfl ?_;refine Ub [.f (decide_eq_false (λh=>h rfl))] rfl ?_;refine Ug (S:=Nat) 0 (λL1 i=>(13,.v (.oi i))::L1) (λ_=>[]) (λi=>p.length-i) (λi=>i<=p.length) 0 (Qh _) rfl rfl λi hi=>?_
 by_cases h:i<p.length
 ·have hx:=Pe (Ra h);refine Uc [.T,.x hx,.x hx,.k (Ql8 (Fo hp i)),.f rfl] rfl ?_;exact rd (i+1) (by omega) h rfl
 ·exact Ud [.F] rfl
theorem Qed {l:List Ct} (hl:∀ c∈l,Cp c.p) (hn:l.length≤1000000):Uh 23 [.one (.row (U6 l)),.one (.row (U6 l))] [.one (.bool true)]:=by
 have hcl:=Pa l;refine Fw func23 rfl ?_;refine Ub [.f (decide_eq_false (λh=>h rfl))] rfl ?_;refine Ug (S:=Nat) 0 (λL1 i=>(13,.v (.oi i))::L1) (λ_=>[]) (λi=>l.length-i) (λi=>i<=l.length) 0 (Qh _) rfl rfl λi hi=>?_
 by_cases h:i<l.length
 ·obtain ⟨c,hc⟩:=gxE (l:=l) (i:=i) h;have hx:=ZM hc;have hp:=hl c (Qa hc);refine Uc [.T,.x hx,.x hx,.g 27 false (by simp),.x hx,.x hx,.g 40 false (by simp),.x hx,.x hx,.k (Ql9 (U0 hp.b (by decide)) (by have:=hp.l; omega)),.f rfl] rfl ?_;exact rd (i+1) (by omega) h rfl
 ·exact Ud [.F] rfl
end Orr
namespace Orr
open Go Go.Proofs Tryz
set_option maxRecDepth 10000
theorem Cs.up {s n s' n':Nat} {k:Crv} (h:Cs s n k) (hs:s<=s') (hn:n<=n'):Cs s' n' k:=⟨U0 h.x hs,U0 h.y hs,Qc h.d hs,Qc h.lx hn,Qc h.ly hn⟩
end Orr
namespace Orr
open Go Go.Proofs Tryz Orq
set_option maxRecDepth 10000


theorem Qek {c:Cr} {l l':List Pt} {r1:Uq×Uq} {ws:List Wt} (hc:CrOk c) (hl:∀ p∈l',Sc p.c) (hn:l'.length≤1000) (h:P0 c.l c.now (Fq (PS l' c.now))=some ws) :
 U5 prog 421 [.one (.ow 0 0),.agg [pts l'],.oi 0] [.blk 223 (To c (Uy l) r1)] [.oi 0] [.blk 223 (To ⟨c.now,ws,c.ev⟩ (Uy l') (brT l' c.now))]:=by
 have hB:=sQ hl hn;have cn:=sM (T:=223) (c:=c) (r0:=Uy l') (r1:=r1) hc.n;have cb:=AM (c:=c) (r1:=r1) hl hn hc.n;have cg:=Qah (T:=223) (r0:=Uy l') (r1:=brT l' c.now) hc hc.n (Iw hc.n) (Ya 0) (hB.p _ hc.n) (hB.n _ hc.n) h;refine Fw func421 rfl ?_;exact Uf [] [0] [.f rfl,.c [0] cn,.c [0] cb,.c [0] cg] rfl
theorem Qmh {lx ly:Uq} {px py:Uk} {x y:LV} {d id:Int} {c:Cr} {l:List Pt} {r1:Uq×Uq} {ws:List Wt} (hx:IsInts lx px) (hy:IsInts ly py) (hd:Gs x y d) (hk:Cs 4294967294 1073741824 (Crv.mk px py d)) (hll:l.length<=900)
 (he:KL l ⟨Crv.norm (Crv.mk px py d),id⟩=0) (hc:CrOk c) (hl:∀ p∈put l ⟨Crv.norm (Crv.mk px py d),id⟩,Sc p.c) (hn:(put l ⟨Crv.norm (Crv.mk px py d),id⟩).length≤1000) (h:P0 c.l c.now (Fq (PS (put l ⟨Crv.norm (Crv.mk px py d),id⟩) c.now))=some ws) :
 U5 prog 419 [.one (.ow 0 0),.agg [.row lx,.row ly,x,y,.int .i64 id]] [.blk 223 (To c (Uy l) r1)] [.oi 0] [.blk 223 (To ⟨c.now,ws,c.ev⟩ (Uy (put l ⟨Crv.norm (Crv.mk px py d),id⟩)) (brT (put l ⟨Crv.norm (Crv.mk px py d),id⟩) c.now))]:=by
 have cp:=kZ (l:=l) (id:=id) hx hy hd hk (by omega);rw [if_pos he,he] at cp;have cw:=Qek (l:=l) (r1:=r1) hc hl hn h;refine Fw func419 rfl ?_;obtain ⟨b,l',rfl,rfl,_⟩:=hd;exact Uf [] [0] [.k cp,.c [0] cw] rfl
theorem Qaj {c:Cr} {r0:Uq} {r1:Uq×Uq}:U5 prog 64 [.one (.ow 0 0)] [.blk 223 (To c r0 r1)] [.one (.ow 1 0)] [.blk 223 (To c r0 r1),.blk 223 (To c r0 r1)]:=by
 refine Fw func64 rfl ?_;exact Uf [] [0,1] [] rfl
end Orr
namespace Orq
open Orr Go
def p3j (W:List Pt) (x:Pt) (i j:Nat):List P3:=Lh i W++(Hz j (W.drop (i+1))).map (λm=>(x,m))
def OL (W:List Pt) (x y:Pt) (i j k:Nat):List P3:=Lh i W++(Hz j (W.drop (i+1))++(((W.drop (i+1)).drop (j+1)).take k).map (λz=>(y,z))).map (λm=>(x,m))
theorem DF (W:List Pt) (x:Pt) (i:Nat):p3j W x i 0=Lh i W:=by simp [p3j,Hz]
theorem DT (W:List Pt) (x y:Pt) (i j:Nat):OL W x y i j 0=p3j W x i j:=by simp [OL,p3j]
theorem DG {W:List Pt} {x y z:Pt} {i j k:Nat} (h:((W.drop (i+1)).drop (j+1))[k]? = some z):OL W x y i j (k+1)=OL W x y i j k++[(x,y,z)]:=by
 unfold OL;rw [Zv,h]; simp
theorem jL {W:List Pt} {x y:Pt} {i j k:Nat} (hy:(W.drop (i+1))[j]? = some y) (hk:((W.drop (i+1)).drop (j+1)).length<=k):OL W x y i j k=p3j W x i (j+1):=by
 unfold OL p3j;rw [Qn hk,D9 _ j y hy]
theorem jD {W:List Pt} {x:Pt} {i j:Nat} (hx:W[i]? = some x) (hj:j=(W.drop (i+1)).length):p3j W x i j=Lh (i+1) W:=by
 unfold p3j;rw [hj,YB W i x hx]; rfl
theorem iN {W:List Pt} {i:Nat} (h:i=W.length):Lh i W=Rp W:=by rw [h]; rfl
def p4j (W:List Pt) (x:Pt) (i j:Nat):List P4:=Eg i W++(Lh j (W.drop (i+1))).map (λm=>(x,m))
def p4k (W:List Pt) (x y:Pt) (i j k:Nat):List P4:=Eg i W++(p3j (W.drop (i+1)) y j k).map (λm=>(x,m))
def p4m (W:List Pt) (x y z:Pt) (i j k m:Nat):List P4:=Eg i W++(OL (W.drop (i+1)) y z j k m).map (λm=>(x,m))
theorem Qh3 (W:List Pt) (x:Pt) (i:Nat):p4j W x i 0=Eg i W:=by simp [p4j,Lh]
theorem Qh4 (W:List Pt) (x y:Pt) (i j:Nat):p4k W x y i j 0=p4j W x i j:=by unfold p4k p4j; rw [DF]
theorem Qh6 (W:List Pt) (x y z:Pt) (i j k:Nat):p4m W x y z i j k 0=p4k W x y i j k:=by unfold p4m p4k; rw [DT]
theorem Qh5 {W:List Pt} {x y z u:Pt} {i j k m:Nat} (h:(((W.drop (i+1)).drop (j+1)).drop (k+1))[m]? = some u):p4m W x y z i j k (m+1)=p4m W x y z i j k m++[(x,y,z,u)]:=by
 unfold p4m;rw [DG h]; simp
theorem Qoh {W:List Pt} {x y z:Pt} {i j k m:Nat} (hz:((W.drop (i+1)).drop (j+1))[k]? = some z) (hm:(((W.drop (i+1)).drop (j+1)).drop (k+1)).length<=m):p4m W x y z i j k m=p4k W x y i j (k+1):=by
 unfold p4m p4k;rw [jL hz hm]
theorem Qog {W:List Pt} {x y:Pt} {i j k:Nat} (hy:(W.drop (i+1))[j]? = some y) (hk:k=((W.drop (i+1)).drop (j+1)).length):p4k W x y i j k=p4j W x i (j+1):=by
 unfold p4k p4j;rw [jD hy hk]
theorem Qof {W:List Pt} {x:Pt} {i j:Nat} (hx:W[i]? = some x) (hj:j=(W.drop (i+1)).length):p4j W x i j=Eg (i+1) W:=by
 unfold p4j;rw [hj,RP W i x hx]; rfl
theorem Qow {W:List Pt} {i:Nat} (h:i=W.length):Eg i W=Ot W:=by rw [h]; rfl
theorem KB:∀ (k:Nat) (l:List Pt),∃ r,Gm l=Hz k l++r
 | 0,l=>⟨Gm l,rfl⟩
 | k+1,[]=>⟨[],rfl⟩
 |
  k+1,x::l=>by
  obtain ⟨r,h⟩:=KB k l;exact ⟨r,by show l.map _++Hz l.length l=l.map _++Hz k l++r; rw [show Hz l.length l=Gm l from rfl,h,Za]⟩
theorem EK:∀ (k:Nat) (l:List Pt),∃ r,Rp l=Lh k l++r
 | 0,l=>⟨Rp l,rfl⟩
 | k+1,[]=>⟨[],rfl⟩
 |
  k+1,x::l=>by
  obtain ⟨r,h⟩:=EK k l;exact ⟨r,by show (Gm l).map _++Lh l.length l=(Gm l).map _++Lh k l++r; rw [show Lh l.length l=Rp l from rfl,h,Za]⟩
theorem gA:∀ (k:Nat) (l:List Pt),∃ r,Ot l=Eg k l++r
 | 0,l=>⟨Ot l,rfl⟩
 | k+1,[]=>⟨[],rfl⟩
 |
  k+1,x::l=>by
  obtain ⟨r,h⟩:=gA k l;exact ⟨r,by show (Rp l).map _++Eg l.length l=(Rp l).map _++Eg k l++r; rw [show Eg l.length l=Ot l from rfl,h,Za]⟩
theorem aG {W:List Pt} (h6:W.length<=6) {x y:Pt} {i j k:Nat} (hx:W[i]? = some x) (hy:(W.drop (i+1))[j]? = some y):(OL W x y i j k).length<=20:=by
 have h0:=(YS h6).1;obtain ⟨r,hr⟩:=EK (i+1) W;rw [YB W i x hx] at hr;obtain ⟨r2,hr2⟩:=KB (j+1) (W.drop (i+1));rw [D9 _ j y hy] at hr2;have e1:=congrArg List.length hr;have e2:=congrArg List.length hr2;have e3:(((W.drop (i+1)).drop (j+1)).take k).length<=((W.drop (i+1)).drop (j+1)).length:=by rw [Qt]; exact Nat.min_le_right _ _
 unfold OL;simp only [Qy,Q6] at e1 e2 ⊢;omega
theorem Qoi {W:List Pt} (h6:W.length<=6) {x y z:Pt} {i j k m:Nat} (hx:W[i]? = some x) (hy:(W.drop (i+1))[j]? = some y) (hz:((W.drop (i+1)).drop (j+1))[k]? = some z):(p4m W x y z i j k m).length<=15:=by
 have h0:=(YS h6).2;obtain ⟨r,hr⟩:=gA (i+1) W;rw [RP W i x hx] at hr;obtain ⟨r1,hr1⟩:=EK (j+1) (W.drop (i+1));rw [YB _ j y hy] at hr1;obtain ⟨r2,hr2⟩:=KB (k+1) ((W.drop (i+1)).drop (j+1));rw [D9 _ k z hz] at hr2;have e1:=congrArg List.length hr;have e2:=congrArg List.length hr1;have e4:=congrArg List.length hr2;have e3:((((W.drop (i+1)).drop (j+1)).drop (k+1)).take m).length<=(((W.drop (i+1)).drop (j+1)).drop (k+1)).length:=by rw [Qt]; exact Nat.min_le_right _ _
 unfold p4m OL;simp only [Qy,Q6] at e1 e2 e4 ⊢;omega
theorem Qbh {sg:Uk->Int} (hg:∀ p,-1<=Hg sg p/\Hg sg p<=1) (ps:List P3):vG (Ap (ZW sg ps)):=by
 have key:∀ (ps:List P3) (M:Np),vG M->vG ((ZW sg ps).foldl (λM e=>Lq M e.1 (.int .i64 e.2)) M):=by
  intro ps
  induction ps with
  | nil=>intro M h; exact h
  | cons m ps ih=>intro M h; exact ih _ (Qg7 h (hg _))
 exact key ps [] Qg6
theorem sK (sg:Uk->Int) (T:Np) (ps:List P4):VV (I5 T (VX sg ps)):=by
 have key:∀ (ps:List P4) (F:Np),VV F->VV ((VX sg ps).foldl (λF e=>IR T e.2 e.1 F) F):=by
  intro ps
  induction ps with
  | nil=>intro M h; exact h
  | cons m ps ih=>intro M h; exact ih _ (sV h)
 exact key ps [] oS
theorem qY (p:Uk) (q:Rat):-1<=H7 p q/\H7 p q<=1:=by
 rw [Nf]; unfold Fc
 split
 ·exact ⟨by decide,by decide⟩
 ·split <;> exact ⟨by decide,by decide⟩
theorem Qjk {p:Uk} {a:Tm} {s:Int} (h:FB p a=some s):-1<=s/\s<=1:=by
 unfold FB at h
 split at h
 ·injection h with h; subst h; exact ⟨by decide,by decide⟩
 ·split at h
  ·injection h with h; subst h; exact qY _ _
  ·obtain ⟨g,_,h⟩:=Qd.1 h
   split at h
   ·injection h with h; subst h; exact ⟨by decide,by decide⟩
   ·obtain ⟨c,_,h⟩:=Qd.1 h;obtain ⟨x,_,h⟩:=Qd.1 h;injection h with h; subst h; exact qY _ _
theorem Qgt (a:Tm) (p:Uk):-1<=Hg (Fp a) p/\Hg (Fp a) p<=1:=by
 have hs:∀ p,-1<=Fp a p/\Fp a p<=1:=λp=>by
  unfold Fp;cases h:FB p a with
  | none=>exact ⟨by decide,by decide⟩
  | some s=>exact Qjk h
 have key:∀ (k:Nat) (p:Uk),-1<=Tq (Fp a) k p/\Tq (Fp a) k p<=1:=by
  intro k
  induction k with
  | zero=>intro p; exact ⟨by simp [Tq],by simp [Tq]⟩
  |
   succ k ih =>
   intro p;simp only [Tq]
   split
   ·exact ⟨by decide,by decide⟩
   ·split
    ·exact ih _
    ·exact hs p
 exact key _ p
end Orq
namespace Orr
open Go Go.Proofs Tryz Orq
set_option maxRecDepth 10000
theorem cE {a b c:Pt} {t:Tm} (ha:Sc a.c) (hb:Sc b.c) (hc:Sc c.c) (ht:Va t):Uh 255 [.oi 3,.agg (ta t),.one (.row [Fa a,Fa b,Fa c])] [.agg (Db (D4 (Fp t) a b c)),.oi 0]:=by
 have hp:=(JE ha hb hc).dp;have e:Db (D4 (Fp t) a b c)=[.int .i64 3,.int .i64 a.id,.int .i64 b.id,.int .i64 c.id,.int .i64 0,pl (He a.c b.c c.c),.int .i64 (Hg (Fp t) (He a.c b.c c.c))]:=by rw [D4]
 rw [e];have cg:=TN hp ht;have cf:=vO ha hb hc;generalize He a.c b.c c.c=F at *;refine Fw func255 rfl ?_;refine Ub [.k Qan,.f rfl] rfl ?_;refine Ug (S:=Nat) 3 (λL1 i=>(22,.v (.oi i))::L1) (λi=>[.blk 105 (ta t),.blk 99 zCt,.blk 99 [.int .i64 3,.int .i64 (if 1<=i then a.id else 0),.int .i64 (if 2<=i then b.id else 0),.int .i64 (if 3<=i then c.id else 0),.int .i64 0,.nils,.int .i64 0]]) (λi=>3-i) (λi=>i<=3) 0 (Qh _) rfl rfl λi hi=>?_
 rcases (show i=0\/i=1\/i=2\/i=3 by omega) with rfl | rfl | rfl | rfl
 ·refine Ub [.t rfl,.x (i:=0) (xs:=Fa a) rfl,.i 0] rfl ?_ (by simp [Uz]);exact rd 1 (by omega) (by omega) rfl
 ·refine Ub [.t rfl,.x (i:=1) (xs:=Fa b) rfl,.i 1] rfl ?_ (by simp [Uz]);exact rd 2 (by omega) (by omega) rfl
 ·refine Ub [.t rfl,.x (i:=2) (xs:=Fa c) rfl,.i 2] rfl ?_ (by simp [Uz]);exact rd 3 (by omega) (by omega) rfl
 ·exact Ud [.f rfl,.f rfl,.f rfl,.t rfl,.x (i:=0) (xs:=Fa a) rfl,.x (i:=1) (xs:=Fa b) rfl,.x (i:=2) (xs:=Fa c) rfl,.k cf,.k cg] rfl
theorem Az {α:Type} (s:α->α->α->Bool):∀ (l acc:List α) (c:α),Pp s acc (l++[c])=c::Lc s c (Pp s acc l)
 | [],_,_=>rfl
 | _::l,_,c=>Az s l _ c
theorem dK {R:List Pt} {t:Tm} (hR:∀ p∈R,Sc p.c) (hn:R.length≤1000000) (ht:Va t):Uh 292 [.agg (ta t),.one (pts R)] [.one (pts (S9 (Fp t) R))]:=by
 have hcl:=G0 R;show Uh 292 [.agg (ta t),.one (.row (Uy R))] [.one (.row (Uy (Pp (UN (Fp t)) [] R).reverse))];obtain ⟨s,hs⟩:=nmE (UN (Fp t));have hs':∀ a b c,s a b c=decide (0<Hg (Fp t) (He a.c b.c c.c)):=λa b c=>by rw [hs]; rfl
 rw [<-hs];refine Fw func292 rfl ?_;refine Ub [.o 5 40 5] rfl ?_;refine Ug (S:=Nat) 2 (λL1 i=>(10,.v (.oi i))::(5,.v (.one (.orow 1 5 none)))::L1) (λi=>[.blk 105 (ta t),.row false 40 5 (Uy (Pp s [] (R.take i)).reverse)]) (λi=>R.length-i) (λi=>i<=R.length) 0 (Qh _) rfl rfl λi hi=>?_
 by_cases hlt:i<R.length
 ·obtain ⟨c,hc⟩:=gxE (l:=R) (i:=i) hlt;have hcp:=hR c (Qa hc);have hst:Pp s [] (R.take (i+1))=c::Lc s c (Pp s [] (R.take i)):=by rw [Zv,hc]; exact Az s _ _ c
  obtain ⟨O,hO⟩:=nmE (Pp s [] (R.take i));have hOl:O.length<=1000000:=by
   have:=VI s (R.take i) [];rw [<-hO,Qt] at this; simp at this; omega
  have hOm:∀ x∈O,Sc x.c:=λx hx=>by
   rw [hO] at hx;rcases VO hx with h | h
   ·cases h
   ·exact hR x (Qo h)
  rw [<-hO] at hst ⊢;have hrl:(Uy O.reverse).length=O.length:=by rw [G0,Xn]
  have hm:∀ y∈[Fa c],y.length=5:=λy hy=>by rw [Qk.1 hy]; rfl
  have hget:∀ {pre r:List Pt} {x:Pt},O=pre++x::r->∀ j,j=r.length->(Uy O.reverse)[j]? = some (Fa x):=λ{pre r x} e j hj=>by
   refine Sp ?_;rw [e,hj]; simp
  have hfin:∀ {pre st:List Pt},O=pre++st->Uy (c::st).reverse=(Uy O.reverse).take st.length++[Fa c]:=λ{pre st} e=>by
   rw [e]; simp [Uy,Jv,List.take_append]
  have hfull:Uy (c::O).reverse=Uy O.reverse++[Fa c]:=by simp [Uy]
  refine Ub [.t (by simp [hcl]; omega),.x (Sp hc)] rfl ?_;refine Ug (S:=Bool×List Pt) 3 (λL1 s=>(5,.v (.one (.orow 1 5 (cond s.1 (some (0,s.2.length)) none))))::L1) (λ_=>[.blk 105 (ta t),.row false 40 5 (Uy O.reverse),.blk 40 (Fa c)]) (λs=>s.2.length) (λst=>(∃ pre,O=pre++st.2/\(st.1=false->pre=[]))/\Lc s c st.2=Lc s c O) (false,O) ⟨⟨[],rfl,λ_=>rfl⟩,rfl⟩ rfl rfl λ⟨b,st⟩ ⟨⟨pre,h1,h2⟩,h3⟩=>?_
  have h1:O=pre++st:=h1;have h3:Lc s c st=Lc s c O:=h3;have hl1:O.length=pre.length+st.length:=by rw [h1,Qy]
  have fin:∀ {st:List Pt},O=pre++st->Lc s c st=Lc s c O->Lc s c st=st->Uy (Pp s [] (R.take (i+1))).reverse=(Uy O.reverse).take st.length++[Fa c]/\(pre=[]->Uy (Pp s [] (R.take (i+1))).reverse=Uy O.reverse++[Fa c]):=λ{st} e1 e2 e3=>by
   rw [hst,<-e2,e3];refine ⟨hfin e1,λhp=>?_⟩;rw [hp] at e1;rw [<-hfull,e1]; rfl
  rcases st with _ | ⟨z,_ | ⟨y,r⟩⟩
  ·obtain ⟨f1,f2⟩:=fin h1 h3 rfl;cases b with
   |
    false =>
    have hp:=h2 rfl;have f2:=f2 hp;rw [hp] at hl1;have hl2:(Uy O.reverse).length<=1:=by rw [hrl,hl1]; simp
    refine Uc [.g 17 false Ui,.f rfl,.s (sz:=5) hm] rfl ?_;exact rd (i+1) (by omega) hlt (by rw [f2]; rfl)
   |
    true =>
    refine Uc [.g 17 false (decide_eq_false (by simp)),.f rfl,.s (sz:=5) hm] rfl ?_;exact rd (i+1) (by omega) hlt (by rw [f1]; rfl)
  ·obtain ⟨f1,f2⟩:=fin h1 h3 rfl;cases b with
   |
    false =>
    have hp:=h2 rfl;have f2:=f2 hp;rw [hp] at hl1;have hl2:(Uy O.reverse).length<=1:=by rw [hrl,hl1]; simp
    refine Uc [.g 17 false Ui,.f rfl,.s (sz:=5) hm] rfl ?_;exact rd (i+1) (by omega) hlt (by rw [f2]; rfl)
   |
    true =>
    refine Uc [.g 17 false (decide_eq_false (by simp)),.f rfl,.s (sz:=5) hm] rfl ?_;exact rd (i+1) (by omega) hlt (by rw [f1]; rfl)
  ·have sz:=hOm z (by rw [h1]; simp);have sy:=hOm y (by rw [h1]; simp);have co:=vO sy sz hcp;have cg:=TN (JE sy sz hcp).dp ht;have gz:=hget h1 (r.length+1) rfl;have gy:=hget (pre:=pre++[z]) (r:=r) (x:=y) (by rw [h1]; simp) r.length rfl;have hl1:O.length=pre.length+(r.length+2):=hl1;have hls:=hs' y z c;by_cases hq:s y z c=true
   ·have hg:¬Hg (Fp t) (He y.c z.c c.c)<=0:=by rw [hls] at hq; have:=of_decide_eq_true hq; omega
    obtain ⟨f1,f2⟩:=fin h1 h3 (by simp only [Lc]; rw [if_pos hq]);cases b with
    |
     false =>
     have hp:=h2 rfl;have f2:=f2 hp;rw [hp] at hl1;have hl2:(Uy O.reverse).length=r.length+2:=by rw [hrl,hl1]; simp
     refine Uc [.g 17 true Uj,.r 21 (eI (b:=(r.length:Int)) (by omega)),.i r.length,.x gy,.r 28 (eI (b:=((r.length+1:Nat):Int)) (by omega)),.i (r.length+1),.x gz,.k co,.k cg,.f (decide_eq_false hg),.s (sz:=5) hm] rfl ?_;exact rd (i+1) (by omega) hlt (by rw [f2]; rfl)
    |
     true =>
     refine Uc [.g 17 true (decide_eq_true (by simp; omega)),.r 21 (eI (b:=(r.length:Int)) (by simp; omega)),.i r.length,.x (l:=Uy O.reverse) (i:=0+r.length) (xs:=Fa y) (by rw [Zz]; exact gy),.r 28 (eI (b:=((r.length+1:Nat):Int)) (by simp)),.i (r.length+1),.x (l:=Uy O.reverse) (i:=0+(r.length+1)) (xs:=Fa z) (by rw [Zz]; exact gz),.k co,.k cg,.f (decide_eq_false hg),.s (sz:=5) hm] rfl ?_;exact rd (i+1) (by omega) hlt (by rw [f1]; rfl)
   ·have hg:Hg (Fp t) (He y.c z.c c.c)<=0:=by
     rw [hls] at hq; have:=of_decide_eq_false (Wu.2 hq); omega
    have hpop:Lc s c (y::r)=Lc s c O:=by rw [<-h3]; simp only [Lc]; rw [if_neg hq]
    have hin:(∃ pre',O=pre'++(y::r)/\((true:Bool)=false->pre'=[]))/\Lc s c (y::r)=Lc s c O:=⟨⟨pre++[z],by rw [h1]; simp,λh=>by cases h⟩,hpop⟩;cases b with
    |
     false =>
     have hp:=h2 rfl;rw [hp] at hl1;have hl2:(Uy O.reverse).length=r.length+2:=by rw [hrl,hl1]; simp
     refine Uc [.g 17 true Uj,.r 21 (eI (b:=(r.length:Int)) (by omega)),.i r.length,.x gy,.r 28 (eI (b:=((r.length+1:Nat):Int)) (by omega)),.i (r.length+1),.x gz,.k co,.k cg,.t (decide_eq_true hg),.r 42 (eI (b:=((r.length+1:Nat):Int)) (by omega)),.i (r.length+1)] rfl ?_;exact rd (true,y::r) (by simp) hin rfl
    |
     true =>
     refine Uc [.g 17 true (decide_eq_true (by simp; omega)),.r 21 (eI (b:=(r.length:Int)) (by simp; omega)),.i r.length,.x (l:=Uy O.reverse) (i:=0+r.length) (xs:=Fa y) (by rw [Zz]; exact gy),.r 28 (eI (b:=((r.length+1:Nat):Int)) (by simp)),.i (r.length+1),.x (l:=Uy O.reverse) (i:=0+(r.length+1)) (xs:=Fa z) (by rw [Zz]; exact gz),.k co,.k cg,.t (decide_eq_true hg),.r 42 (eI (b:=((r.length+1:Nat):Int)) (by simp)),.i (r.length+1)] rfl ?_;exact rd (true,y::r) (by simp) hin rfl
 ·obtain rfl:i=R.length:=by omega
  rw [Q5];exact Ud [.f (by simp [hcl])] rfl
theorem pQ {sg:Uk->Int} {R:List Pt} (h:R≠[]):0<(S9 sg R).length:=by
 unfold S9;rw [Xn];obtain ⟨x,hx⟩:∃ x,R.getLast? = some x:=⟨_,Ym h⟩;obtain ⟨l,hl⟩:=Y6.1 hx;rw [hl,Az]; simp
theorem fE {α:Type} (s:α->α->α->Bool) (c:α):∀ {st:List α},st≠[]->0<(Lc s c st).length
 | [],h=>absurd rfl h
 | [_],_=>by simp [Lc]
 |
  b::a::r,_=>by
  simp only [Lc]
  split
  ·simp
  ·exact fE s c (by simp)
theorem BV {sg:Uk->Int} {R:List Pt} (h:2<=R.length):2<=(S9 sg R).length:=by
 unfold S9;rw [Xn];obtain ⟨x,hx⟩:∃ x,R.getLast? = some x:=⟨_,Ym (by intro e; rw [e] at h; simp at h)⟩;obtain ⟨l,hl⟩:=Y6.1 hx;have hl0:l≠[]:=by intro e; rw [hl,e] at h; simp at h
 have:=pQ (sg:=sg) hl0;unfold S9 at this;rw [Xn] at this;have:=fE (UN sg) x (st:=Pp (UN sg) [] l) (by intro e; rw [e] at this; simp at this);rw [hl,Az,Q7]; omega
theorem dH {R:List Pt} {t:Tm} (hR:∀ p∈R,Sc p.c) (hn:R.length≤1000000) (ht:Va t):Uh 256 [.agg (ta t),.one (pts R)] [.one (pts (Lr (Fp t) R))]:=by
 have hcl:=G0 R;have hrl:=G0 R.reverse;rw [Xn] at hrl;show Uh 256 [.agg (ta t),.one (.row (Uy R))] [.one (.row (Uy (Lr (Fp t) R)))];refine Fw func256 rfl ?_;by_cases h3:R.length<3
 ·have e:Lr (Fp t) R=R:=if_pos h3;rw [e];exact Ud [.T] rfl
 have c1:=dK hR hn ht;have c2:=dK (R:=R.reverse) (λp hp=>hR p (Jk.1 hp)) (by rw [Xn]; exact hn) ht;have p1:=BV (sg:=Fp t) (R:=R) (by omega);have p2:=BV (sg:=Fp t) (R:=R.reverse) (by rw [Xn]; omega);have k1:=QQ (Fp t) R;have k2:=QQ (Fp t) R.reverse;rw [Xn] at k2;refine go tt [.F,.o 5 40 5,.r 15 (eI (b:=(R.length:Int)-1-((0:Nat):Int)) (by omega))] rfl (by simp [Uz,hcl]; omega) ?_;refine Ug (S:=Nat) 2 (λL1 j=>(6,.v (.oi ((R.length:Int)-1-(j:Int))))::(5,.v (.one (.orow 1 5 none)))::L1) (λj=>[.blk 105 (ta t),.row false 40 5 (Uy (R.reverse.take j))]) (λj=>R.length-j) (λj=>j<=R.length) 0 (Qh _) rfl rfl λj hj=>?_
 by_cases hlt:j<R.length
 ·obtain ⟨x,hx⟩:=gxE (l:=R) (i:=R.length-1-j) (by omega);have hx':R.reverse[j]? = some x:=by rw [List.getElem?_reverse (by omega)]; exact hx
  have hm:∀ y∈[Fa x],y.length=5:=λy hy=>by rw [Qk.1 hy]; rfl
  have e:Uy (R.reverse.take (j+1))=Uy (R.reverse.take j)++[Fa x]:=by rw [Zv,hx']; simp [Uy]
  have htl:(Uy (R.reverse.take j)).length=j:=by rw [G0,Qt,Xn]; omega
  refine go tt [.T,.r 22 (eI (b:=((R.length-1-j:Nat):Int)) (by omega)),.x (Sp hx),.s (sz:=5) hm,.r 19 (eI (b:=(R.length:Int)-1-((j+1:Nat):Int)) (by omega))] rfl (by simp [Uz,htl]; omega) ?_;exact rd (j+1) (by omega) hlt (by rw [e]; rfl)
 ·obtain rfl:j=R.length:=by omega
  rw [Qn (by rw [Xn]; exact Ql _)];obtain ⟨A,hA⟩:=nmE (S9 (Fp t) R);obtain ⟨C,hC⟩:=nmE (S9 (Fp t) R.reverse);have e:Lr (Fp t) R=A.dropLast++C.dropLast:=by rw [hA,hC]; exact if_neg h3
  rw [<-hA] at c1 p1 k1;rw [<-hC] at c2 p2 k2;rw [e];have hs:∀ y∈(C.map Fa).take (C.length-1),y.length=5:=λy hy=>YR C y (Qo hy)
  have hs2:∀ y∈(A.map Fa).take (A.length-1),y.length=5:=λy hy=>YR A y (Qo hy)
  refine Ud [.F,.p 1,.k c1,.k c2,.r 36 (eI (b:=((A.length-1:Nat):Int)) (by simp; omega)),.r 39 (eI (b:=((A.length-1:Nat):Int)) (by simp; omega)),.i (A.length-1),.r 44 (eI (b:=((C.length-1:Nat):Int)) (by simp; omega)),.i (C.length-1),.s (sz:=5) hs] rfl (by simp [Uy,Jv,List.dropLast_eq_take]) ?_;simp only [Uz,Qt,Q6]
  and_intros <;> first | exact hs2 | omega
theorem TM {l:List Pt} {t:Tm} (hl:∀ p∈l,Sc p.c) (hn:l.length≤1000000) (ht:Va t):U5 prog 253 [.agg (ta t),.one (pts l)] [] [.one (.orow 0 7 none)] [.row false 99 7 (U6 (Ss (Fp t) l))]:=by
 have hcl:=G0 l;show U5 prog 253 [.agg (ta t),.one (.row (Uy l))] [] [.one (.orow 0 7 none)] [.row false 99 7 (U6 (Ss (Fp t) l))];refine Fw func253 rfl ?_;refine Ub [.o 5 99 7] rfl ?_;refine Ug (S:=Nat) 2 (λL1 i=>(6,.v (.oi ((i+1:Nat):Int)))::(5,.v (.one (.orow 1 7 none)))::L1) (λi=>[.blk 105 (ta t),.row false 99 7 (U6 ((Ss (Fp t) l).take i))]) (λi=>l.length-i) (λi=>i<=l.length-1) 0 (Qh _) rfl rfl λi hi=>?_
 by_cases hlt:i+1<l.length
 ·obtain ⟨a,ha⟩:=gxE (l:=l) (i:=i) (by omega);obtain ⟨b,hb⟩:=gxE (l:=l) (i:=i+1) hlt;have hg:=RL (Fp t) ha hb;have hm:∀ y∈[Db (QT (Fp t) a b)],y.length=7:=λy hy=>by rw [Qk.1 hy]; rfl
  refine go tt [.t (by simp [hcl]; omega),.r 19 (eI (b:=(i:Int)) (by simp)),.x (Sp ha),.x (Sp hb),.k (cL (hl a (Qa ha)) (hl b (Qa hb)) ht),.s (sz:=7) hm,.r 14 (eI (b:=((i+1+1:Nat):Int)) (by simp))] rfl (by simp [Uz,G0,Pa,Bn]; omega) ?_;exact rd (i+1) (by omega) (by omega) (by rw [hg]; simp [U6]; rfl)
 ·have e:(Ss (Fp t) l).take i=Ss (Fp t) l:=Qn (by rw [Bn]; omega);rw [e];exact Uf [] [1] [.f (by simp [hcl]; omega)] rfl
theorem wS {C:List Pt} {i:Nat} {a b:Pt} (ha:C[i]? = some a) (hb:C[(i+1) % C.length]? = some b):(Rm C)[i]? = some (a,b):=by
 have hi:=(Qf.1 ha).1;unfold Rm;rw [List.getElem?_zip_eq_some];refine ⟨ha,?_⟩;by_cases h:i+1<C.length
 ·rw [Xs h] at hb;rw [Zm (by rw [Zj]; omega),Xb,Ju]; exact hb
 ·have e:i+1=C.length:=by omega
  rw [e,Nat.mod_self] at hb;rw [Xg (by rw [Zj]; omega),Zj,show i-(C.length-1)=0 by omega,Kf (by omega)]; exact hb
theorem wP (C:List Pt):(Rm C).length=C.length:=by
 unfold Rm;rw [List.length_zip,Qy,Zj,Qt]; omega
theorem EX {α β:Type} {f:α->List β} {l:List α} {i:Nat} {x:α} (h:l[i]? = some x):(l.take (i+1)).flatMap f=(l.take i).flatMap f++f x:=by
 rw [Zv,h]; simp
theorem TZ {α β:Type} {f:α->β} {p:α->Bool} {l:List α} {i:Nat} {x:α} (h:l[i]? = some x):((l.take (i+1)).filter p).map f=((l.take i).filter p).map f++if p x=true then [f x] else []:=by
 rw [Zv,h,Vk,Yd];congr 1;simp only [Option.toList];by_cases hp:p x=true
 ·rw [if_pos hp,X3 hp]; rfl
 ·rw [if_neg hp,Jw hp]; rfl
theorem wA {α β:Type} {f:α->List β} {n:Nat} (hf:∀ x,(f x).length<=n) (l:List α):(l.flatMap f).length<=l.length*n:=KJ f n l λx _=>hf x
theorem oQ {l:List Pt} (hl:∀ p∈l,Sc p.c):∀ p∈l,oV 4294967294 1073741824 p:=λp hp=>⟨(hl p hp).n,(hl p hp).c.mono (by decide) (by decide)⟩
set_option maxHeartbeats 4000000 in
theorem AT {l:List Pt} {a:Tm} {c:Cr} {r1:Uq} (hl:∀ p∈l,Sc p.c) (hn:l.length≤10) (ha:Va a):U5 prog 197 [.one (.ow 0 0),.agg (ta a)] [.blk 225 (Hr c (Uy l) r1)] [.one (.row (U6 (TP l a)))] [.blk 225 (Hr c (Uy l) (brH l a))]:=by
 have hwl:=Oz l;have cw:=sN (l:=l) (oQ hl) (by omega);have cr:=kX (l:=Tg l) (λp hp=>hl p (Nk hp)) (by omega) ha;have cn:=dH (R:=Ts a (Tg l)) (λp hp=>hl p (Nk (Hm.1 hp))) (by rw [Nh]; omega) ha;have cr2:=kX hl (by omega) ha;have cc:=TM (l:=Ts a l) (t:=a) (λp hp=>hl p (Hm.1 hp)) (by rw [Nh]; omega) ha;have hCm:∀ p∈Sr l a,p∈l:=λp hp=>Iy hp
 have hCl:=JL l a;have e0:TP l a=ZH l a++Nu (Fp a) l (Sr l a):=rfl;rw [e0];show U5 prog 197 _ _ _ [.blk 225 (Hr c (Uy l) (Uy (Sr l a)))];have cn:Uh 256 [.agg (ta a),.one (pts (Ts a (Tg l)))] [.one (pts (Sr l a))]:=cn;have cc:U5 prog 253 [.agg (ta a),.one (pts (Ts a l))] [] [.one (.orow 0 7 none)] [.row false 99 7 (U6 (ZH l a))]:=cc;have hbl:(ZH l a).length<=10:=by unfold ZH; rw [Bn,Nh]; omega
 obtain ⟨C,hC⟩:=nmE (Sr l a);obtain ⟨cs0,hc0⟩:=nmE (ZH l a);rw [<-hC] at cn hCm hCl ⊢;rw [<-hc0] at cc hbl ⊢;have hcp:=G0 C;have hlp:=G0 l;have eel:∀ x,(E6 (Fp a) l x).length<=l.length:=λx=>by unfold E6; rw [List.length_map]; exact List.length_filter_le _ _
 refine Fw func197 rfl ?_;refine Ub [.k cw,.k cr,.k cn,.k If,.k cr2,.c [2] cc] rfl ?_;by_cases h2:C.length<2
 ·have e:Nu (Fp a) l C=[]:=if_pos h2;rw [e,Zw];exact Uf [2] [0] [.t (decide_eq_true (by simp; omega))] rfl
 have e:Nu (Fp a) l C=(Rm C).flatMap (E6 (Fp a) l):=if_neg h2;rw [e];refine Ub [.f (decide_eq_false (by simp; omega))] rfl ?_;refine sb [(48,.v (.oi 0)),(47,.v (.oi ((C.map Fa).length:Int))),(46,.v (.one (pts C))),(6,.v (.one (.orow 2 7 none))),(3,.v (.one (.ow 1 0))),(0,.v (.one (.ow 0 0)))] [.blk 225 (Hr c (Uy l) (Uy C)),.blk 105 (ta a),.row false 99 7 (U6 cs0)] rfl rfl ?_;rw [show U6 cs0=U6 (cs0++((Rm C).take 0).flatMap (E6 (Fp a) l)) by simp];refine Ug (S:=Nat) 3 (λL1 i=>(48,.v (.oi i))::(6,.v (.one (.orow 2 7 none)))::L1) (λi=>[.blk 225 (Hr c (Uy l) (Uy C)),.blk 105 (ta a),.row false 99 7 (U6 (cs0++((Rm C).take i).flatMap (E6 (Fp a) l)))]) (λi=>C.length-i) (λi=>i<=C.length) 0 (Qh _) rfl rfl λi hi=>?_
 by_cases hlt:i<C.length
 ·obtain ⟨x,hx⟩:=gxE (l:=C) (i:=i) hlt;obtain ⟨y,hy⟩:=gxE (l:=C) (i:=(i+1) % C.length) (Z5 _ (by omega));have he:=wS hx hy;have sx:=hl x (hCm x (Qa hx));have sy:=hl y (hCm y (Qa hy));have hflat:=EX (f:=E6 (Fp a) l) he;obtain ⟨F,hF⟩:=nmE (cs0++((Rm C).take i).flatMap (E6 (Fp a) l));have hFl:F.length<=10+20*10:=by
   have h1:=wA eel ((Rm C).take i);have h2:((Rm C).take i).length*l.length<=20*10:=Zf (by rw [Qt]; omega) hn;rw [hF,Qy]; omega
  have hmod:(((i+1:Nat):Int)).tmod ((C.map Fa).length:Int)=(((i+1) % C.length:Nat):Int):=by rw [Q6]; exact (Int.ofNat_tmod _ _).symm
  have hm0:=Vi ((i+1:Nat):Int) (show (C.length:Int)≠0 by omega);have hm1:=Yu ((i+1:Nat):Int) (show (0:Int)<C.length by omega);have hnext:cs0++((Rm C).take (i+1)).flatMap (E6 (Fp a) l)=F++(l.filter (VZ (x,y))).map λc=>D4 (Fp a) x y c:=by rw [hflat,<-Za,<-hF]; rfl
  rw [<-hF];refine go tt [.t (decide_eq_true (by simp; omega)),.x (Sp hx),.r 58 (eI (b:=((i+1:Nat):Int)) (by simp)),.r 64 (eI (b:=(((i+1) % C.length:Nat):Int)) hmod),.x (Sp hy),.k If] rfl (by simp only [Uz]; omega) ?_;rw [show U6 F=U6 (F++((l.take 0).filter (VZ (x,y))).map λc=>D4 (Fp a) x y c) by simp];refine Ug (S:=Nat) 5 (λL1 k=>(73,.v (.oi k))::(6,.v (.one (.orow 2 7 none)))::L1) (λk=>[.blk 225 (Hr c (Uy l) (Uy C)),.blk 105 (ta a),.row false 99 7 (U6 (F++((l.take k).filter (VZ (x,y))).map λc=>D4 (Fp a) x y c)),.blk 40 (Fa x),.blk 40 (Fa y)]) (λk=>l.length-k) (λk=>k<=l.length) 0 (Qh _) rfl rfl λk hk=>?_
  by_cases hlk:k<l.length
  ·obtain ⟨z,hz⟩:=gxE (l:=l) (i:=k) hlk;have sz:=hl z (Qa hz);have hflt:=TZ (f:=λc=>D4 (Fp a) x y c) (p:=VZ (x,y)) hz;obtain ⟨G,hG⟩:=nmE (((l.take k).filter (VZ (x,y))).map λc=>D4 (Fp a) x y c);have hGl:G.length<=10:=by
    have h1:=Yx (VZ (x,y)) (l.take k);rw [Qt] at h1;rw [hG,Q6]; omega
   rw [<-hG] at hflt ⊢;by_cases h1:z.id=x.id
   ·rw [if_neg (show ¬VZ (x,y) z=true by simp [VZ,h1]),Zw] at hflt;refine Uc [.t (decide_eq_true (by simp; omega)),.x (Sp hz),.g 82 false (decide_eq_false (by simp [h1])),.f rfl] rfl ?_;exact rd (k+1) (by omega) hlk (by rw [hflt]; rfl)
   ·by_cases h2:z.id=y.id
    ·rw [if_neg (show ¬VZ (x,y) z=true by simp [VZ,h2]),Zw] at hflt;refine Uc [.t (decide_eq_true (by simp; omega)),.x (Sp hz),.g 82 true (decide_eq_true h1),.f (decide_eq_false (by simp [h2]))] rfl ?_;exact rd (k+1) (by omega) hlk (by rw [hflt]; rfl)
    ·rw [if_pos (show VZ (x,y) z=true by simp [VZ,h1,h2])] at hflt;have hm:∀ q∈[Db (D4 (Fp a) x y z)],q.length=7:=λq hq=>by rw [Qk.1 hq]; rfl
     refine go tt [.t (decide_eq_true (by simp; omega)),.x (Sp hz),.g 82 true (decide_eq_true h1),.t (decide_eq_true h2),.k (cE sx sy sz ha),.s (sz:=7) hm] rfl (by simp [Uz,Pa]; omega) ?_;have e3:U6 (F++(G++[D4 (Fp a) x y z]))=U6 (F++G)++[Db (D4 (Fp a) x y z)]:=by simp [U6]
     exact rd (k+1) (by omega) hlk (by rw [hflt,e3]; rfl)
  ·obtain rfl:k=l.length:=by omega
   rw [Q5,<-hnext];refine Uc [.f (decide_eq_false (by simp))] rfl ?_;exact rd (i+1) (by omega) hlt rfl
 ·obtain rfl:i=C.length:=by omega
  rw [Qn (by rw [wP]; exact Ql _)];exact Uf [2] [0] [.f (decide_eq_false (by simp))] rfl
theorem ozM {P:Program} [Mo P] {n:Nat} {Q:Exit->Sg->Ur->Prop} {L L':Sg} {B B':Ur} (d off T sz:Nat) {it:List It} (hs:Rf it=true) (h:nW (P:=P) d L B [.oc d off T sz]=some (L',B',[],[])) (k:AK P n Q it L' B'):AK P n Q it L B:=AK.sub (LU h EqOk.nil) hs k
theorem zE {k:Crv} (hk:Sc k):Uh 279 [.agg (cl k)] [.one (.row (JQ (QO k)))]:=by
 have ok:=FX hk.n hk.c;have l1:=S0 k.x k.x;have l2:=S0 k.y k.y;have:=hk.c.lx;have:=hk.c.ly;have bx:Bd 258 (Gk k.x k.x):=Md (u:=2) hk.c.x hk.c.x (by omega);have by_:Bd 258 (Gk k.y k.y):=Md (u:=2) hk.c.y hk.c.y (by omega);have c1:=Mz (p:=k.x) (c:=k.d) (by omega) (U0 hk.c.x (by decide)) (Qc hk.c.d (by decide));have c2:=Mz (p:=k.y) (c:=k.d) (by omega) (U0 hk.c.y (by decide)) (Qc hk.c.d (by decide));have c3:=GE (p:=k.x) (q:=k.x) hk.n.1 hk.n.1 (by omega) (by omega) hk.c.x hk.c.x (by decide);have c4:=GE (p:=k.y) (q:=k.y) hk.n.2.1 hk.n.2.1 (by omega) (by omega) hk.c.y hk.c.y (by decide);have c5:=zM (p:=Gk k.x k.x) (q:=Gk k.y k.y) (by omega) (by omega) (U0 bx (by decide)) (U0 by_ (by decide));have c6:=Nq (U3 k.d) (U3 k.d) (Qc hk.c.d (by decide)) (Qc hk.c.d (by decide));have hl:∀ p∈QO k,p.length≤1000000:=λp hp=>by
  obtain ⟨j,hj⟩:=Xt hp;have h1:=ok.2 j p hj;have:[2,2,4,0].getD j 0<=4:=by
   match j with
   | 0=>decide
   | 1=>decide
   | 2=>decide
   | 3=>decide
   | j+4=>simp
  omega
 have cd:=Qdm (r:=QO k) (λp hp=>(ok.1 p hp).1) (λp hp=>U0 (ok.1 p hp).2 (by decide)) hl (by show 4<=1000; decide);exact Ue func279 rfl [.k (Di hk.n (hk.c.mono (by decide) (by decide))),.k c1,.k c2,.k c3,.k c4,.k c5,.k c6,.k cd] rfl
theorem Qdu {a b c d:Crv} (ha:Sc a) (hb:Sc b) (hc:Sc c) (hd:Sc d):Uh 238 [.agg (cl a),.agg (cl b),.agg (cl c),.agg (cl d)] [pr (VR a b c d)]:=by
 have cd:=Qqh (by decide) (k:=4) (ds:=[2,2,4,0]) (by decide) rfl (by decide) (rT ha.n hb.n hc.n hd.n ha.c hb.c hc.c hd.c);exact Ue func238 rfl [.k (zE ha),.k (zE hb),.k (zE hc),.k (zE hd),.k cd] rfl
set_option maxHeartbeats 1000000 in
theorem Qly {a b c d:Pt} {t:Tm} (ha:Sc a.c) (hb:Sc b.c) (hc:Sc c.c) (hd:Sc d.c) (ht:Va t):Uh 255 [.oi 4,.agg (ta t),.one (.row [Fa a,Fa b,Fa c,Fa d])] [.agg (Db (OS (Fp t) a b c d)),.oi 0]:=by
 have hp:=(dI ha hb hc hd).dp;have e:Db (OS (Fp t) a b c d)=[.int .i64 4,.int .i64 a.id,.int .i64 b.id,.int .i64 c.id,.int .i64 d.id,pl (VR a.c b.c c.c d.c),.int .i64 (Hg (Fp t) (VR a.c b.c c.c d.c))]:=by rw [OS]
 rw [e];have cg:=TN hp ht;have cf:=Qdu ha hb hc hd;generalize VR a.c b.c c.c d.c=F at *;refine Fw func255 rfl ?_;refine Ub [.k Qao,.f rfl] rfl ?_;refine Ug (S:=Nat) 3 (λL1 i=>(22,.v (.oi i))::L1) (λi=>[.blk 105 (ta t),.blk 99 zCt,.blk 99 [.int .i64 4,.int .i64 (if 1<=i then a.id else 0),.int .i64 (if 2<=i then b.id else 0),.int .i64 (if 3<=i then c.id else 0),.int .i64 (if 4<=i then d.id else 0),.nils,.int .i64 0]]) (λi=>4-i) (λi=>i<=4) 0 (Qh _) rfl rfl λi hi=>?_
 rcases (show i=0\/i=1\/i=2\/i=3\/i=4 by omega) with rfl | rfl | rfl | rfl | rfl
 ·refine Ub [.t rfl,.x (i:=0) (xs:=Fa a) rfl,.i 0] rfl ?_ (by simp [Uz]);exact rd 1 (by omega) (by omega) rfl
 ·refine Ub [.t rfl,.x (i:=1) (xs:=Fa b) rfl,.i 1] rfl ?_ (by simp [Uz]);exact rd 2 (by omega) (by omega) rfl
 ·refine Ub [.t rfl,.x (i:=2) (xs:=Fa c) rfl,.i 2] rfl ?_ (by simp [Uz]);exact rd 3 (by omega) (by omega) rfl
 ·refine Ub [.t rfl,.x (i:=3) (xs:=Fa d) rfl,.i 3] rfl ?_ (by simp [Uz]);exact rd 4 (by omega) (by omega) rfl
 ·exact Ud [.f rfl,.f rfl,.f rfl,.f rfl,.t rfl,.x (i:=0) (xs:=Fa a) rfl,.x (i:=1) (xs:=Fa b) rfl,.x (i:=2) (xs:=Fa c) rfl,.x (i:=3) (xs:=Fa d) rfl,.k cf,.k cg] rfl
def wL (T:Np) (s:Int) (n:Uk) (F:Np) (k:Nat):Np:=(List.range k).foldl (I2 T s n) F
theorem pM (T:Np) (s:Int) (n:Uk) (F:Np) (k:Nat):wL T s n F (k+1)=I2 T s n (wL T s n F k) k:=by unfold wL; rw [List.range_succ,List.foldl_append]; rfl
theorem pP (T:Np) (s:Int) (n:Uk) (F:Np):wL T s n F 4=IR T s n F:=rfl
set_option maxHeartbeats 4000000 in
theorem Qsu {F T:Np} {s n0 n1 n2 n3:Int} (hT:vG T) (hs:-1<=s/\s<=1):U5 prog 261 [.one (.omap 0),.one (.omap 1),.oi s,.agg [.int .i64 n0,.int .i64 n1,.int .i64 n2,.int .i64 n3]] [.mpb F,.mpb T] [] [.mpb (IR T s [n0,n1,n2,n3] F),.mpb T]:=by
 have hm:Qk0 T:=λk=>(hT k).1
 have hb:=λ(k:Uk) (x:Int) (hx:-1<=x/\x<=1)=>Qbp (hT k).2 hx
 rw [<-pP];obtain ⟨f,hf⟩:=nmE (wL T s [n0,n1,n2,n3] F);have f0:F=f 0:=by rw [hf]; rfl
 have fs:∀ k,f (k+1)=I2 T s [n0,n1,n2,n3] (f k) k:=λk=>by rw [hf]; exact pM ..
 rw [<-hf];rw [f0];clear hf f0;refine Fw func261 rfl ?_;refine Ub [] rfl ?_;refine Ug (S:=Nat) 3 (λL1 k=>(14,.v (.oi k))::L1) (λk=>[.mpb (f k),.mpb T,.blk 95 [.int .i64 n0,.int .i64 n1,.int .i64 n2,.int .i64 n3]]) (λk=>4-k) (λk=>k<=4) 0 (by decide) rfl rfl λk hk=>?_
 rcases (show k=0\/k=1\/k=2\/k=3\/k=4 by omega) with rfl | rfl | rfl | rfl | rfl
 ·have e1:=fs 0;have e2:I2 T s [n0,n1,n2,n3] (f 0) 0=if ZV T [n1,n2,n3]*(-s)>0 then Lq (f 0) [n1,n2,n3] (.bool true) else f 0:=rfl
  rw [e2] at e1;refine Ub [.t rfl] rfl ?_;refine Ug (S:=Nat) 4 (λL1 i=>(18,.v (.oi i))::(10,.v (.oi (if i<=0 then (i:Int) else (i:Int)-1)))::L1) (λi=>[.mpb (f 0),.mpb T,.blk 95 [.int .i64 n0,.int .i64 n1,.int .i64 n2,.int .i64 n3],.blk 84 [.int .i64 (if 2<=i then n1 else 0),.int .i64 (if 3<=i then n2 else 0),.int .i64 (if 4<=i then n3 else 0)]]) (λi=>4-i) (λi=>i<=4) 0 (by decide) rfl rfl λi hi=>?_
  rcases (show i=0\/i=1\/i=2\/i=3\/i=4 by omega) with rfl | rfl | rfl | rfl | rfl
  ·refine Ub [.t rfl,.i 0,.f rfl] rfl ?_ (by simp [Uz]);exact rd 1 (by omega) (by omega) rfl
  ·refine Ub [.t rfl,.i 1,.t rfl,.i 0] rfl ?_ (by simp [Uz]);exact rd 2 (by omega) (by omega) rfl
  ·refine Ub [.t rfl,.i 2,.t rfl,.i 1] rfl ?_ (by simp [Uz]);exact rd 3 (by omega) (by omega) rfl
  ·refine Ub [.t rfl,.i 3,.t rfl,.i 2] rfl ?_ (by simp [Uz]);exact rd 4 (by omega) (by omega) rfl
  ·have hbb:=hb [n1,n2,n3] (-s) (by omega);by_cases hc:ZV T [n1,n2,n3]*(-s)>0
   ·rw [if_pos hc] at e1;refine go tt [.f rfl,.t rfl,.t (decide_eq_true hc)] rfl (by simp only [Uz]; first | exact ⟨⟨by omega,by omega⟩,hbb,hm,⟨by omega,by omega⟩,by decide,by omega,by omega⟩ | exact ⟨⟨by omega,by omega⟩,hbb,hm,by decide,by omega,by omega⟩) ?_;exact rd 1 (by omega) (by omega) (by rw [e1]; rfl)
   ·rw [if_neg hc] at e1;refine go tt [.f rfl,.t rfl,.f (decide_eq_false hc)] rfl (by simp only [Uz]; first | exact ⟨⟨by omega,by omega⟩,hbb,hm,⟨by omega,by omega⟩,by decide,by omega,by omega⟩ | exact ⟨⟨by omega,by omega⟩,hbb,hm,by decide,by omega,by omega⟩) ?_;exact rd 1 (by omega) (by omega) (by rw [e1]; rfl)
 ·have e1:=fs 1;have e2:I2 T s [n0,n1,n2,n3] (f 1) 1=if ZV T [n0,n2,n3]*s>0 then Lq (f 1) [n0,n2,n3] (.bool true) else f 1:=rfl
  rw [e2] at e1;refine Ub [.t rfl] rfl ?_;refine Ug (S:=Nat) 4 (λL1 i=>(18,.v (.oi i))::(10,.v (.oi (if i<=1 then (i:Int) else (i:Int)-1)))::L1) (λi=>[.mpb (f 1),.mpb T,.blk 95 [.int .i64 n0,.int .i64 n1,.int .i64 n2,.int .i64 n3],.blk 84 [.int .i64 (if 1<=i then n0 else 0),.int .i64 (if 3<=i then n2 else 0),.int .i64 (if 4<=i then n3 else 0)]]) (λi=>4-i) (λi=>i<=4) 0 (by decide) rfl rfl λi hi=>?_
  rcases (show i=0\/i=1\/i=2\/i=3\/i=4 by omega) with rfl | rfl | rfl | rfl | rfl
  ·refine Ub [.t rfl,.i 0,.t rfl,.i 0] rfl ?_ (by simp [Uz]);exact rd 1 (by omega) (by omega) rfl
  ·refine Ub [.t rfl,.i 1,.f rfl] rfl ?_ (by simp [Uz]);exact rd 2 (by omega) (by omega) rfl
  ·refine Ub [.t rfl,.i 2,.t rfl,.i 1] rfl ?_ (by simp [Uz]);exact rd 3 (by omega) (by omega) rfl
  ·refine Ub [.t rfl,.i 3,.t rfl,.i 2] rfl ?_ (by simp [Uz]);exact rd 4 (by omega) (by omega) rfl
  ·have hbb:=hb [n0,n2,n3] s (by omega);by_cases hc:ZV T [n0,n2,n3]*s>0
   ·rw [if_pos hc] at e1;refine go tt [.f rfl,.f rfl,.t (decide_eq_true hc)] rfl (by simp only [Uz]; first | exact ⟨⟨by omega,by omega⟩,hbb,hm,⟨by omega,by omega⟩,by decide,by omega,by omega⟩ | exact ⟨⟨by omega,by omega⟩,hbb,hm,by decide,by omega,by omega⟩) ?_;exact rd 2 (by omega) (by omega) (by rw [e1]; rfl)
   ·rw [if_neg hc] at e1;refine go tt [.f rfl,.f rfl,.f (decide_eq_false hc)] rfl (by simp only [Uz]; first | exact ⟨⟨by omega,by omega⟩,hbb,hm,⟨by omega,by omega⟩,by decide,by omega,by omega⟩ | exact ⟨⟨by omega,by omega⟩,hbb,hm,by decide,by omega,by omega⟩) ?_;exact rd 2 (by omega) (by omega) (by rw [e1]; rfl)
 ·have e1:=fs 2;have e2:I2 T s [n0,n1,n2,n3] (f 2) 2=if ZV T [n0,n1,n3]*(-s)>0 then Lq (f 2) [n0,n1,n3] (.bool true) else f 2:=rfl
  rw [e2] at e1;refine Ub [.t rfl] rfl ?_;refine Ug (S:=Nat) 4 (λL1 i=>(18,.v (.oi i))::(10,.v (.oi (if i<=2 then (i:Int) else (i:Int)-1)))::L1) (λi=>[.mpb (f 2),.mpb T,.blk 95 [.int .i64 n0,.int .i64 n1,.int .i64 n2,.int .i64 n3],.blk 84 [.int .i64 (if 1<=i then n0 else 0),.int .i64 (if 2<=i then n1 else 0),.int .i64 (if 4<=i then n3 else 0)]]) (λi=>4-i) (λi=>i<=4) 0 (by decide) rfl rfl λi hi=>?_
  rcases (show i=0\/i=1\/i=2\/i=3\/i=4 by omega) with rfl | rfl | rfl | rfl | rfl
  ·refine Ub [.t rfl,.i 0,.t rfl,.i 0] rfl ?_ (by simp [Uz]);exact rd 1 (by omega) (by omega) rfl
  ·refine Ub [.t rfl,.i 1,.t rfl,.i 1] rfl ?_ (by simp [Uz]);exact rd 2 (by omega) (by omega) rfl
  ·refine Ub [.t rfl,.i 2,.f rfl] rfl ?_ (by simp [Uz]);exact rd 3 (by omega) (by omega) rfl
  ·refine Ub [.t rfl,.i 3,.t rfl,.i 2] rfl ?_ (by simp [Uz]);exact rd 4 (by omega) (by omega) rfl
  ·have hbb:=hb [n0,n1,n3] (-s) (by omega);by_cases hc:ZV T [n0,n1,n3]*(-s)>0
   ·rw [if_pos hc] at e1;refine go tt [.f rfl,.t rfl,.t (decide_eq_true hc)] rfl (by simp only [Uz]; first | exact ⟨⟨by omega,by omega⟩,hbb,hm,⟨by omega,by omega⟩,by decide,by omega,by omega⟩ | exact ⟨⟨by omega,by omega⟩,hbb,hm,by decide,by omega,by omega⟩) ?_;exact rd 3 (by omega) (by omega) (by rw [e1]; rfl)
   ·rw [if_neg hc] at e1;refine go tt [.f rfl,.t rfl,.f (decide_eq_false hc)] rfl (by simp only [Uz]; first | exact ⟨⟨by omega,by omega⟩,hbb,hm,⟨by omega,by omega⟩,by decide,by omega,by omega⟩ | exact ⟨⟨by omega,by omega⟩,hbb,hm,by decide,by omega,by omega⟩) ?_;exact rd 3 (by omega) (by omega) (by rw [e1]; rfl)
 ·have e1:=fs 3;have e2:I2 T s [n0,n1,n2,n3] (f 3) 3=if ZV T [n0,n1,n2]*s>0 then Lq (f 3) [n0,n1,n2] (.bool true) else f 3:=rfl
  rw [e2] at e1;refine Ub [.t rfl] rfl ?_;refine Ug (S:=Nat) 4 (λL1 i=>(18,.v (.oi i))::(10,.v (.oi (if i<=3 then (i:Int) else (i:Int)-1)))::L1) (λi=>[.mpb (f 3),.mpb T,.blk 95 [.int .i64 n0,.int .i64 n1,.int .i64 n2,.int .i64 n3],.blk 84 [.int .i64 (if 1<=i then n0 else 0),.int .i64 (if 2<=i then n1 else 0),.int .i64 (if 3<=i then n2 else 0)]]) (λi=>4-i) (λi=>i<=4) 0 (by decide) rfl rfl λi hi=>?_
  rcases (show i=0\/i=1\/i=2\/i=3\/i=4 by omega) with rfl | rfl | rfl | rfl | rfl
  ·refine Ub [.t rfl,.i 0,.t rfl,.i 0] rfl ?_ (by simp [Uz]);exact rd 1 (by omega) (by omega) rfl
  ·refine Ub [.t rfl,.i 1,.t rfl,.i 1] rfl ?_ (by simp [Uz]);exact rd 2 (by omega) (by omega) rfl
  ·refine Ub [.t rfl,.i 2,.t rfl,.i 2] rfl ?_ (by simp [Uz]);exact rd 3 (by omega) (by omega) rfl
  ·refine Ub [.t rfl,.i 3,.f rfl] rfl ?_ (by simp [Uz]);exact rd 4 (by omega) (by omega) rfl
  ·have hbb:=hb [n0,n1,n2] s (by omega);by_cases hc:ZV T [n0,n1,n2]*s>0
   ·rw [if_pos hc] at e1;refine go tt [.f rfl,.f rfl,.t (decide_eq_true hc)] rfl (by simp only [Uz]; first | exact ⟨⟨by omega,by omega⟩,hbb,hm,⟨by omega,by omega⟩,by decide,by omega,by omega⟩ | exact ⟨⟨by omega,by omega⟩,hbb,hm,by decide,by omega,by omega⟩) ?_;exact rd 4 (by omega) (by omega) (by rw [e1]; rfl)
   ·rw [if_neg hc] at e1;refine go tt [.f rfl,.f rfl,.f (decide_eq_false hc)] rfl (by simp only [Uz]; first | exact ⟨⟨by omega,by omega⟩,hbb,hm,⟨by omega,by omega⟩,by decide,by omega,by omega⟩ | exact ⟨⟨by omega,by omega⟩,hbb,hm,by decide,by omega,by omega⟩) ?_;exact rd 4 (by omega) (by omega) (by rw [e1]; rfl)
 ·exact Uf [] [0,1] [.f rfl] rfl
end Orr
