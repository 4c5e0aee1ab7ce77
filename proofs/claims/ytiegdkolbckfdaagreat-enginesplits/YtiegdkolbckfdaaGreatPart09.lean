/- TW1 TW2 R3 R4 RefPL R5 R6 RefGL R7 RatOkL R8 R9 RefCL R10 R11 R12 R13 R14 R15 R16 R17 R18 SC1 W1 W2 WR18 WS18 X19 MeshK H2 H3 MD1 MD2 -/
import Derived.Test.YtiegdkolbckfdaaGreatPart08
import Derived.Test.YtiegdkolbckfdaaGreatPart00
import Derived.Test.YtiegdkolbckfdaaGreatPart07
import Derived.Test.YtiegdkolbckfdaaGreatPart04
import Derived.Test.YtiegdkolbckfdaaGreatPart05
set_option linter.all false
namespace Orr
open Go Go.Proofs Tryz Orq
set_option maxRecDepth 10000
def I4 (l:List (Pt×Pt)):Up:=l.map Qbq
theorem Qm8 {l m:Up} (h:l=m):TV.one (LV.row l)=.one (.row m):=h ▸ rfl
theorem oz {P:Program} [Mo P] {n:Nat} {Q:Exit->Sg->Uq->Prop} {L L':Sg} {B B':Uq} (d off T sz:Nat) {it:List It} (hs:Rf it=true) (h:nG (P:=P) d L B [.oc d off T sz]=some (L',B',[],[])) (k:AK P n Q it L' B'):AK P n Q it L B:=AK.sub (LM h EqOk.nil) hs k
theorem Qlw {a b:Pt} {t:Tm} (ha:Sc a.c) (hb:Sc b.c) (ht:Va t):Ug 163 [.oi 2,.agg (ta t),.one (.row [Fa a,Fa b])] [.agg (Da (Dm (Fq t) a b)),.oi 0]:=by
 have h1:=Mz hb ha;have h2:=M3 hb ha;refine Fw func163 rfl ?_;refine Ua [.k Qal,.f rfl] rfl ?_;refine Uf (S:=Nat) 3 (λL1 i=>(22,.v (.oi i))::L1) (λi=>[.blk 177 (ta t),.blk 120 zCt,.blk 120 [.int .i64 2,.int .i64 (if 1<=i then a.id else 0),.int .i64 (if 2<=i then b.id else 0),.int .i64 0,.int .i64 0,.nils,.int .i64 0]]) (λi=>2-i) (λi=>i<=2) 0 (Qh _) rfl rfl λi hi=>?_
 rcases (show i=0\/i=1\/i=2 by omega) with rfl | rfl | rfl
 ·refine Ua [.t rfl,.x (i:=0) (xs:=Fa a) rfl,.i 0] rfl ?_ (by simp [Uz]);exact rd 1 (by omega) (by omega) rfl
 ·refine Ua [.t rfl,.x (i:=1) (xs:=Fa b) rfl,.i 1] rfl ?_ (by simp [Uz]);exact rd 2 (by omega) (by omega) rfl
 ·exact Uc [.f rfl,.f rfl,.t rfl,.x (i:=1) (xs:=Fa b) rfl,.x (i:=0) (xs:=Fa a) rfl,.k (WM hb.n ha.n hb.cb ha.cb),.x (i:=1) (xs:=Fa b) rfl,.x (i:=0) (xs:=Fa a) rfl,.k (WC hb.n ha.n hb.cb ha.cb),.k kW,.k (TM (YX h1 h2).dp ht)] rfl
theorem Qeb {a:Tm} (ha:Va a) {c:Cr} {r0 r1:Up}:∀ (k:Nat) (l:List Pt) (ms:List (Pt×Pt)),l.length≤k->l.length≤1000->ms.length+l.length≤1000000->(∀ p∈l,Sc p.c)->U5 prog 162 [.one (.ow 0 0),.agg (ta a),.one (pts l)] [.blk 187 [.bool true,pl c.now.p,sg c.now.lo.num,mg c.now.lo.num,sg (c.now.lo.den:Int),mg (c.now.lo.den:Int),sg c.now.hi.num,mg c.now.hi.num,sg (c.now.hi.den:Int),mg (c.now.hi.den:Int),.row (Bu c.l),.int .i64 c.ev,.row r0,.row r1,.orow 1 10 none],.row false 256 10 (I4 ms)] [.one (.row (Uy (Nx (Fq a) l).1))] [.blk 187 [.bool true,pl c.now.p,sg c.now.lo.num,mg c.now.lo.num,sg (c.now.lo.den:Int),mg (c.now.lo.den:Int),sg c.now.hi.num,mg c.now.hi.num,sg (c.now.hi.den:Int),mg (c.now.hi.den:Int),.row (Bu c.l),.int .i64 c.ev,.row r0,.row r1,.orow 1 10 none],.row false 256 10 (I4 (ms++(Nx (Fq a) l).2))]
 := by
  intro k
  induction k with
  | zero=>?_
  | succ k ih=>?_
  all_goals
   intro l ms hk hn hms hl;have hcl:=Gz l;show U5 prog 162 [.one (.ow 0 0),.agg (ta a),.one (.row (Uy l))] _ _ _;by_cases hs:l.length<2
   ·rw [Cf _ hs,Zw];refine Fw func162 rfl ?_;exact Ue [] [0,1] [.t (by simp [hcl]; omega)] rfl
   first
    | (exfalso; omega)
    |
     skip
     obtain ⟨k1,k2,k3,k4⟩:=Qgr hs hk;obtain ⟨h,hh⟩:=nmE ((l.length+1) / 2);obtain ⟨u,hu,hul,_⟩:=Nb (Fq a) k (l.take ((l.length+1) / 2)) k1 k3;obtain ⟨v,hv,hvl,_⟩:=Nb (Fq a) k (l.drop ((l.length+1) / 2)) k2 k4;have g1:=Dc (Fq a) _ (l.take ((l.length+1) / 2)) (Ql _);have g2:=Dc (Fq a) _ (l.drop ((l.length+1) / 2)) (Ql _);have hlt:(l.take ((l.length+1) / 2)).length+(l.drop ((l.length+1) / 2)).length=l.length:=by rw [Qt,Zl]; omega
     have c1:=ih (l.take ((l.length+1) / 2)) ms k1 (by omega) (by omega) λp hp=>hl p (Qo hp)
     have c2:=ih (l.drop ((l.length+1) / 2)) (ms++(Nx (Fq a) (l.take ((l.length+1) / 2))).2) k2 (by omega) (by rw [Qy]; omega) λp hp=>hl p (Q3 hp)
     have hpl:=Oh (Fq a) hs hu hv;rw [hpl];rw [hu] at c1;rw [hv] at c2;generalize (Nx (Fq a) (l.take ((l.length+1) / 2))).2=G1 at *;generalize (Nx (Fq a) (l.drop ((l.length+1) / 2))).2=G2 at *;have hsu:=hl u (Qo hul);have hsv:=hl v (Q3 hvl);have cb:=Qli (t:=a) hsu hsv ha;have htd:((l.length:Int)+1).tdiv 2=(((l.length+1) / 2:Nat):Int):=rfl;have hg:∀ m,I4 (ms++(G1++G2++[m]))=I4 ((ms++G1)++G2)++[Qbq m]:=λm=>by simp [I4]
     have hml:(I4 ((ms++G1)++G2)).length=ms.length+G1.length+G2.length:=by simp [I4]; omega
     have hml2:(I4 (ms++(G1++G2))).length=ms.length+G1.length+G2.length:=by simp [I4]; omega
     have h5:=eq_true (p:=∀ z,z∈Uy l->z.length=ti40.sz) (YS l);have e1:(Uy l).take ((l.length+1) / 2)=Uy (l.take ((l.length+1) / 2)):=by simp [Uy,Js]
     have e2:(Uy l).drop ((l.length+1) / 2)=Uy (l.drop ((l.length+1) / 2)):=by simp [Uy,Vg]
     unfold PQ;refine Fw func162 rfl ?_;by_cases hb:By (Fq a) u v=true
     ·rw [if_pos hb,hg];exact Ue [] [0,1] [.f (by simp [hcl]; omega),.r 17 (eI (b:=(((l.length+1) / 2:Nat):Int)) (by rw [hcl]; rfl)),.i ((l.length+1) / 2),.r 22 (Qm8 e1),.c [0,1] c1,.i ((l.length+1) / 2),.r 28 (Qm8 e2),.c [0,1] c2,.x (i:=0) (l:=Uy [u]) (xs:=Fa u) rfl,.x (i:=0) (l:=Uy [v]) (xs:=Fa v) rfl,.k cb,.f (by rw [hb]; rfl),.x (i:=0) (l:=Uy [u]) (xs:=Fa u) rfl,.x (i:=0) (l:=Uy [v]) (xs:=Fa v) rfl,.s (sz:=10) (l:=[Qbq (u,v)]) (λc hc=>by rw [Qk.1 hc]; rfl),.i 1] rfl (by simp [Uz,Gz,hml2,h5]; omega)
     ·have hb:By (Fq a) u v=false:=by simpa using hb
      rw [if_neg (by simp [hb]),hg];exact Ue [] [0,1] [.f (by simp [hcl]; omega),.r 17 (eI (b:=(((l.length+1) / 2:Nat):Int)) (by rw [hcl]; rfl)),.i ((l.length+1) / 2),.r 22 (Qm8 e1),.c [0,1] c1,.i ((l.length+1) / 2),.r 28 (Qm8 e2),.c [0,1] c2,.x (i:=0) (l:=Uy [u]) (xs:=Fa u) rfl,.x (i:=0) (l:=Uy [v]) (xs:=Fa v) rfl,.k cb,.t (by rw [hb]; rfl),.x (i:=0) (l:=Uy [v]) (xs:=Fa v) rfl,.x (i:=0) (l:=Uy [u]) (xs:=Fa u) rfl,.s (sz:=10) (l:=[Qbq (v,u)]) (λc hc=>by rw [Qk.1 hc]; rfl),.i 1] rfl (by simp [Uz,Gz,hml2,h5]; omega)
theorem AB {l:List Pt} {a:Tm} {c:Cr} {r1:Up×Up} (hl:∀ p∈l,Sc p.c) (hn:l.length≤1000) (ha:Va a):U5 prog 129 [.one (.ow 0 0),.agg (ta a)] [.blk 187 (Tl c (Uy l) r1)] [.one (.row (U6 (PT l a)))] [.blk 187 (Tl c (Uy l) (brT l a))]:=by
 have cp:=Qeb (r0:=Uy l) (c:=c) (r1:=r1.1) ha l.length l [] (Ql _) hn (by show 0+l.length≤1000000; omega) hl;have hms:=Dc (Fq a) l.length l (Ql _);unfold PT brT;obtain ⟨M,hM⟩:=nmE ((Nx (Fq a) l).2);have hmm:∀ m∈M,Sc m.1.c/\Sc m.2.c:=λm hm=>by
  rw [hM] at hm;exact ⟨hl _ (XE m hm).1,hl _ (XE m hm).2⟩
 rw [<-hM] at cp hms ⊢;rw [Ye] at cp;have hgl:(I4 M).length=M.length:=by simp [I4]
 refine Fw func129 rfl ?_;refine Ua [] rfl ?_;refine oz 0 14 256 10 rfl rfl ?_;refine Ua [.k If,.c [0,2] cp,.o 5 120 7] rfl ?_;refine Uf (S:=Nat) 4 (λL1 i=>(29,.v (.oi i))::(5,.v (.one (.orow 3 7 none)))::L1) (λi=>[.blk 187 [.bool true,pl c.now.p,sg c.now.lo.num,mg c.now.lo.num,sg (c.now.lo.den:Int),mg (c.now.lo.den:Int),sg c.now.hi.num,mg c.now.hi.num,sg (c.now.hi.den:Int),mg (c.now.hi.den:Int),.row (Bu c.l),.int .i64 c.ev,.row (Uy l),.row (Uy (Nx (Fq a) l).1),.orow 2 10 none],.blk 177 (ta a),.row false 256 10 (I4 M),.row false 120 7 (U6 ((M.map λm=>Dm (Fq a) m.1 m.2).take i))]) (λi=>M.length-i) (λi=>i<=M.length) 0 (Qh _) rfl rfl λi hi=>?_
 by_cases hlt:i<M.length
 ·obtain ⟨m,hm⟩:=gxE (l:=M) (i:=i) hlt;obtain ⟨s1,s2⟩:=hmm m (Qa hm);have hg:(I4 M)[i]? = some (Qbq m):=Gt hm;have hq:∀ y∈[Da (Dm (Fq a) m.1 m.2)],y.length=7:=λy hy=>by rw [Qk.1 hy]; rfl
  have ht:(M.map λm=>Dm (Fq a) m.1 m.2).take (i+1)=(M.map λm=>Dm (Fq a) m.1 m.2).take i++[Dm (Fq a) m.1 m.2]:=by
   rw [Zv,Q6,hm]; rfl
  refine go tt [.T,.i i,.x hg,.i 0,.i 1,.k (Qlw s1 s2 ha),.s (sz:=7) hq] rfl (by simp [Uz,hgl,Pa]; omega) ?_;exact rd (i+1) (by omega) hlt (by rw [ht]; simp [U6]; rfl)
 ·obtain rfl:i=M.length:=by omega
  rw [Qn (by simp)];exact Ue [2,3] [0] [.F] rfl
def Qwa (l:List Pt) (a:Tm):Cr:=⟨a,(Fp (PT l a)).map fresh,0⟩
theorem Qme {t:Rat} {l:List Pt} {K:Nat} {c c':Cr} {r1 r1':Up×Up} {n:Int} (ht:Qs 1640000 t) (hl:∀ p∈l,Sc p.c) (hn:l.length≤1000) (hc:CrOk c) (hev:0≤c.ev/\c.ev+K≤1000000000000000000) (h:Fj c.now t≤0) (hg:KU (PT l) (brT l) t K c r1 0=some (c',r1',n)) :
 U5 prog 387 [.one (.ow 0 0),.agg (rl t)] [.blk 187 (Tl c (Uy l) r1)] [.oi n,.oi 0] [.blk 187 (Tl c' (Uy l) r1')]:=by
 have cg:=Qwn (T:=187) (r0:=Uy l) ht (sJ hl hn) (λa c r1 ha _=>AB (c:=c) (r1:=r1) hl hn ha) hc hev h hg;refine Fw func387 rfl ?_;exact Ue [] [0] [.k (Nk (ht.mono (by decide))),.c [0] cg] rfl
theorem Qmg {c:Cr} {r0 r2:Up} {w:Pt}:U5 prog 68 [.one (.ow 0 0)] [.blk 187 (Tl c r0 ([Fa w],r2))] [.oi w.id,.one (.bool true)] [.blk 187 (Tl c r0 ([Fa w],r2))]:=by
 refine Fw func68 rfl ?_;exact Ue [] [0] [.f rfl,.x (i:=0) (xs:=Fa w) rfl] rfl
theorem Qed {c:Cr} {r0 r2:Up}:U5 prog 68 [.one (.ow 0 0)] [.blk 187 (Tl c r0 ([],r2))] [.oi 0,.one (.bool false)] [.blk 187 (Tl c r0 ([],r2))]:=by
 refine Fw func68 rfl ?_;exact Ue [] [0] [.t rfl] rfl
end Orr
namespace Orr
open Go Go.Proofs Tryz
set_option maxRecDepth 10000
theorem UX (x:Nat):(Bt (Ge x)).length=(Ge x).length:=Tp _
theorem Qbr (z:Int):∀ c∈[[LV.int .i64 z]],c.length=1:=λc hc=>by rw [Qk.1 hc]; rfl
theorem Qwy {x:Nat} (h:x<=1000000000):(Ge x).length<=3:=Qay (by omega)
theorem tdn (n:Nat):((n:Nat):Int).tdiv 10000=((n / 10000:Nat):Int):=rfl
theorem WJ (n:Nat):((n:Nat):Int).tdiv 2=((n / 2:Nat):Int):=rfl
theorem kF {x mu c0:Nat} (hx:sz x<=100000000) (hmu:mu<=65536) (hc:c0<=1000000000):Ug 116 [.one (nd x),.oi mu,.oi c0] [.one (nd (x*mu+c0))]:=by
 have hxl:=Qc (Mg x) hx;have hll:=UX x;show Ug 116 [.one (.row (Bt (Ge x))),.oi mu,.oi c0] _;refine Fw func116 rfl ?_;refine Ub [.r 11 (eI (b:=(((Ge x).length+2:Nat):Int)) (by rw [hll]; omega)),.i 0,.i ((Ge x).length+2)] rfl ?_;refine Uf (S:=Nat×Nat×Ul) 1 (λL1 s=>(8,.v (.oi (s.1:Int)))::(7,.v (.one (.orow 0 1 none)))::(2,.v (.oi (s.2.1:Int)))::L1.filter (λx=>x.1 != 12)) (λs=>[.row false 3 1 (Bt s.2.2)]) (λs=>((Ge x).length-s.1)*4+(Ge s.2.1).length) (λs=>Dg s.2.2/\s.2.2.length=s.1/\Rz s.2.2+s.2.1*10000^s.1=Rz ((Ge x).take s.1)*mu+c0/\(s.1<=(Ge x).length\/s.1+(Ge s.2.1).length<=(Ge x).length+3)/\s.2.1<=1000000000) (0,c0,[]) ⟨Dg.nil,rfl,by simp [Rz],.inl (Qh _),hc⟩ rfl rfl λs hs=>?_
 obtain ⟨i,c,o⟩:=s;obtain ⟨hp0,hp1,hp2,hp3,hp4⟩:=hs;dsimp only at hp0 hp1 hp2 hp3 hp4 ⊢;have hcl:=Qwy (x:=c) hp4;by_cases h1:i<(Ge x).length
 ·obtain ⟨d,hd⟩:=gxE (l:=(Ge x)) (i:=i) h1;have hd9:=B7 x d (Qa hd);have hdm:d*mu<=9999*65536:=Zi (by omega) hmu;have hc3:=Qwy (x:=(c+d*mu) / 10000) (by omega);have hol:(Bt o).length=i:=by rw [Tp,hp1]
  refine go tt [.g 17 true Ui,.t rfl,.T,.x (Gx hd),.r 33 (eI (b:=((d*mu:Nat):Int)) (by simp)),.r 34 (eI (b:=((c+d*mu:Nat):Int)) (by omega)),.r 37 (eI (b:=(((c+d*mu) % 10000:Nat):Int)) (by rfl)),.s (sz:=1) (Qbr _),.r 41 (eI (b:=(((c+d*mu) / 10000:Nat):Int)) (by rfl))] rfl (by simp [Uz,hol,tdn,WJ,-Int.natCast_add,-Int.natCast_mul]; omega) ?_;exact rd (i+1,(c+d*mu) / 10000,o++[(c+d*mu) % 10000]) (by dsimp only; omega) ⟨hp0.snoc (Nat.mod_lt _ (by decide)),by dsimp only; rw [List.length_append]; show o.length+1=_; omega,by
   dsimp only;rw [Pd,Tn hd,hp1,Nat.pow_succ]; simp only [Rz,Nat.mul_zero,Nat.add_zero]; have:=IY (d:=d) (m:=mu) rfl hp2; rw [this]; grind,.inl (by dsimp only; omega),by dsimp only; omega⟩ (by rw [A7]; rfl)
 ·by_cases h2:0<c
  ·have hdc:=A5 (x:=c) (by omega);have hol:(Bt o).length=i:=by rw [Tp,hp1]
   refine go tt [.g 17 false Uh,.T,.F,.r 37 (eI (b:=((c % 10000:Nat):Int)) (by rfl)),.s (sz:=1) (Qbr _),.r 41 (eI (b:=((c / 10000:Nat):Int)) (by rfl))] rfl (by simp [Uz,hol,tdn,WJ,-Int.natCast_add]; omega) ?_;exact rd (i+1,c / 10000,o++[c % 10000]) (by dsimp only; omega) ⟨hp0.snoc (Nat.mod_lt _ (by decide)),by dsimp only; rw [List.length_append]; show o.length+1=_; omega,by
    dsimp only;rw [Pd,hp1,Nat.pow_succ]; simp only [Rz,Nat.mul_zero,Nat.add_zero]; have:=IY (d:=0) (m:=mu) rfl hp2; simp only [Nat.zero_mul,Nat.mul_zero,Nat.add_zero] at this; rw [this,List.take_of_length_le (by omega),List.take_of_length_le (by omega)],.inr (by dsimp only; omega),by dsimp only; omega⟩ (by rw [A7]; rfl)
  ·have cc:=GO hp0;rw [show Rz o=x*mu+c0 from by
    have h:=hp2; rw [Qn (by omega),H8,show c=0 by omega] at h; omega] at cc
   exact Uc [.g 17 false Uh,.F,.k cc] rfl
theorem sT {x y:Nat} (hx:sz x<=200000000) (hy:sz y<=200000000):Ug 123 [.one (nd x),.one (nd y)] [.oi (ZV x y)]:=by
 have hxl:=Qc (Mg x) hx;have hyl:=Qc (Mg y) hy;have lx:=UX x;have ly:=UX y;show Ug 123 [.one (.row (Bt (Ge x))),.one (.row (Bt (Ge y)))] _;refine Fw func123 rfl ?_;by_cases hl:(Ge x).length=(Ge y).length
 ·refine Ub [.f (by simp; omega),.r 18 (eI (b:=((Ge x).length:Int)-1) (by rw [lx]))] rfl ?_;refine Uf (S:=Nat) 0 (λL1 j=>(5,.v (.oi ((j:Int)-1)))::L1) (λ_=>[]) (λj=>j) (λj=>j<=(Ge x).length/\(Ge x).drop j=(Ge y).drop j) (Ge x).length ⟨Ql _,by rw [Yq (Ql _),Yq (by omega)]⟩ rfl rfl λj hs=>?_
  obtain ⟨hj,hp⟩:=hs;cases j with
  |
   zero =>
   have hxy:x=y:=by rw [X2,X2] at hp; rw [<-H8 x,<-H8 y,hp]
   exact Uc [.f (by simp)] rfl (by rw [dD hxy]) trivial
  |
   succ j =>
   obtain ⟨d,hd⟩:=gxE (l:=(Ge x)) (i:=j) (by omega);obtain ⟨e,he⟩:=gxE (l:=(Ge y)) (i:=j) (by omega);have ej:((j+1:Nat):Int)-1=(j:Int):=by omega
   rw [ej];by_cases h2:d=e
   ·refine Ub [.T,.x (Gx hd),.x (Gx he),.f (by simp [h2])] rfl ?_;exact rd j (by omega) ⟨by omega,by rw [Zu (by omega:j<(Ge x).length),Zu (by omega:j<(Ge y).length),hp,(Qf.1 hd).2,(Qf.1 he).2,h2]⟩ rfl
   ·by_cases h3:d<e
    ·have hxy:=BD (B7 x) hd he hp h3;rw [H8,H8] at hxy;exact Uc [.T,.x (Gx hd),.x (Gx he),.t (by simp; omega),.x (Gx hd),.x (Gx he),.T] rfl (by rw [PI hxy]) trivial
    ·have hxy:=BD (B7 y) he hd hp.symm (by omega);rw [H8,H8] at hxy;exact Uc [.T,.x (Gx hd),.x (Gx he),.t (by simp; omega),.x (Gx hd),.x (Gx he),.F] rfl (by rw [PE hxy]) trivial
 ·by_cases hlt:(Ge x).length<(Ge y).length
  ·exact Uc [.t (by simp; omega),.T] rfl (by rw [PI (wW hlt)]) trivial
  ·exact Uc [.t (by simp; omega),.F] rfl (by rw [PE (wW (by omega))]) trivial
theorem YQ {o c s P V:Nat} (h:o+c*P=V):o+P*((c+s) % 10000)+(c+s) / 10000*(P*10000)=V+P*s:=by
 have e:=Xd (c+s) 10000;generalize (c+s) / 10000=q at *;generalize (c+s) % 10000=r at *;have e2:P*(c+s)=P*(10000*q+r):=by rw [e]
 grind
theorem Iy {l:Ul} {i:Nat} (h:l.length<=i):Rz (l.take (i+1))=Rz (l.take i):=by rw [Qn (by omega),Qn h]
theorem lV {l:Ul} {p v u:Nat} (h:l[p]? = some v):Rz (l.set p u)+10000^p*v=Rz l+10000^p*u:=by
 have hp:=(Qf.1 h).1;rw [MX (l.set p u) p (by rw [Jo]; omega),MX l p (by omega),ZL h,HV hp,List.take_set_of_le (Ql _)];simp only [Rz];generalize 10000^p=P;grind
theorem A8 {l:Ul} {p u:Nat} (h:p<l.length):Rz ((l.set p u).take (p+1))=Rz (l.take p)+10000^p*u:=by
 rw [Tn (l:=l.set p u) (i:=p) (x:=u) (by simp [h]),List.take_set_of_le (Ql _)]
structure AddI (x y:Nat) (s:Nat×Nat×List Nat):Prop where
 d:Dg s.2.2
 l:s.2.2.length=s.1
 v:Rz s.2.2+s.2.1*10000^s.1=Rz ((Ge x).take s.1)+Rz ((Ge y).take s.1)
 c:s.2.1<=1
 b:s.1<=max (Ge x).length (Ge y).length\/s.1=max (Ge x).length (Ge y).length+1/\10000^(max (Ge x).length (Ge y).length)<=x+y/\s.2.1=0
theorem Qr2 {x y:Nat} (hx:sz x<=200000000) (hy:sz y<=200000000):Ug 122 [.one (nd x),.one (nd y)] [.one (nd (x+y))]:=by
 have hxl:=Qc (Mg x) hx;have hyl:=Qc (Mg y) hy;have lx:=UX x;have ly:=UX y;show Ug 122 [.one (.row (Bt (Ge x))),.one (.row (Bt (Ge y)))] _;refine Fw func122 rfl ?_;refine Ua [.o 5 3 1] rfl ?_;refine Uf (S:=Nat×Nat×Ul) 1 (λL1 s=>(7,.v (.oi (s.1:Int)))::(6,.v (.oi (s.2.1:Int)))::(5,.v (.one (.orow 0 1 none)))::L1) (λs=>[.row false 3 1 (Bt s.2.2)]) (λs=>(max (Ge x).length (Ge y).length-s.1)*2+s.2.1) (AddI x y) (0,0,[]) ⟨Dg.nil,rfl,by simp [Rz],by decide,.inl (Qh _)⟩ rfl rfl λs hs=>?_
 obtain ⟨i,c,o⟩:=s;obtain ⟨hp0,hp1,hp2,hp3,hp4⟩:=hs;dsimp only at hp0 hp1 hp2 hp3 hp4 ⊢;have hol:(Bt o).length=i:=by rw [Tp,hp1]
 by_cases h1:i<(Ge x).length
 ·obtain ⟨d,hd⟩:=gxE (l:=(Ge x)) (i:=i) h1;have hd9:=B7 x d (Qa hd);by_cases h2:i<(Ge y).length
  ·obtain ⟨e,he⟩:=gxE (l:=(Ge y)) (i:=i) h2;have he9:=B7 y e (Qa he);refine go tt [.g 12 true Ui,.g 18 true rfl,.t rfl,.T,.x (Gx hd),.r 33 (eI (b:=((c+d:Nat):Int)) (by omega)),.T,.x (Gx he),.r 43 (eI (b:=((c+(d+e):Nat):Int)) (by omega)),.r 46 (eI (b:=(((c+(d+e)) % 10000:Nat):Int)) (by rfl)),.s (sz:=1) (Qbr _),.r 50 (eI (b:=(((c+(d+e)) / 10000:Nat):Int)) (by rfl))] rfl (by simp [Uz,hol,tdn,WJ,-Int.natCast_add]; omega) ?_;exact rd (i+1,(c+(d+e)) / 10000,o++[(c+(d+e)) % 10000]) (by dsimp only; omega) ⟨hp0.snoc (Nat.mod_lt _ (by decide)),by dsimp only; rw [List.length_append]; show o.length+1=_; omega,by
    dsimp only;rw [Pd,hp1,Nat.pow_succ]; simp only [Rz,Nat.mul_zero,Nat.add_zero]; have:=YQ (s:=d+e) hp2; rw [this,Tn hd,Tn he]; grind,by dsimp only; omega,.inl (by dsimp only; omega)⟩ (by rw [A7]; rfl)
  ·refine go tt [.g 12 true Ui,.g 18 true rfl,.t rfl,.T,.x (Gx hd),.r 33 (eI (b:=((c+d:Nat):Int)) (by omega)),.F,.r 46 (eI (b:=(((c+d) % 10000:Nat):Int)) (by rfl)),.s (sz:=1) (Qbr _),.r 50 (eI (b:=(((c+d) / 10000:Nat):Int)) (by rfl))] rfl (by simp [Uz,hol,tdn,WJ,-Int.natCast_add]; omega) ?_;exact rd (i+1,(c+d) / 10000,o++[(c+d) % 10000]) (by dsimp only; omega) ⟨hp0.snoc (Nat.mod_lt _ (by decide)),by dsimp only; rw [List.length_append]; show o.length+1=_; omega,by
    dsimp only;rw [Pd,hp1,Nat.pow_succ]; simp only [Rz,Nat.mul_zero,Nat.add_zero]; have:=YQ (s:=d) hp2; rw [this,Tn hd,Iy (l:=Ge y) (by omega)]; grind,by dsimp only; omega,.inl (by dsimp only; omega)⟩ (by rw [A7]; rfl)
 ·by_cases h2:i<(Ge y).length
  ·obtain ⟨e,he⟩:=gxE (l:=(Ge y)) (i:=i) h2;have he9:=B7 y e (Qa he);refine go tt [.g 12 false Uh,.g 18 true Ui,.t rfl,.F,.T,.x (Gx he),.r 43 (eI (b:=((c+e:Nat):Int)) (by omega)),.r 46 (eI (b:=(((c+e) % 10000:Nat):Int)) (by rfl)),.s (sz:=1) (Qbr _),.r 50 (eI (b:=(((c+e) / 10000:Nat):Int)) (by rfl))] rfl (by simp [Uz,hol,tdn,WJ,-Int.natCast_add]; omega) ?_;exact rd (i+1,(c+e) / 10000,o++[(c+e) % 10000]) (by dsimp only; omega) ⟨hp0.snoc (Nat.mod_lt _ (by decide)),by dsimp only; rw [List.length_append]; show o.length+1=_; omega,by
    dsimp only;rw [Pd,hp1,Nat.pow_succ]; simp only [Rz,Nat.mul_zero,Nat.add_zero]; have:=YQ (s:=e) hp2; rw [this,Tn he,Iy (l:=Ge x) (by omega)]; grind,by dsimp only; omega,.inl (by dsimp only; omega)⟩ (by rw [A7]; rfl)
  ·by_cases h3:0<c
   ·refine go tt [.g 12 false Uh,.g 18 false Uh,.T,.F,.F,.r 46 (eI (b:=((c % 10000:Nat):Int)) (by rfl)),.s (sz:=1) (Qbr _),.r 50 (eI (b:=((c / 10000:Nat):Int)) (by rfl))] rfl (by simp [Uz,hol,tdn,WJ,-Int.natCast_add]; omega) ?_;exact rd (i+1,c / 10000,o++[c % 10000]) (by dsimp only; omega) ⟨hp0.snoc (Nat.mod_lt _ (by decide)),by dsimp only; rw [List.length_append]; show o.length+1=_; omega,by
     dsimp only;rw [Pd,hp1,Nat.pow_succ]; simp only [Rz,Nat.mul_zero,Nat.add_zero]; have:=YQ (s:=0) hp2; rw [Nat.add_zero,Nat.mul_zero,Nat.add_zero] at this; rw [this,Iy (l:=Ge y) (by omega),Iy (l:=Ge x) (by omega)],by dsimp only; omega,.inr ⟨by dsimp only; omega,by
      have h:=hp2; rw [List.take_of_length_le (by omega),List.take_of_length_le (by omega),H8,H8,show c=1 by omega,Nat.one_mul,show i=(max (Ge x).length (Ge y).length) by omega] at h; omega,by dsimp only; omega⟩⟩ (by rw [A7]; rfl)
   ·have hv:Rz o=x+y:=by
     have h:=hp2;rw [Qn (by omega),Qn (by omega),H8,H8,show c=0 by omega] at h;omega
    have hfin:o=Ge (x+y):=by
     have h:=Qfj (o:=o) hp0;rw [hv] at h;refine h ?_;have m1:=ZB (x:=x) (y:=x+y) (by omega);have m2:=ZB (x:=y) (y:=x+y) (by omega);rcases hp4 with hb | ⟨_,hb,_⟩
     ·omega
     ·have:=Qax hb; omega
    exact Uc [.g 12 false Uh,.g 18 false Uh,.F] rfl (by rw [hfin]; rfl) trivial
theorem YJ {o b a c P u d e c':Nat} (h:o+b=a+c*P) (hs:u+e+c=d+10000*c'):(o+P*u)+(b+P*e)=(a+P*d)+c'*(P*10000):=by
 have e2:P*(u+e+c)=P*(d+10000*c'):=by rw [hs]
 grind
theorem QV (o:Ul) (i u:Nat):Bt (o.set i u)=(Bt o).set i [.int .i64 (u:Int)]:=by simp [Bt,Vs]
theorem sB {x y:Nat} (hx:sz x<=200000000) (hy:sz y<=200000000) (hyx:y<=x):Ug 124 [.one (nd x),.one (nd y)] [.one (nd (x-y))]:=by
 have hxl:=Qc (Mg x) hx;have hyl:=Qc (Mg y) hy;have lx:=UX x;have ly:=UX y;have hmy:=ZB hyx;show Ug 124 [.one (.row (Bt (Ge x))),.one (.row (Bt (Ge y)))] _;refine Fw func124 rfl ?_;refine Ub [.i (Bt (Ge x)).length,.i (Bt (Ge x)).length] rfl ?_;rw [lx,show List.replicate (Ge x).length [LV.int .i64 0]=Bt (List.replicate (Ge x).length 0) from by simp [Bt]];refine Uf (S:=Nat×Nat×Ul) 1 (λL1 s=>(14,.v (.oi (s.1:Int)))::(6,.v (.oi (s.2.1:Int)))::L1) (λs=>[.row false 3 1 (Bt s.2.2)]) (λs=>(Ge x).length-s.1) (λs=>s.1<=(Ge x).length/\s.2.2.length=(Ge x).length/\Dg s.2.2/\Rz (s.2.2.take s.1)+Rz ((Ge y).take s.1)=Rz ((Ge x).take s.1)+s.2.1*10000^s.1/\s.2.1<=1) (0,0,List.replicate (Ge x).length 0) ⟨Qh _,Jb ..,Dg.zeros _,by simp [Rz],Qh _⟩ rfl rfl λs hs=>?_
 obtain ⟨i,c,o⟩:=s;obtain ⟨hp0,hp1,hp2,hp3,hp4⟩:=hs;dsimp only at hp0 hp1 hp2 hp3 hp4 ⊢;have hol:(Bt o).length=(Ge x).length:=by rw [Tp,hp1]
 by_cases h1:i<(Ge x).length
 ·obtain ⟨d,hd⟩:=gxE (l:=(Ge x)) (i:=i) h1;have hd9:=B7 x d (Qa hd);by_cases h2:i<(Ge y).length
  ·obtain ⟨e,he⟩:=gxE (l:=(Ge y)) (i:=i) h2;have he9:=B7 y e (Qa he);by_cases h3:d<c+e
   ·refine go tt [.T,.x (Gx hd),.T,.x (Gx he),.T,.r 36 (eI (b:=((d+10000-c-e:Nat):Int)) (by omega)),.i i] rfl (by simp [Uz,hol,tdn,WJ,-Int.natCast_add]; omega) ?_;exact rd (i+1,1,o.set i (d+10000-c-e)) (by dsimp only; omega) ⟨by dsimp only; omega,by dsimp only; rw [List.length_set]; exact hp1,hp2.set (by omega),by
     dsimp only;rw [A8 (by omega),Tn hd,Tn he,Nat.pow_succ]; exact YJ hp3 (u:=d+10000-c-e) (d:=d) (e:=e) (c':=1) (by omega),by dsimp only; omega⟩ (by rw [QV]; rfl)
   ·refine go tt [.T,.x (Gx hd),.T,.x (Gx he),.r 32 (eI (b:=((d-c-e:Nat):Int)) (by omega)),.F,.i i] rfl (by simp [Uz,hol,tdn,WJ,-Int.natCast_add]; omega) ?_;exact rd (i+1,0,o.set i (d-c-e)) (by dsimp only; omega) ⟨by dsimp only; omega,by dsimp only; rw [List.length_set]; exact hp1,hp2.set (by omega),by
     dsimp only;rw [A8 (by omega),Tn hd,Tn he,Nat.pow_succ]; exact YJ hp3 (u:=d-c-e) (d:=d) (e:=e) (c':=0) (by omega),by dsimp only; omega⟩ (by rw [QV]; rfl)
  ·have hy0:Rz ((Ge y).take (i+1))=Rz ((Ge y).take i)+10000^i*0:=by rw [Iy (by omega),Yw,Xk]
   by_cases h3:d<c
   ·refine go tt [.T,.x (Gx hd),.F,.T,.r 36 (eI (b:=((d+10000-c:Nat):Int)) (by omega)),.i i] rfl (by simp [Uz,hol,tdn,WJ,-Int.natCast_add]; omega) ?_;exact rd (i+1,1,o.set i (d+10000-c)) (by dsimp only; omega) ⟨by dsimp only; omega,by dsimp only; rw [List.length_set]; exact hp1,hp2.set (by omega),by
     dsimp only;rw [A8 (by omega),Tn hd,hy0,Nat.pow_succ]; exact YJ hp3 (u:=d+10000-c) (d:=d) (e:=0) (c':=1) (by omega),by dsimp only; omega⟩ (by rw [QV]; rfl)
   ·refine go tt [.T,.x (Gx hd),.r 22 (eI (b:=((d-c:Nat):Int)) (by omega)),.F,.F,.i i] rfl (by simp [Uz,hol,tdn,WJ,-Int.natCast_add]; omega) ?_;exact rd (i+1,0,o.set i (d-c)) (by dsimp only; omega) ⟨by dsimp only; omega,by dsimp only; rw [List.length_set]; exact hp1,hp2.set (by omega),by
     dsimp only;rw [A8 (by omega),Tn hd,hy0,Nat.pow_succ]; exact YJ hp3 (u:=d-c) (d:=d) (e:=0) (c':=0) (by omega),by dsimp only; omega⟩ (by rw [QV]; rfl)
 ·have hi:i=(Ge x).length:=by omega
  have hv:Rz o=x-y:=by
   have h:=hp3;rw [Qn (by omega),Qn (by omega),Qn (by omega),H8,H8] at h;have hlt:=BO hp2;rw [hp1,<-hi] at hlt;have hc0:c=0:=by
    rcases Q0 c with h0 | h0
    ·exact h0
    ·exfalso;have:c=1:=by omega
     rw [this,Wl] at h; omega
   rw [hc0] at h; omega
  have cc:=GO hp2;rw [hv] at cc;exact Uc [.F,.k cc] rfl
theorem BA {o o2 c P u v s V:Nat} (h:o+c*P=V) (hs:o2+P*v=o+P*u) {q:Nat} (hu:u+10000*q=v+c+s):o2+q*(P*10000)=V+P*s:=by
 have e2:P*(u+10000*q)=P*(v+c+s):=by rw [hu]
 grind
theorem Qwz (S:Nat):S % 10000+10000*(S / 10000)=S:=W5 S 10000
structure MulI (x y i d:Nat) (s:Nat×Nat×List Nat):Prop where
 l:s.2.2.length=(Ge x).length+(Ge y).length
 dg:Dg s.2.2
 v:Rz s.2.2+s.2.1*10000^(i+s.1)=Rz ((Ge x).take i)*y+10000^i*d*Rz ((Ge y).take s.1)
 c:s.2.1<10000
 b:s.1<=(Ge y).length/\(∀ j v,i+(Ge y).length<=j->s.2.2[j]? = some v->v=0)\/s.1=(Ge y).length+1/\s.2.1=0/\∀ j v,i+(Ge y).length+1<=j->s.2.2[j]? = some v->v=0
theorem Qsd {x y:Nat} (hx:sz x<=200000000) (hy:sz y<=200000000):Ug 109 [.one (nd x),.one (nd y)] [.one (nd (x*y))]:=by
 have hxl:=Qc (Mg x) hx;have hyl:=Qc (Mg y) hy;have lx:=UX x;have ly:=UX y;show Ug 109 [.one (.row (Bt (Ge x))),.one (.row (Bt (Ge y)))] _;refine Fw func109 rfl ?_;refine Ub [.r 14 (eI (b:=(((Ge x).length+(Ge y).length:Nat):Int)) (by rw [lx,ly]; omega)),.i ((Ge x).length+(Ge y).length),.i ((Ge x).length+(Ge y).length)] rfl ?_;rw [show List.replicate ((Ge x).length+(Ge y).length) [LV.int .i64 0]=Bt (List.replicate ((Ge x).length+(Ge y).length) 0) from by simp [Bt]];refine Uf (S:=Nat×Ul) 1 (λL1 s=>(18,.v (.oi (s.1:Int)))::L1) (λs=>[.row false 3 1 (Bt s.2)]) (λs=>(Ge x).length-s.1) (λs=>s.1<=(Ge x).length/\s.2.length=(Ge x).length+(Ge y).length/\Dg s.2/\Rz s.2=Rz ((Ge x).take s.1)*y/\∀ j v,s.1+(Ge y).length<=j->s.2[j]? = some v->v=0) (0,List.replicate ((Ge x).length+(Ge y).length) 0) ⟨Qh _,Jb ..,Dg.zeros _,by rw [CQ (λx hx=>Zx hx)]; simp [Rz],λj v _ hv=>Zx (Qa hv)⟩ rfl rfl λs hs=>?_
 obtain ⟨i,o⟩:=s;obtain ⟨hp0,hp1,hp2,hp3,hp4⟩:=hs;dsimp only at hp0 hp1 hp2 hp3 hp4 ⊢;by_cases h1:i<(Ge x).length
 ·obtain ⟨d,hd⟩:=gxE (l:=(Ge x)) (i:=i) h1;have hd9:=B7 x d (Qa hd);refine Ua [.T] rfl ?_;refine Uf (S:=Nat×Nat×Ul) 1 (λL1 s=>(8,.v (.oi (s.1:Int)))::(7,.v (.oi (s.2.1:Int)))::L1) (λs=>[.row false 3 1 (Bt s.2.2)]) (λs=>((Ge y).length-s.1)*2+min s.2.1 1) (MulI x y i d) (0,0,o) ⟨hp1,hp2,by dsimp only; rw [hp3]; simp [Rz],by show 0<10000; decide,.inl ⟨Nat.zero_le _,hp4⟩⟩ rfl rfl λs hs=>?_
  obtain ⟨k,c,o2⟩:=s;obtain ⟨hq0,hq1,hq2,hq3,hq4⟩:=hs;dsimp only at hq0 hq1 hq2 hq3 hq4 ⊢;have hol:(Bt o2).length=(Ge x).length+(Ge y).length:=by rw [Tp,hq0]
  by_cases h2:k<(Ge y).length
  ·obtain ⟨e,he⟩:=gxE (l:=(Ge y)) (i:=k) h2;have he9:=B7 y e (Qa he);have hde:d*e<=9999*9999:=Zi (by omega) (by omega);obtain ⟨v,hoi⟩:=gxE (l:=o2) (i:=i+k) (by omega);have hv9:=hq1 v (Qa hoi);refine go tt [.g 25 true Ui,.t rfl,.r 34 (eI (b:=((i+k:Nat):Int)) (by omega)),.i (i+k),.x (Gx hoi),.r 38 (eI (b:=((v+c:Nat):Int)) (by omega)),.T,.x (Gx hd),.x (Gx he),.r 52 (eI (b:=((d*e:Nat):Int)) (by simp)),.r 53 (eI (b:=((v+c+d*e:Nat):Int)) (by omega)),.r 57 (eI (b:=((i+k:Nat):Int)) (by omega)),.r 59 (eI (b:=(((v+c+d*e) % 10000:Nat):Int)) (by rfl)),.i (i+k),.r 62 (eI (b:=(((v+c+d*e) / 10000:Nat):Int)) (by rfl))] rfl (by simp [Uz,hol,tdn,WJ,-Int.natCast_add,-Int.natCast_mul]; omega) ?_;exact rd (k+1,(v+c+d*e) / 10000,o2.set (i+k) ((v+c+d*e) % 10000)) (by dsimp only; omega) ⟨by dsimp only; rw [List.length_set]; exact hq0,hq1.set (Nat.mod_lt _ (by decide)),by
    dsimp only;rw [<-Nat.add_assoc i k 1,Nat.pow_succ]; have:=BA hq2 (lV hoi (u:=((v+c)+(d*e)) % 10000)) (s:=d*e) (q:=((v+c)+(d*e)) / 10000) (by rw [Qwz]); rw [this,Tn he,Nat.pow_add]; grind,by dsimp only; omega,.inl ⟨by dsimp only; omega,λj w hj hw=>(by
     dsimp only at hw;rcases hq4 with ⟨_,h⟩ | ⟨_,_,h⟩ <;> (rw [Yb (by omega)] at hw; exact h j w (by omega) hw))⟩⟩ (by rw [QV]; rfl)
  ·by_cases h3:0<c
   ·have hk:k=(Ge y).length:=by omega
    have hz:∀ j v,i+(Ge y).length<=j->o2[j]? = some v->v=0:=by
     rcases hq4 with ⟨_,h⟩ | ⟨_,h,_⟩
     ·exact h
     ·omega
    obtain ⟨v,hoi⟩:=gxE (l:=o2) (i:=i+k) (by omega);have hv0:v=0:=hz (i+k) v (by omega) hoi;have hv9:=hq1 v (Qa hoi);refine go tt [.g 25 false Uh,.T,.r 34 (eI (b:=((i+k:Nat):Int)) (by omega)),.i (i+k),.x (Gx hoi),.r 38 (eI (b:=((v+c:Nat):Int)) (by omega)),.F,.r 57 (eI (b:=((i+k:Nat):Int)) (by omega)),.r 59 (eI (b:=(((v+c) % 10000:Nat):Int)) (by rfl)),.i (i+k),.r 62 (eI (b:=(((v+c) / 10000:Nat):Int)) (by rfl))] rfl (by simp [Uz,hol,tdn,WJ,-Int.natCast_add]; omega) ?_;exact rd (k+1,(v+c) / 10000,o2.set (i+k) ((v+c) % 10000)) (by dsimp only; omega) ⟨by dsimp only; rw [List.length_set]; exact hq0,hq1.set (Nat.mod_lt _ (by decide)),by
     dsimp only;rw [<-Nat.add_assoc i k 1,Nat.pow_succ]; have:=BA hq2 (lV hoi (u:=(v+c) % 10000)) (s:=0) (q:=(v+c) / 10000) (by rw [Qwz]; rfl); rw [this,Nat.mul_zero,Nat.add_zero,Iy (by omega)],by dsimp only; omega,.inr ⟨by dsimp only; omega,by dsimp only; omega,λj w hj hw=>(by
      dsimp only at hw;rw [Yb (by omega)] at hw; exact hz j w (by omega) hw)⟩⟩ (by rw [QV]; rfl)
   ·refine Ub [.g 25 false Uh,.F] rfl ?_;exact rd (i+1,o2) (by dsimp only; omega) ⟨by dsimp only; omega,hq0,hq1,by
     dsimp only;rw [Tn hd,Xz]; have h:=hq2; rw [show c=0 by omega,Qn (l:=Ge y) (i:=k) (by omega),H8] at h; rw [Yg,Xk] at h; exact h,by
     dsimp only;rcases hq4 with ⟨_,h⟩ | ⟨_,_,h⟩
     ·exact λj w hj hw=>h j w (by omega) hw
     ·exact λj w hj hw=>h j w (by omega) hw⟩ rfl
 ·have hv:Rz o=x*y:=by rw [hp3,Qn (by omega),H8]
  have cc:=GO hp2;rw [hv] at cc;exact Uc [.F,.k cc] rfl
theorem dE {x y:Nat}:ZV x y<=0↔x<=y:=by
 unfold ZV;constructor
 ·intro h; split at h
  ·omega
  ·split at h <;> omega
 ·intro h; split
  ·omega
  ·split <;> omega
theorem Qa0 {R y lo:Nat} (h1:y*lo<=R) (h2:R<y*(lo+1)):R / y=lo/\R % y=R-y*lo:=by
 have hy:0<y:=by
  rcases Q0 y with h | h
  ·subst h; simp at h2
  ·exact h
 have e:R / y=lo:=Nat.div_eq_of_lt_le (by rw [Zp]; exact h1) (by rw [Zp]; exact h2);refine ⟨e,?_⟩;have:=Xd R y;rw [e] at this; omega
theorem Qjx {R y:Nat} (h:R<y*10000):sz R<=sz y+14:=by
 refine Bm.2 (Z6 h ?_);have:=UC y;rw [Xe];have e:(2:Nat)^14=16384:=by decide
 rw [e]; exact Zi (by omega) (by decide)
theorem Qcd (y:Nat):sz (y*10000)<=sz y+14:=by
 refine Bm.2 ?_;have:=UC y;rw [Xe];have e:(2:Nat)^14=16384:=by decide
 rw [e]; omega
theorem Qdi {x y:Nat} (hx:sz x<=90000000) (hy:sz y<=90000000) (hy0:0<y):Ug 144 [.one (nd x),.one (nd y)] [.one (nd (x / y)),.one (nd (x % y))]:=by
 have hxl:=Qc (Mg x) hx;have hyl:=Qc (Mg y) hy;have lx:=UX x;show Ug 144 [.one (.row (Bt (Ge x))),.one (nd y)] _;refine Fw func144 rfl ?_;refine Ub [.i (Bt (Ge x)).length,.i (Bt (Ge x)).length,.z 7,.r 17 (eI (b:=((Ge x).length:Int)-1) (by rw [lx]))] rfl ?_;rw [lx,show List.replicate (Ge x).length [LV.int .i64 0]=Bt (List.replicate (Ge x).length 0) from by simp [Bt]];refine Uf (S:=Nat×Ul×Ul) 1 (λL1 s=>(8,.v (.oi ((s.1:Int)-1)))::(7,.v (.one (.row (Bt s.2.1))))::L1) (λs=>[.row false 3 1 (Bt s.2.2)]) (λs=>s.1) (λs=>s.1<=(Ge x).length/\s.2.2.length=(Ge x).length/\Dg s.2.2/\Rz (s.2.2.drop s.1)=Rz ((Ge x).drop s.1) / y/\s.2.1=Ge (Rz ((Ge x).drop s.1) % y)) ((Ge x).length,[],List.replicate (Ge x).length 0) ⟨Nat.le_refl _,List.length_replicate ..,Dg.zeros _,by dsimp only; rw [List.drop_eq_nil_of_le (by simp),List.drop_eq_nil_of_le (Nat.le_refl _)]; simp [Rz],by dsimp only; rw [List.drop_eq_nil_of_le (Nat.le_refl _)]; simp [Rz,Hy]⟩ rfl rfl λs hs=>?_
 obtain ⟨j,R,o⟩:=s;obtain ⟨hp0,hp1,hp2,hp3,hp4⟩:=hs;dsimp only at hp0 hp1 hp2 hp3 hp4 ⊢;cases j with
 |
  zero =>
  have cc:=GO hp2;rw [X2,X2,H8] at hp3;rw [X2,H8] at hp4;rw [hp3] at cc;exact Uc [.f (by simp),.k cc] rfl (by rw [hp4]; rfl) trivial
 |
  succ j =>
  obtain ⟨d,hd⟩:=gxE (l:=(Ge x)) (i:=j) (by omega);have hd9:=B7 x d (Qa hd);have hdd:=ZL hd;obtain ⟨hq1,hq2,hq3⟩:=wR (V:=Rz ((Ge x).drop (j+1))) (kd:=y) (d:=d) hy0;rw [<-hdd] at hq1 hq2;have hq3:=hq3 hd9;obtain ⟨rr,hrr0⟩:=nmE (Rz ((Ge x).drop (j+1)) % y);have hrr:rr<y:=by rw [hrr0]; exact Z5 _ hy0
  rw [<-hrr0] at hp4 hq1 hq2 hq3;subst hp4;have hrl:(Ge rr).length<=(Ge y).length:=ZB (by omega);have hR:rr*10000+d<y*10000:=by omega
  have hRs:=Qjx hR;have hdv:Dg (d::Ge rr):=λz hz=>by
   rcases Qm.1 hz with rfl | hz
   ·exact hd9
   ·exact B7 rr z hz
  have cc:=GO hdv;rw [show Rz (d::Ge rr)=rr*10000+d from by simp only [Rz]; rw [H8]; omega] at cc;have hol:(Bt o).length=(Ge x).length:=by rw [Tp,hp1]
  have hrrl:=Tp (Ge rr);have ej:((j+1:Nat):Int)-1=(j:Int):=by omega
  rw [ej];refine go tt [.T,.x (Gx hd),.lo,.s (sz:=1) (Qta (Ge rr)),.k cc] rfl (by simp [Uz,UX]; omega) ?_;refine Uf (S:=Nat×Nat) 2 (λL1 s=>(9,.v (.oi (s.1:Int)))::(10,.v (.oi (s.2:Int)))::L1) (λ_=>[.row false 3 1 (Bt o),.gone]) (λs=>s.2-s.1) (λs=>s.1<=s.2/\s.2<=9999/\y*s.1<=rr*10000+d/\rr*10000+d<y*(s.2+1)) (0,9999) ⟨by decide,by decide,by dsimp only; omega,by dsimp only; omega⟩ rfl rfl λs hs=>?_
  obtain ⟨lo,hi⟩:=s;obtain ⟨hb0,hb1,hb2,hb3⟩:=hs;dsimp only at hb0 hb1 hb2 hb3 ⊢;by_cases h2:lo<hi
  ·obtain ⟨m,hm⟩:=nmE ((lo+hi+1) / 2);have hym:y*m<=y*10000:=Zt y (by omega);have c1:=kF (x:=y) (mu:=m) (c0:=0) (by omega) (by omega) (by omega);have c2:=sT (x:=y*m+0) (y:=rr*10000+d) (Qc (Su (show _<=y*10000 by omega)) (Qc (Qcd y) (by omega))) (by omega);by_cases h3:y*m+0<=rr*10000+d
   ·refine go tt [.T,.r 35 (eI (b:=((lo+hi:Nat):Int)) (by omega)),.r 36 (eI (b:=((lo+hi+1:Nat):Int)) (by omega)),.r 37 (eI (b:=(m:Int)) (by rw [hm]; rfl)),.k c1,.k c2,.t (decide_eq_true (dE.2 h3))] rfl (by simp [Uz,WJ,-Int.natCast_add]; omega) ?_;exact rd (m,hi) (by dsimp only; omega) ⟨by dsimp only; omega,hb1,by dsimp only; omega,hb3⟩ rfl
   ·refine go tt [.T,.r 35 (eI (b:=((lo+hi:Nat):Int)) (by omega)),.r 36 (eI (b:=((lo+hi+1:Nat):Int)) (by omega)),.r 37 (eI (b:=(m:Int)) (by rw [hm]; rfl)),.k c1,.k c2,.f (decide_eq_false λh=>h3 (dE.1 h)),.r 46 (eI (b:=((m-1:Nat):Int)) (by omega))] rfl (by simp [Uz,WJ,-Int.natCast_add]; omega) ?_;exact rd (lo,m-1) (by dsimp only; omega) ⟨by dsimp only; omega,by dsimp only; omega,hb2,by dsimp only; rw [show m-1+1=m by omega]; omega⟩ rfl
  ·have hlh:lo=hi:=by omega
   have hfd:=Qa0 hb2 (by rw [hlh]; exact hb3);have c1:=kF (x:=y) (mu:=lo) (c0:=0) (by omega) (by omega) (by omega);have c2:=sB (x:=rr*10000+d) (y:=y*lo+0) (by omega) (Qc (Su (show _<=rr*10000+d by omega)) (by omega)) (by omega);rw [show rr*10000+d-(y*lo+0)=Rz ((Ge x).drop j) % y from by rw [hq2,hfd.2]; omega] at c2;refine go tt [.F,.i j,.k c1,.k c2] rfl (by simp [Uz,hol,tdn,WJ,-Int.natCast_add]; omega) ?_;exact rd (j,Ge (Rz ((Ge x).drop j) % y),o.set j lo) (by dsimp only; omega) ⟨by dsimp only; omega,by dsimp only; rw [List.length_set]; exact hp1,hp2.set (by omega),by
    dsimp only;rw [HV (by omega)]; simp only [Rz]; rw [hp3,hq1,hfd.1],rfl⟩ (by rw [QV]; rfl)
theorem Qpd {a b:Int} (h:(decide (a<0) == decide (b<0))=true):Fb (decide (a<0)) (a.natAbs+b.natAbs)=a+b:=by
 unfold Fb;by_cases h1:a<0 <;> by_cases h2:b<0 <;> simp [h1,h2] at h ⊢ <;> omega
theorem Qpg {a b:Int} (h:¬(decide (a<0) == decide (b<0))=true) (hl:b.natAbs<=a.natAbs):Fb (decide (a<0)) (a.natAbs-b.natAbs)=a+b:=by
 unfold Fb;by_cases h1:a<0 <;> by_cases h2:b<0 <;> simp [h1,h2] at h ⊢ <;> omega
theorem Qje {a b:Int} (h:¬(decide (a<0) == decide (b<0))=true) (hl:¬b.natAbs<=a.natAbs):Fb (decide (b<0)) (b.natAbs-a.natAbs)=a+b:=by
 unfold Fb;by_cases h1:a<0 <;> by_cases h2:b<0 <;> simp [h1,h2] at h ⊢ <;> omega
theorem YP (a:Int):(∃ m:Nat,a=(m:Int))\/∃ m:Nat,a=-(m:Int)/\0<m:=by
 rcases K8 a 0 with h | h
 ·exact .inr ⟨a.natAbs,by omega,by omega⟩
 ·exact .inl ⟨a.natAbs,by omega⟩
theorem Qpf (a b:Int):Fb (!(decide (a<0) == decide (b<0))) (a.natAbs*b.natAbs)=a*b:=by
 rcases YP a with ⟨m,rfl⟩ | ⟨m,rfl,hm⟩ <;> rcases YP b with ⟨n,rfl⟩ | ⟨n,rfl,hn⟩
 ·simp [Fb,show ¬((m:Int)<0) by omega,show ¬((n:Int)<0) by omega]
 ·simp [Fb,show ¬((m:Int)<0) by omega,show (-(n:Int)<0) by omega,hn,Kn]
 ·simp [Fb,show (-(m:Int)<0) by omega,show ¬((n:Int)<0) by omega,hm,Ko]
 ·simp [Fb,show (-(m:Int)<0) by omega,show (-(n:Int)<0) by omega,hm,hn,W4]
theorem Qpe {a b:Int} (h:a % b=0):Fb (!(decide (a<0) == decide (b<0))) (a.natAbs / b.natAbs)=a / b:=by
 by_cases hb:b=0
 ·subst hb; simp [Fb]
 obtain ⟨c,rfl⟩:=Ve h;rw [Ja _ hb,J5,Nat.mul_div_cancel_left _ (by omega)];rcases YP b with ⟨n,rfl⟩ | ⟨n,rfl,hn⟩ <;> rcases YP c with ⟨m,rfl⟩ | ⟨m,rfl,hm⟩
 ·have:¬((n:Int)*(m:Int)<0):=by rw [<-Vi]; omega
  simp [Fb,this,show ¬((n:Int)<0) by omega]
 ·have h1:0<n*m:=J1 (by omega) hm;have:((n:Int)*-(m:Int)<0):=by rw [Kn,<-Vi]; omega
  simp only [this,show ¬((n:Int)<0) by omega];simp [Fb]
 ·by_cases h0:m=0
  ·subst h0; simp [Fb]
  ·have h1:0<n*m:=J1 hn (by omega);have:(-(n:Int)*(m:Int)<0):=by rw [Ko,<-Vi]; omega
   simp only [this,show (-(n:Int)<0) by omega];simp [Fb]
 ·have:¬(-(n:Int)*-(m:Int)<0):=by rw [W4,<-Vi]; omega
  simp only [this,show (-(n:Int)<0) by omega];simp [Fb]
theorem dL {x y:Nat}:0<=ZV x y↔y<=x:=by
 unfold ZV;constructor
 ·intro h; split at h
  ·omega
  ·omega
 ·intro h; split
  ·omega
  ·split <;> omega
theorem BB {x e:Nat} (h:(Ge x).length=1) (he:(Ge x)[0]? = some e):x=e:=by
 rcases hd:Ge x with _ | ⟨u,l⟩
 ·rw [hd] at h; cases h
 ·rcases l with _ | ⟨w,l⟩
  ·rw [hd] at he; simp at he;have:=H8 x;rw [hd] at this; simp [Rz] at this; omega
  ·rw [hd] at h; simp at h
theorem pL {a b:Int} (hb:0<b):ri (a / ((Int.gcd a b:Nat):Int))++ri (b / ((Int.gcd a b:Nat):Int))=fr (Rat.divInt a b):=by
 obtain ⟨h1,h2⟩:=eD (n:=a) hb;rw [Dy,Int.gcd_comm] at h1 h2;rw [h1,h2]
theorem pE (a:Int):ri a++ri 1=fr (Rat.divInt a 1):=by
 have h:=pL (a:=a) (b:=1) (by decide);rw [show ((Int.gcd a 1:Nat):Int)=1 by simp] at h;simpa using h
theorem OX {a b:Int} (hb:b≠0) (ha2:Fe a<=90000000) (hb2:Fe b<=90000000):Fe ((Int.gcd a b:Nat):Int)<=90000000/\((Int.gcd a b:Nat):Int)≠0/\a % ((Int.gcd a b:Nat):Int)=0/\b % ((Int.gcd a b:Nat):Int)=0:=by
 have h1:=lO (n:=a) hb hb2;have h2:=uW (n:=a) hb;have h3:=CC a b;have h4:=CL a b;rw [Dy,Int.gcd_comm] at h1 h2 h3 h4;exact ⟨h1,by omega,h3,h4⟩
theorem qR {a b:Int} (h:b<0):Gw a b=Rat.divInt (-a) (-b):=by
 unfold Gw; rw [if_neg (by omega)];exact (Rat.neg_divInt_neg a b).symm
theorem RN {a b:Int} (h:0<b):Gw a b=Rat.divInt a b:=by
 unfold Gw; rw [if_neg (by omega)]
theorem oV (a b:Rat):Gw (a.num*(b.den:Int)+b.num*(a.den:Int)) ((a.den:Int)*(b.den:Int))=a+b:=by
 unfold Gw;rw [if_neg (Jm (E4 a) (E4 b)),<-Rat.divInt_add_divInt _ _ (E4 a) (E4 b),Z4,Z4]
theorem OC (a b:Rat):Gw (a.num*b.num) ((a.den:Int)*(b.den:Int))=a*b:=by
 unfold Gw;rw [if_neg (Jm (E4 a) (E4 b)),<-Kz,Z4,Z4]
theorem qH {a b:Rat} (h:b≠0):Gw (a.num*(b.den:Int)) ((a.den:Int)*b.num)=a / b:=by
 have hn:b.num≠0:=λe=>h (Rat.num_eq_zero.1 e)
 unfold Gw;rw [if_neg (Jm (E4 a) hn),<-Kz,Z4,Jt];congr 1
 conv=>rhs; rw [<-Z4 b,Rat.inv_divInt]
theorem Qel {a b:Int} (ha:Fe a<=200000000) (hb:Fe b<=200000000):Ug 80 [.agg (ri a),.agg (ri b)] [.agg (ri (a+b))]:=by
 by_cases hs:(decide (a<0) == decide (b<0))=true
 ·have cm:=O8 (decide (a<0)) (a.natAbs+b.natAbs);rw [Qpd hs] at cm;exact Ud func80 rfl [.t hs,.k (Qr2 ha hb),.k cm] rfl
 ·have hs':(decide (a<0) == decide (b<0))=false:=by simpa using hs
  by_cases hl:b.natAbs<=a.natAbs
  ·have cm:=O8 (decide (a<0)) (a.natAbs-b.natAbs);rw [Qpg hs hl] at cm;exact Ud func80 rfl [.f hs',.k (sT ha hb),.t (decide_eq_true (dL.2 hl)),.k (sB ha hb hl),.k cm] rfl
  ·have cm:=O8 (decide (b<0)) (b.natAbs-a.natAbs);rw [Qje hs hl] at cm;exact Ud func80 rfl [.f hs',.k (sT ha hb),.f (decide_eq_false λh=>hl (dL.1 h)),.k (sB hb ha (by omega)),.k cm] rfl
theorem Qsq {a b:Int} (ha:Fe a<=200000000) (hb:Fe b<=200000000):Ug 108 [.agg (ri a),.agg (ri b)] [.agg (ri (a-b))]:=by
 have ca:=Qel (a:=a) (b:=-b) ha (by rw [Hw]; exact hb);rw [show a+-b=a-b from by omega] at ca;exact Ud func108 rfl [.k (O7 (z:=b)),.k ca] rfl
theorem Ex {a b:Int} (ha:Fe a<=200000000) (hb:Fe b<=200000000):Ug 63 [.agg (ri a),.agg (ri b)] [.agg (ri (a*b))]:=by
 have cm:=O8 (!(decide (a<0) == decide (b<0))) (a.natAbs*b.natAbs);rw [Qpf] at cm;exact Ud func63 rfl [.k (Qsd ha hb),.k cm] rfl
theorem BX {a b:Int} (ha:Fe a<=90000000) (hb:Fe b<=90000000) (h0:b≠0) (hd:a % b=0):Ug 105 [.agg (ri a),.agg (ri b)] [.agg (ri (a / b))]:=by
 have cm:=O8 (!(decide (a<0) == decide (b<0))) (a.natAbs / b.natAbs);rw [Qpe hd] at cm;exact Ud func105 rfl [.k (Qdi ha hb (by omega)),.k cm] rfl
theorem Qut (x:Nat):ri ((x:Nat):Int)=[nd x,.bool false]:=by
 unfold ri sg;rw [Xg,decide_eq_false (by omega)]
theorem xZ {a b:Int} (ha:Fe a<=90000000) (hb:Fe b<=90000000):Ug 104 [.agg (ri a),.agg (ri b)] [.agg (ri ((Int.gcd a b:Nat):Int))]:=by
 rw [Qut];refine Fw func104 rfl ?_;refine Ua [] rfl ?_;refine Uf (S:=Nat×Nat) 3 (λL1 s=>(5,.v (.one (nd s.1)))::(6,.v (.one (nd s.2)))::L1) (λ_=>[.blk 58 (ri a),.blk 58 (ri b),.blk 58 [.nils,.bool false]]) (λs=>s.2) (λs=>Nat.gcd s.1 s.2=Int.gcd a b/\sz s.1<=90000000/\sz s.2<=90000000) (a.natAbs,b.natAbs) ⟨rfl,ha,hb⟩ rfl rfl λs hs=>?_
 obtain ⟨x,y⟩:=s;obtain ⟨hp0,hp1,hp2⟩:=hs;dsimp only at hp0 hp1 hp2 ⊢;have hyn:=MZ (x:=y);have hyl:=UX y;by_cases h1:y=0
 ·have e:Int.gcd a b=x:=by rw [<-hp0,h1,Nat.gcd_zero_right]
  rw [e];exact Uc [.f (by simp only [Tp]; exact decide_eq_false (by omega))] rfl
 ·have hlt:=Z5 x (show 0<y by omega);refine Ua [.t (by simp only [Tp]; exact decide_eq_true (by omega)),.k (Qdi hp1 hp2 (by omega))] rfl ?_;exact rd (y,x % y) (by dsimp only; omega) ⟨by dsimp only; rw [<-hp0,Nat.gcd_comm x y,Nat.gcd_rec y x,Nat.gcd_comm],hp2,Nat.le_trans (Su (by dsimp only; omega)) hp2⟩ rfl
theorem PN {a b:Int} (ha:Fe a<=90000000) (hb:Fe b<=90000000):Ug 60 [.agg (ri a),.agg (ri b)] [.agg (fr (Gw a b))]:=by
 rcases Kl b 0 with hs | hs | hs
 ·skip
  by_cases h1:-b=1
  ·have h0:(Bt (Ge (-b).natAbs))[0]? = some [LV.int .i64 1]:=by rw [h1,show (1:Int).natAbs=1 from rfl,A6]; rfl
   have hl1:decide (((Bt (Ge (-b).natAbs)).length:Int)=1)=true:=by rw [h1,show (1:Int).natAbs=1 from rfl,A6]; rfl
   have e:fr (Gw a b)=ri (-a)++ri (-b):=by rw [qR hs,h1]; exact (pE _).symm
   rw [e];exact Ud func60 rfl [.k (Df (z:=b)),.F,.t (decide_eq_true hs),.k (O7 (z:=a)),.k (O7 (z:=b)),.g 19 true hl1,.x h0,.t rfl] rfl
  ·have hgf:=OX (a:=-a) (b:=-b) (by omega) (by first | exact ha | (rw [Hw]; exact ha)) (by first | exact hb | (rw [Hw]; exact hb));have cg:=xZ (a:=-a) (b:=-b) (by first | exact ha | (rw [Hw]; exact ha)) (by first | exact hb | (rw [Hw]; exact hb));have q1:=BX (a:=-a) (b:=((Int.gcd (-a) (-b):Nat):Int)) (by first | exact ha | (rw [Hw]; exact ha)) hgf.1 hgf.2.1 hgf.2.2.1;have q2:=BX (a:=-b) (b:=((Int.gcd (-a) (-b):Nat):Int)) (by first | exact hb | (rw [Hw]; exact hb)) hgf.1 hgf.2.1 hgf.2.2.2;have e:fr (Gw a b)=ri ((-a) / ((Int.gcd (-a) (-b):Nat):Int))++ri ((-b) / ((Int.gcd (-a) (-b):Nat):Int)):=by rw [qR hs]; exact (pL (by omega)).symm
   rw [e];have hl:=UX (-b).natAbs;by_cases hl1:(Ge (-b).natAbs).length=1
   ·obtain ⟨u,hu⟩:=gxE (l:=(Ge (-b).natAbs)) (i:=0) (by omega);have hue:=BB hl1 hu;exact Ud func60 rfl [.k (Df (z:=b)),.F,.t (decide_eq_true hs),.k (O7 (z:=a)),.k (O7 (z:=b)),.g 19 true (by simp only [Tp]; exact decide_eq_true (by omega)),.x (Gx hu),.F,.k cg,.k q1,.k q2] rfl
   ·exact Ud func60 rfl [.k (Df (z:=b)),.F,.t (decide_eq_true hs),.k (O7 (z:=a)),.k (O7 (z:=b)),.g 19 false (by simp only [Tp]; exact decide_eq_false (by omega)),.f rfl,.k cg,.k q1,.k q2] rfl
 ·subst hs;have h0:(Bt (Ge (1:Int).natAbs))[0]? = some [LV.int .i64 1]:=by rw [show (1:Int).natAbs=1 from rfl,A6]; rfl
  have h1:decide (((Bt (Ge (1:Int).natAbs)).length:Int)=1)=true:=by rw [show (1:Int).natAbs=1 from rfl,A6]; rfl
  have e:fr (Gw a 0)=ri a++ri 1:=(pE a).symm;rw [e];exact Ud func60 rfl [.k (Df (z:=0)),.t rfl,.k (VH (n:=1) (by decide)),.f rfl,.g 19 true h1,.x h0,.t rfl] rfl
 ·skip
  by_cases h1:b=1
  ·have h0:(Bt (Ge (b).natAbs))[0]? = some [LV.int .i64 1]:=by rw [h1,show (1:Int).natAbs=1 from rfl,A6]; rfl
   have hl1:decide (((Bt (Ge (b).natAbs)).length:Int)=1)=true:=by rw [h1,show (1:Int).natAbs=1 from rfl,A6]; rfl
   have e:fr (Gw a b)=ri (a)++ri (b):=by rw [RN hs,h1]; exact (pE _).symm
   rw [e];exact Ud func60 rfl [.k (Df (z:=b)),.F,.F,.g 19 true hl1,.x h0,.t rfl] rfl
  ·have hgf:=OX (a:=a) (b:=b) (by omega) (by first | exact ha | (rw [Hw]; exact ha)) (by first | exact hb | (rw [Hw]; exact hb));have cg:=xZ (a:=a) (b:=b) (by first | exact ha | (rw [Hw]; exact ha)) (by first | exact hb | (rw [Hw]; exact hb));have q1:=BX (a:=a) (b:=((Int.gcd (a) (b):Nat):Int)) (by first | exact ha | (rw [Hw]; exact ha)) hgf.1 hgf.2.1 hgf.2.2.1;have q2:=BX (a:=b) (b:=((Int.gcd (a) (b):Nat):Int)) (by first | exact hb | (rw [Hw]; exact hb)) hgf.1 hgf.2.1 hgf.2.2.2;have e:fr (Gw a b)=ri ((a) / ((Int.gcd (a) (b):Nat):Int))++ri ((b) / ((Int.gcd (a) (b):Nat):Int)):=by rw [RN hs]; exact (pL (by omega)).symm
   rw [e];have hl:=UX (b).natAbs;by_cases hl1:(Ge (b).natAbs).length=1
   ·obtain ⟨u,hu⟩:=gxE (l:=(Ge (b).natAbs)) (i:=0) (by omega);have hue:=BB hl1 hu;exact Ud func60 rfl [.k (Df (z:=b)),.F,.F,.g 19 true (by simp only [Tp]; exact decide_eq_true (by omega)),.x (Gx hu),.F,.k cg,.k q1,.k q2] rfl
   ·exact Ud func60 rfl [.k (Df (z:=b)),.F,.F,.g 19 false (by simp only [Tp]; exact decide_eq_false (by omega)),.f rfl,.k cg,.k q1,.k q2] rfl
theorem Qwi {n d:Int} (hn:-1000000000<=n/\n<=1000000000) (hd:-1000000000<=d/\d<=1000000000):Ug 18 [.oi n,.oi d] [.agg (fr (Gw n d))]:=by
 have b1:Fe n<=90000000:=Qc (Si.2 (show n.natAbs<2^40 by omega)) (by decide);have b2:Fe d<=90000000:=Qc (Si.2 (show d.natAbs<2^40 by omega)) (by decide);exact Ud func18 rfl [.k (VH (by omega)),.k (VH (by omega)),.k (PN b1 b2)] rfl
theorem Qsf {a:Rat}:Ug 70 [.agg (fr a)] [.agg (fr (-a))]:=by
 have e:fr (-a)=ri (-a.num)++ri (a.den:Int):=rfl;rw [e];exact Ud func70 rfl [.k (O7 (z:=a.num))] rfl
theorem Qdd {a b:Rat} (ha:Qs 20000000 a) (hb:Qs 20000000 b):Ug 37 [.agg (fr a),.agg (fr b)] [.agg (fr (a+b))]:=by
 have k1:=Gh a.num (b.den:Int);have k2:=Gh b.num (a.den:Int);have k3:=Gh (a.den:Int) (b.den:Int);have k4:=YK (a.num*(b.den:Int)) (b.num*(a.den:Int));have h1:=ha.1; have h2:=ha.2; have h3:=hb.1; have h4:=hb.2;have cm:=PN (a:=a.num*(b.den:Int)+b.num*(a.den:Int)) (b:=(a.den:Int)*(b.den:Int)) (by omega) (by omega);rw [oV] at cm;exact Ud func37 rfl [.k (Ex (a:=a.num) (b:=(b.den:Int)) (by omega) (by omega)),.k (Ex (a:=b.num) (b:=(a.den:Int)) (by omega) (by omega)),.k (Qel (by omega) (by omega)),.k (Ex (a:=(a.den:Int)) (b:=(b.den:Int)) (by omega) (by omega)),.k cm] rfl
theorem Qdr {a b:Rat} (ha:Qs 40000000 a) (hb:Qs 40000000 b):Ug 251 [.agg (fr a),.agg (fr b)] [.agg (fr (a*b))]:=by
 have k1:=Gh a.num b.num;have k3:=Gh (a.den:Int) (b.den:Int);have h1:=ha.1; have h2:=ha.2; have h3:=hb.1; have h4:=hb.2;have cm:=PN (a:=a.num*b.num) (b:=(a.den:Int)*(b.den:Int)) (by omega) (by omega);rw [OC] at cm;exact Ud func251 rfl [.k (Ex (a:=a.num) (b:=b.num) (by omega) (by omega)),.k (Ex (a:=(a.den:Int)) (b:=(b.den:Int)) (by omega) (by omega)),.k cm] rfl
theorem sM {a b:Rat} (ha:Qs 40000000 a) (hb:Qs 40000000 b) (h0:b≠0):Ug 281 [.agg (fr a),.agg (fr b)] [.agg (fr (a / b))]:=by
 have k1:=Gh a.num (b.den:Int);have k3:=Gh (a.den:Int) b.num;have h1:=ha.1; have h2:=ha.2; have h3:=hb.1; have h4:=hb.2;have cm:=PN (a:=a.num*(b.den:Int)) (b:=(a.den:Int)*b.num) (by omega) (by omega);rw [qH h0] at cm;exact Ud func281 rfl [.k (Ex (a:=a.num) (b:=(b.den:Int)) (by omega) (by omega)),.k (Ex (a:=(a.den:Int)) (b:=b.num) (by omega) (by omega)),.k cm] rfl
end Orr
namespace Orr
def Cz:Um->Um
 | []=>[]
 |
  x::l=>match Cz l with
  | []=>if x=0 then [] else [x]
  | y::k=>x::y::k
theorem JY:∀ {l:Um},(∀ x∈l,x=0)->Cz l=[]
 | [],_=>rfl
 |
  x::l,h=>by
  have ih:=JY (l:=l) (λy hy=>h y (Qg _ hy));simp [Cz,ih,h x (Qx ..)]
theorem LO:∀ {l:Um} {m:Nat} {y:Rat},(∀ j x,m<j->l[j]? = some x->x=0)->l[m]? = some y->y≠0->Cz l=l.take (m+1)
 | [],m,y,_,h,_=>by simp at h
 |
  x::l,0,y,h1,h2,h3=>by
  have h0:Cz l=[]:=JY λz hz=>by
   obtain ⟨j,hj⟩:=Zj.1 hz;exact h1 (j+1) z (by omega) (by simpa using hj)
  simp at h2;subst h2;simp [Cz,h0,h3]
 |
  x::l,m+1,y,h1,h2,h3=>by
  have ih:=LO (l:=l) (m:=m) (y:=y) (λj z hj hz=>h1 (j+1) z (by omega) (by simpa using hz)) (by simpa using h2) h3;cases hl:l with
  | nil=>subst hl; simp at h2
  |
   cons u k =>
   subst hl;rw [Vd] at ih;simp only [Cz] at ih ⊢;rw [ih];simp
theorem qC {l:Um} {m:Nat} (hm:m<=l.length) (h1:∀ j x,m<=j->l[j]? = some x->x=0) (h2:0<m->∃ y,l[m-1]? = some y/\y≠0):Cz l=l.take m:=by
 rcases Q0 m with h0 | h0
 ·subst h0;rw [JY λz hz=>?_]; rfl;obtain ⟨j,hj⟩:=Zj.1 hz;exact h1 j z (by omega) hj
 ·obtain ⟨y,hy,hy0⟩:=h2 h0;have:=LO (l:=l) (m:=m-1) (y:=y) (λj x hj hx=>h1 j x (by omega) hx) hy hy0;rwa [show m-1+1=m from by omega] at this
theorem qL:∀ (l:Um),∀ z∈Cz l,z∈l
 | [],z,h=>h
 |
  x::l,z,h=>by
  simp only [Cz] at h;have ih:=qL l
  split at h
  ·split at h
   ·cases h
   ·simp at h; simp [h]
  ·rename_i y k e;rw [e] at ih;rcases Qm.1 h with h | h
   ·simp [h]
   ·exact Qg _ (ih z h)
theorem qD:∀ (l:Um),(Cz l).length<=l.length
 | []=>Ql _
 |
  x::l=>by
  have ih:=qD l;simp only [Cz]
  split
  ·split <;> simp
  ·rename_i y k e;rw [e] at ih;simp at ih ⊢; omega
def zp (p:Uj):Um:=p.map λ(z:Int)=>(z:Rat)
theorem Ei:∀ (p:Uj),Cz (zp p)=zp (trim p)
 | []=>rfl
 |
  x::l=>by
  have ih:=Ei l;unfold zp at ih ⊢;simp only [Z0,Cz,trim,ih];cases h:trim l with
  |
   nil =>
   simp only [X5];by_cases hx:x=0
   ·subst hx; simp
   ·have:(x:Rat)≠0:=λe=>hx (by exact_mod_cast e)
    simp [hx,this]
  | cons y k=>simp
theorem Au (p:Uj):(zp p).length=p.length:=Q8 _
theorem Qvv {p:Uj} {i:Nat} {z:Int} (h:p[i]? = some z):(zp p)[i]? = some (z:Rat):=by simp [zp,h]
theorem NY (p:Uj) (i:Nat):(zp p).getD i 0=((p.getD i 0:Int):Rat):=by
 simp only [Qi,zp,Q6];cases p[i]? <;> rfl
def Rb (s:Nat) (p:Um):Prop:=∀ q∈p,Qs s q
theorem Rb.mono {s t:Nat} {p:Um} (h:Rb s p) (ht:s<=t):Rb t p:=λq hq=>(h q hq).mono ht
theorem Rb.get {s:Nat} {p:Um} (h:Rb s p) {i:Nat} {q:Rat} (hq:p[i]? = some q):Qs s q:=h q (Qa hq)
theorem Al {s:Nat} {z:Int} (h:Fe z<=s) (h1:1<=s):Qs s (z:Rat):=⟨by simpa using h,Qc (show Fe ((1:Nat):Int)<=1 by decide) h1⟩
theorem qT {s:Nat} {p:Uj} (h:Bd s p) (h1:1<=s):Rb s (zp p):=λq hq=>by
 obtain ⟨z,hz,rfl⟩:=Q9.1 hq;exact Al (h z hz) h1
theorem Qou {s:Nat} (h1:1<=s):Qs s 0:=Al (z:=0) (by simp [M5]) h1
theorem Rb.getD {s:Nat} {p:Um} (h:Rb s p) (h1:1<=s) (i:Nat):Qs s (p.getD i 0):=by
 rw [Qi];cases e:p[i]? with
 | none=>exact Qou h1
 | some q=>exact h.get e
theorem Rb.trim {s:Nat} {p:Um} (h:Rb s p):Rb s (Cz p):=λq hq=>h q (qL p q hq)
def VV (f:Nat->Rat) (n:Nat):Um:=(List.range n).map f
theorem EW (f:Nat->Rat) (n:Nat):(VV f n).length=n:=by simp [VV]
theorem zQ (f:Nat->Rat) (n:Nat):VV f (n+1)=VV f n++[f n]:=by simp [VV,Wc]
theorem Qpo {s n:Nat} {f:Nat->Rat} (h:∀ i,i<n->Qs s (f i)):Rb s (VV f n):=λq hq=>by
 obtain ⟨i,hi,rfl⟩:=Q9.1 hq;exact h i (Kh.1 hi)
theorem yC {f:Nat->Rat} {g:Nat->Int} (n:Nat) (h:∀ i,i<n->f i=(g i:Rat)):VV f n=zp ((List.range n).map g):=by
 simp only [VV,zp,List.map_map];exact Xo λi hi=>h i (Kh.1 hi)
def Qb2 (p q:Um):Um:=Cz (VV (λi=>p.getD i 0+q.getD i 0) (max p.length q.length))
def QB (p:Um) (c:Rat):Um:=Cz (VV (λi=>p.getD i 0*c) p.length)
def yR (p:Um):Um:=QB p (-1)
def Qre (p q:Um):Um:=Qb2 p (yR q)
theorem Qow (p q:Uj):Qb2 (zp p) (zp q)=zp (ZU p q):=by
 unfold Qb2 ZU Av;rw [yC (g:=λk=>p.getD k 0+q.getD k 0) _ λi _=>by rw [NY,NY,Kb],Ei,Au,Au]
theorem qN (p:Uj) (c:Int):QB (zp p) (c:Rat)=zp (Ft p c):=by
 unfold QB Ft Av;rw [yC (g:=λk=>p.getD k 0*c) _ λi _=>by rw [NY,Xw],Ei,Au]
theorem nF (p:Uj):Ft p (-1)=Mk p:=by
 unfold Ft Mk Av;congr 2;funext k;omega
theorem iY (p:Uj):yR (zp p)=zp (Mk p):=by
 rw [<-nF,<-qN]; rfl
theorem wI {p q:Uj} (hp:U9 p) (hq:U9 q) (h:∀ k,p.getD k 0=q.getD k 0):p=q:=by
 have key:∀ {p q:Uj},U9 q->(∀ k,p.getD k 0=q.getD k 0)->q.length<=p.length:=by
  intro p q hq h;rcases Za p.length q.length with h1 | h1
  ·have h2:=H5 hq (by omega);rw [<-h,Qi,Qw (by omega)] at h2;exact (h2 rfl).elim
  ·exact h1
 exact CY (Ka (key hp λk=>(h k).symm) (key hq h)) λj _=>h j
theorem pS {n m:Nat} {f g:Nat->Int} (hn:n<=m) (h:∀ k,k<n->f k=g k) (h0:∀ k,n<=k->k<m->g k=0):Av n f=Av m g:=by
 refine wI (Fv _ _) (Fv _ _) λk=>?_
 rw [Sx,Sx];by_cases h1:k<n
 ·rw [if_pos h1,if_pos (by omega),h k h1]
 ·rw [if_neg h1];by_cases h2:k<m
  ·rw [if_pos h2,h0 k (by omega) h2]
  ·rw [if_neg h2]
theorem Qo5 (p q:Uj):Qre (zp p) (zp q)=zp (Mx p q):=by
 unfold Qre;rw [iY,Qow];congr 1;have hl:=XG q;unfold ZU Mx;refine pS (by omega) (λk _=>?_) λk h1 h2=>?_
 ·unfold Mk;rw [Sx]
  split
  ·omega
  ·rename_i h;have:q.getD k 0=0:=by rw [Qi,Qw (by omega)]; rfl
   omega
 ·have h3:p.getD k 0=0:=by rw [Qi,Qw (by omega)]; rfl
  have h4:(Mk q).getD k 0=0:=by rw [Qi,Qw (by omega)]; rfl
  unfold Mk at h4;rw [Sx] at h4
  split at h4
  ·omega
  ·have:q.getD k 0=0:=by rw [Qi,Qw (by omega)]; rfl
   omega
end Orr
namespace Orr
open Go Go.Proofs Tryz
set_option maxRecDepth 10000
def frow (p:Um):Up:=p.map fr
theorem B8 (p:Um):(frow p).length=p.length:=by simp [frow]
theorem ZI {p:Um} {i:Nat} {q:Rat} (h:p[i]? = some q):(frow p)[i]? = some (fr q):=Gt h
theorem OQ (p:Um) (q:Rat):frow (p++[q])=frow p++[fr q]:=by simp [frow]
theorem Qa8 (p:Um):∀ c∈frow p,c.length=4:=λc hc=>by obtain ⟨x,_,rfl⟩:=Q9.1 hc; rfl
abbrev rp (p:Um):LV:=.row (frow p)
theorem Qbs (q:Rat):∀ c∈[fr q],c.length=4:=λc hc=>by rw [Qk.1 hc]; rfl
theorem Qek:Ug 280 [] [.agg (fr 0)]:=Ud func280 rfl [.k (ZT (n:=0) (by decide))] rfl
theorem VO {p:Um}:Ug 252 [.one (rp p)] [.one (rp (Cz p))]:=by
 refine Fw func252 rfl (ln 0 rfl rfl λhl=>?_);rw [B8] at hl;have hpl:=B8 p;refine Ua [] rfl ?_;refine lp (S:=Nat) 0 (λL1 n=>(3,.v (.oi n))::L1) (λ_=>[]) id (λn=>n<=p.length/\∀ j x,n<=j->p[j]? = some x->x=0) (frow p).length ⟨by rw [hpl]; exact Ql _,λj x h1 h2=>by
  have:=(Qf.1 h2).1; rw [hpl] at h1; omega⟩ rfl (λ_ _=>rfl) rfl λn hs=>?_
 obtain ⟨h1,h2⟩:=hs;cases n with
 |
  zero =>
  have e:=qC h1 (λj x h=>h2 j x h) (λh=>absurd h (by decide));exact Uc [.g 8 false (by simp),.f rfl,.i 0] rfl (by rw [e]; rfl) (by simp [Uz])
 |
  succ n =>
  obtain ⟨x,hx⟩:=gxE (l:=p) (i:=n) (by omega);have hn:=Rat.num_eq_zero (q:=x);by_cases h0:x=0
  ·refine Ub [.g 8 true (by simp),.r 11 (eI (b:=(n:Int)) (by simp)),.x (ZI hx),.k (Df (z:=x.num)),.t (decide_eq_true (hn.2 h0)),.r 18 (eI (b:=(n:Int)) (by simp))] rfl ?_;exact rd n (by simp) ⟨by omega,λj y h3 h4=>by
    rcases Vk h3 with rfl | h3
    ·rw [hx] at h4; injection h4 with h4; rw [<-h4,h0]
    ·exact h2 j y h3 h4⟩ rfl
  ·have e:=qC h1 (λj x h=>h2 j x h) (λ_=>⟨x,hx,h0⟩);exact Uc [.g 8 true (by simp),.r 11 (eI (b:=(n:Int)) (by simp)),.x (ZI hx),.k (Df (z:=x.num)),.f (decide_eq_false λh=>h0 (hn.1 h)),.i (n+1)] rfl (by rw [e]; simp [rp,frow,Js]) (by simp [Uz,hpl] <;> omega)
theorem Qqm {p:Um} {i:Nat} (hi:i<1099511627776):Ug 254 [.one (rp p),.oi i] [.agg (fr (p.getD i 0))]:=by
 have hpl:=B8 p;by_cases h:i<p.length
 ·have e:p.getD i 0=p[i]:=by rw [Qi,Qe h]; rfl
  rw [e];exact Ud func254 rfl [.g 7 false Uh,.F,.x (ZI (Qe h))] rfl
 ·have e:p.getD i 0=0:=by rw [Qi,Qw (by omega)]; rfl
  rw [e];exact Ud func254 rfl [.g 7 false Uh,.T,.k Qek] rfl
theorem Qey:Ug 247 [.one (ids [1])] [.one (rp (zp [1]))]:=by
 have cc:=VO (p:=zp [1]);rw [Ei,show trim [1]=[1] from rfl] at cc;refine Fw func247 rfl ?_;refine Ua [.o 3 60 4] rfl ?_;refine Uf (S:=Nat) 1 (λL1 i=>(7,.v (.oi i))::(3,.v (.one (.orow 0 4 none)))::L1) (λi=>[.row false 60 4 (frow ((zp [1]).take i))]) (λi=>1-i) (λi=>i<=1) 0 (by decide) rfl rfl λi hi=>?_
 rcases (show i=0\/i=1 by omega) with rfl | rfl
 ·refine go tt [.t rfl,.x (l:=idl [1]) (i:=0) (xs:=[.int .i64 1]) rfl,.k (ZT (n:=1) (by decide)),.s (sz:=4) (Qbs _)] rfl (by simp [Uz,frow]) ?_;exact rd 1 (by omega) (by omega) rfl
 ·exact Uc [.f rfl,.k cc] rfl
theorem Qsv {p q:Um} (hp:Rb 20000000 p) (hq:Rb 20000000 q) (hlp:p.length<=1000000) (hlq:q.length<=1000000):Ug 212 [.one (rp p),.one (rp q)] [.one (rp (Qb2 p q))]:=by
 have h1:=B8 p;have h2:=B8 q;obtain ⟨M,hM⟩:=nmE (max p.length q.length);have cc:=VO (p:=VV (λi=>p.getD i 0+q.getD i 0) M);unfold Qb2;rw [<-hM];refine Fw func212 rfl ?_;refine Ua [.o 5 60 4] rfl ?_;refine Uf (S:=Nat) 1 (λL1 i=>(6,.v (.oi i))::(5,.v (.one (.orow 0 4 none)))::L1) (λi=>[.row false 60 4 (frow (VV (λi=>p.getD i 0+q.getD i 0) i))]) (λi=>M-i) (λi=>i<=M) 0 (Qh _) rfl rfl λi hi=>?_
 have hol:(frow (VV (λi=>p.getD i 0+q.getD i 0) i)).length=i:=by rw [B8,EW]
 by_cases h:i<M
 ·refine go tt [.r 12 (eI (b:=(M:Int)) (by omega)),.T,.k (Qqm (p:=p) (i:=i) (by omega)),.k (Qqm (p:=q) (i:=i) (by omega)),.k (Qdd (hp.getD (by decide) i) (hq.getD (by decide) i)),.s (sz:=4) (Qbs _)] rfl (by simp [Uz,hol,-List.getD_eq_getElem?_getD]; omega) ?_;exact rd (i+1) (by omega) h (by rw [zQ,OQ]; rfl)
 ·have e:i=M:=by omega
  rw [e];exact Uc [.r 12 (eI (b:=(M:Int)) (by omega)),.F,.k cc] rfl
theorem BV {p:Um} {c:Rat} (hp:Rb 40000000 p) (hc:Qs 40000000 c) (hlp:p.length<=1000000):Ug 253 [.one (rp p),.agg (fr c)] [.one (rp (QB p c))]:=by
 have h1:=B8 p;have cc:=VO (p:=VV (λi=>p.getD i 0*c) p.length);unfold QB;refine Fw func253 rfl ?_;refine Ua [.o 5 60 4] rfl ?_;refine Uf (S:=Nat) 2 (λL1 i=>(9,.v (.oi i))::(5,.v (.one (.orow 1 4 none)))::L1) (λi=>[.blk 60 (fr c),.row false 60 4 (frow (VV (λi=>p.getD i 0*c) i))]) (λi=>p.length-i) (λi=>i<=p.length) 0 (Qh _) rfl rfl λi hi=>?_
 have hol:(frow (VV (λi=>p.getD i 0*c) i)).length=i:=by rw [B8,EW]
 by_cases h:i<p.length
 ·have hg:p[i]? = some (p.getD i 0):=by rw [Qi,Qe h]; rfl
  refine go tt [.T,.x (ZI hg),.k (Qdr (hp.getD (by decide) i) hc),.s (sz:=4) (Qbs _)] rfl (by simp [Uz,hol,-List.getD_eq_getElem?_getD]; omega) ?_;exact rd (i+1) (by omega) h (by rw [zQ,OQ]; rfl)
 ·have e:i=p.length:=by omega
  rw [e];exact Uc [.F,.k cc] rfl
theorem Qex {p:Um} (hp:Rb 40000000 p) (hlp:p.length<=1000000):Ug 210 [.one (rp p)] [.one (rp (yR p))]:=by
 have cs:=BV (p:=p) (c:=-1) hp ⟨by decide,by decide⟩ hlp;have co:=ZT (n:=-1) (by decide);rw [show ((-1:Int):Rat)=-1 from rfl] at co;exact Ud func210 rfl [.k co,.k cs] rfl
theorem Qos {s t:Nat} {a b:Rat} (ha:Qs s a) (hb:Qs t b):Qs (s+t+1) (a*b):=by
 rw [<-OC];unfold Gw;rw [if_neg (Jm (E4 a) (E4 b))];have h1:=Gh a.num b.num;have h2:=Gh (a.den:Int) (b.den:Int);have:=ha.1; have:=ha.2; have:=hb.1; have:=hb.2;exact Qs.divInt (by omega) (by omega) (by omega)
theorem Qus {s:Nat} {p:Um} (hp:Rb s p):Rb (s+2) (yR p):=by
 unfold yR QB;refine Rb.trim (Qpo λi hi=>?_);have h1:Qs (s+0) (p.getD i 0):=by
  have hi:i<p.length:=hi;rw [Qi,Qe hi];exact hp _ (Xq hi)
 have:=Qos h1 (show Qs 1 (-1:Rat) from ⟨by decide,by decide⟩);exact this.mono (by omega)
theorem Qiz (p:Um):(yR p).length<=p.length:=by
 unfold yR QB;exact Qc (qD _) (by rw [EW]; exact Ql _)
theorem Qds {a b:Int} (ha:Fe a<=40000000) (hb:Fe b<=40000000):Ug 251 [.agg (fr (a:Rat)),.agg (fr (b:Rat))] [.agg (fr ((a*b:Int):Rat))]:=by
 have h:=Qdr (Al ha (by decide)) (Al hb (by decide));rw [<-Xw] at h; exact h
theorem Qr3 {a b:Int} (ha:Fe a<=20000000) (hb:Fe b<=20000000):Ug 37 [.agg (fr (a:Rat)),.agg (fr (b:Rat))] [.agg (fr ((a+b:Int):Rat))]:=by
 have h:=Qdd (Al ha (by decide)) (Al hb (by decide));rw [<-Kb] at h; exact h
theorem uV (l:Uj) (i:Nat) (z:Int):(frow (zp l)).set i (fr (z:Rat))=frow (zp (l.set i z)):=by simp [frow,zp,Vs]
theorem Qkn {p:Uj} {i:Nat} (h:i<p.length):(zp p)[i]? = some ((p.getD i 0:Int):Rat):=Qvv (Ra h)
theorem Tx {p:Uj} {i:Nat} (h:i<p.length):(frow (zp p))[i]? = some (fr ((p.getD i 0:Int):Rat)):=ZI (Qkn h)
theorem OZ (p:Uj):(frow (zp p)).length=p.length:=by rw [B8,Au]
abbrev zR:Uo:=[.nils,.bool false,.nils,.bool false]
theorem xB {n i:Nat} (h:i<n):(List.replicate i (fr 0)++List.replicate (n-i) zR).set i (fr 0)=List.replicate (i+1) (fr 0)++List.replicate (n-(i+1)) zR:=by
 rw [List.set_append_right _ _ (by simp),Jb,Kg,show n-i=n-(i+1)+1 by omega,J0 (n:=n-(i+1)),List.set_cons_zero,List.replicate_succ' (n:=i),Zb]; rfl
theorem ER (n:Nat):List.replicate n (fr 0)++List.replicate (n-n) zR=frow (zp (List.replicate n 0)):=by simp [zp,frow]
theorem Qsx {p q:Uj} {s t:Nat} (hlp:p.length<=1000000) (hlq:q.length<=1000000) (hp:Bd s p) (hq:Bd t q) (hst:s+t<=19000000):Ug 249 [.one (rp (zp p)),.one (rp (zp q))] [.one (rp (zp (Gk p q)))]:=by
 have hpl:=OZ p;have hql:=OZ q;rcases Q0 p.length with h0 | h0
 ·have e:Gk p q=[]:=by unfold Gk; rw [if_pos (.inl h0)]
  rw [e];exact Ud func249 rfl [.g 12 true Ui,.t rfl] rfl
 rcases Q0 q.length with h1 | h1
 ·have e:Gk p q=[]:=by unfold Gk; rw [if_pos (.inr h1)]
  rw [e];exact Ud func249 rfl [.g 12 false Uh,.T] rfl
 have e:Gk p q=trim (Aj p q (List.replicate (p.length+q.length-1) 0) p.length):=by unfold Gk; rw [if_neg (by omega)]
 rw [e];obtain ⟨N,hN⟩:=nmE (p.length+q.length-1);rw [<-hN];obtain ⟨o,ho⟩:=nmE (List.replicate N (0:Int));rw [<-ho];have hol:o.length=N:=by rw [ho]; simp
 have ho0:∀ m,o.getD m 0=0:=λm=>by rw [ho]; exact B9 N m
 have cc:=VO (p:=zp (Aj p q o p.length));rw [Ei] at cc;refine Fw func249 rfl ?_;refine Ub [.g 12 false Uh,.F,.r 22 (eI (b:=(N:Int)) (by omega)),.i N,.i N,.r 25 (eI (b:=(N:Int)) (by simp))] rfl ?_;refine Uf (S:=Nat) 1 (λL1 i=>(26,.v (.oi i))::L1) (λi=>[.row false 60 4 (List.replicate i (fr 0)++List.replicate (N-i) zR)]) (λi=>N-i) (λi=>i<=N) 0 (Qh _) rfl rfl λi hi=>?_
 by_cases hlt:i<N
 ·refine Ub [.T,.k Qek,.i i] rfl ?_;rw [xB hlt];exact rd (i+1) (by omega) hlt rfl
 have hiN:i=N:=by omega
 rw [hiN,ER,<-ho];clear hiN hlt hi;refine Ua [.F] rfl ?_;refine Uf (S:=Nat) 1 (λL1 i=>(36,.v (.oi i))::L1) (λi=>[.row false 60 4 (frow (zp (Aj p q o i)))]) (λi=>p.length-i) (λi=>i<=p.length) 0 (Qh _) rfl rfl λi hi=>?_
 by_cases hlt:i<p.length
 ·refine Ua [.T] rfl ?_;refine Uf (S:=Nat) 1 (λL1 k=>(41,.v (.oi k))::L1) (λk=>[.row false 60 4 (frow (zp (I8 (p.getD i 0) q i (Aj p q o i) k)))]) (λk=>q.length-k) (λk=>k<=q.length) 0 (Qh _) rfl rfl λk hk=>?_
  by_cases hk2:k<q.length
  ·have hm1:Fe ((I8 (p.getD i 0) q i (Aj p q o i) k).getD (i+k) 0)<=20000000:=Qc (Ij (t:=39) (jT (by rw [D4]; omega) (jR (λj hj=>by omega) ho0 (λi j=>M8 (Fo hp i) (Fo hq j))) (λj=>M8 (Fo hp i) (Fo hq j)) (i+k)) (Kf (show i+1<549755813888 by omega) (by decide))) (by omega);have hm2:Fe (p.getD i 0*q.getD k 0)<=20000000:=Qc (Gh _ _) (by have:=Fo hp i; have:=Fo hq k; omega);have hml:(I8 (p.getD i 0) q i (Aj p q o i) k).length=N:=by rw [I9,D4,hol]
   have cm:=Qds (a:=p.getD i 0) (b:=q.getD k 0) (Qc (Fo hp i) (by omega)) (Qc (Fo hq k) (by omega));have hfl:=OZ (I8 (p.getD i 0) q i (Aj p q o i) k);refine go tt [.T,.i (i+k),.x (Tx (p:=I8 (p.getD i 0) q i (Aj p q o i) k) (i:=i+k) (by omega)),.x (Tx hlt),.x (Tx hk2),.k cm,.k (Qr3 hm1 hm2),.i (i+k)] rfl (by simp [Uz,hfl,-List.getD_eq_getElem?_getD] <;> omega) ?_;rw [uV];exact rd (k+1) (by omega) hk2 rfl
  ·obtain rfl:k=q.length:=by omega
   exact go tt [.F] rfl (by simp [Uz]; omega) (rd (i+1) (by omega) hlt rfl)
 ·obtain rfl:i=p.length:=by omega
  exact Uc [.F,.k cc] rfl
def wP (p:Uj) (n:Nat):Uj:=(List.range n).map λk=>p.getD (k+1) 0*((k+1:Nat):Int)
theorem Qfs (p:Uj) (n:Nat):(wP p n).length=n:=by simp [wP]
theorem Qa2 (p:Uj) (n:Nat):wP p (n+1)=wP p n++[p.getD (n+1) 0*((n+1:Nat):Int)]:=by simp [wP,Wc]
theorem vF (p:Uj) (z:Int):frow (zp (p++[z]))=frow (zp p)++[fr (z:Rat)]:=by simp [frow,zp]
theorem Qew {p:Uj} (hp:Bd 40000000 p) (hl:p.length<=1000000):Ug 209 [.one (rp (zp p))] [.one (rp (zp (Gu p)))]:=by
 have hpl:=OZ p;have cc:=VO (p:=zp (wP p (p.length-1)));rw [Ei] at cc;refine Fw func209 rfl ?_;refine Ua [.o 3 60 4] rfl ?_;refine Uf (S:=Nat) 1 (λL1 j=>(4,.v (.oi ((j+1:Nat):Int)))::(3,.v (.one (.orow 0 4 none)))::L1) (λj=>[.row false 60 4 (frow (zp (wP p j)))]) (λj=>p.length-j) (λj=>j<=p.length-1) 0 (Qh _) rfl rfl λj hj=>?_
 have hfl:=OZ (wP p j);rw [Qfs] at hfl;by_cases h:j+1<p.length
 ·have hk:Fe ((j+1:Nat):Int)<=40000000:=Qc (jZ (t:=38) (k:=j+1) (Kf (show j+1<274877906944 by omega) (by decide))) (by decide);refine go tt [.T,.x (Tx h),.k (ZT (n:=((j+1:Nat):Int)) (by omega)),.k (Qds (Fo hp (j+1)) hk),.s (sz:=4) (Qbs _)] rfl (by simp [Uz,hfl,-List.getD_eq_getElem?_getD] <;> omega) ?_;exact rd (j+1) (by omega) (by omega) (by rw [Qa2,vF]; rfl)
 ·have e:j=p.length-1:=by omega
  rw [e];exact Uc [.F,.k cc] rfl
theorem Qo1:[LV.nils,LV.bool false].map UL=ri 0:=by
 show _=[nd 0,sg 0];unfold nd dl;rw [Hy]; rfl
end Orr
namespace Orr
def Hd (p:Uj):Int:=p.getD (p.length-1) 0
def LI (a b:Uj):Int:=if Hd b<0 then -(Hd a) else Hd a
def WZ (a b:Uj) (i:Nat):Int:=a.getD i 0*((Hd b).natAbs:Int)-(if a.length-b.length<=i then LI a b*b.getD (i-(a.length-b.length)) 0 else 0)
def rU (a b:Uj):Uj:=Av a.length (WZ a b)
inductive RRun (b:List Int):Nat->List Int->List Int->Prop
 | stop {a:List Int}:a.length<b.length->RRun b 0 a a
 | step {k:Nat} {a r:List Int}:b.length<=a.length->a.length<=1000->Bd 9000000 a->Bd 9000000 b->RRun b k (rU a b) r->RRun b (k+1) a r
def Iv (p:Uj):Nat->Nat
 | 0=>0
 | i+1=>Int.gcd (Iv p i:Nat) (p.getD i 0)
def UQ (p:Uj):Nat:=Iv p p.length
theorem HZ (p:Uj):∀ {i j:Nat},j<i->((Iv p i:Nat):Int)∣p.getD j 0
 | 0,_,h=>absurd h (Nat.not_lt_zero _)
 |
  i+1,j,h=>by
  simp only [Iv];rcases Za j i with h1 | h1
  ·exact V4 (Int.gcd_dvd_left ..) (HZ p h1)
  ·rw [show j=i by omega]; exact Wu ..
theorem wQ (p:Uj) (j:Nat):((UQ p:Nat):Int)∣p.getD j 0:=by
 rcases Za j p.length with h | h
 ·exact HZ p h
 ·rw [Qi,Qw h]; exact Int.dvd_zero _
theorem ZM {s:Nat} {p:Uj} (h:Bd s p):∀ i,Fe ((Iv p i:Nat):Int)<=s
 | 0=>by simp [Iv,M5]
 |
  i+1=>by
  simp only [Iv];by_cases h0:p.getD i 0=0
  ·rw [h0,Int.gcd_zero_right]; exact ZM h i
  ·have h1:=Wu (Iv p i:Nat) (p.getD i 0);have h2:(Int.gcd (Iv p i:Nat) (p.getD i 0))<=(p.getD i 0).natAbs:=Ku (by omega) (by simpa using Xy.2 h1);have h3:=Fo h i;rw [Si] at h3 ⊢;simp only [Xg];omega
theorem Qau {p:Uj} {j i:Nat} (hj:j<i) (h:p.getD j 0≠0):0<Iv p i:=by
 have:=HZ p hj;rcases Q0 (Iv p i) with h0 | h0
 ·rw [h0] at this;exact absurd (Int.zero_dvd.1 this) h
 ·exact h0
theorem wZ {p:Uj} (ht:U9 p) (h:0<p.length):0<UQ p:=Qau (j:=p.length-1) (by omega) (H5 ht h)
def Lu (p:Uj):Int:=if Hd p<0 then -((UQ p:Nat):Int) else ((UQ p:Nat):Int)
def Td (p:Uj):Uj:=Av p.length λi=>p.getD i 0 / Lu p
def Ny (p:Uj):Uj:=if Hd p<0 then Mk (Td p) else Td p
theorem Qa6 (p:Uj) (j:Nat):Lu p∣p.getD j 0:=by
 unfold Lu
 split
 ·exact W9.2 (wQ p j)
 ·exact wQ p j
theorem Qf7 {p:Uj} (ht:U9 p) (h:0<p.length):Lu p≠0:=by
 have:=wZ ht h;unfold Lu
 split <;> omega
theorem IR {s:Nat} {p:Uj} (h:Bd s p):Fe (Lu p)<=s:=by
 unfold Lu
 split
 ·rw [Hw]; exact ZM h _
 ·exact ZM h _
theorem bZ {p:Uj} {c:Int} (hc:c≠0) (hd:∀ j,c∣p.getD j 0):QB (zp p) (1 / (c:Rat))=zp (Av p.length λi=>p.getD i 0 / c):=by
 unfold QB Av;rw [yC (g:=λi=>p.getD i 0 / c) _ λi _=>?_,Ei,Au];obtain ⟨k,hk⟩:=hd i;have hc':(c:Rat)≠0:=λe=>hc (by exact_mod_cast e)
 rw [NY,hk,Ja _ hc,Xw];grind
theorem NS {s:Nat} {p:Uj} (h:Bd s p):Bd s (Td p):=JB λi _=>Qc (XK _ _) (Fo h i)
theorem HI (p:Uj):(Td p).length<=p.length:=Iz _ _
theorem oU {s:Nat} {p:Uj} (h:Bd s p):Bd s (Ny p):=by
 unfold Ny
 split
 ·exact PS (NS h)
 ·exact NS h
theorem mU (p:Uj):(Ny p).length<=p.length:=by
 unfold Ny
 split
 ·exact Qc (XG _) (HI p)
 ·exact HI p
inductive GRun:Nat->List Int->List Int->List Int->Prop
 | stop (a:List Int):GRun 0 a [] a
 | step {k m:Nat} {a b r g:List Int}:0<b.length->b.length<=1000->Bd 9000000 b->RRun b m a r->r.length<=1000->Bd 9000000 r->U9 r->GRun k b (Td r) g->GRun (k+1) a b g
theorem GRun.inv {k:Nat} {a b g:Uj} (h:GRun k a b g):(k=0/\b.length=0/\a=g)\/∃ j m r,k=j+1/\0<b.length/\b.length<=1000/\Bd 9000000 b/\RRun b m a r/\r.length<=1000/\Bd 9000000 r/\U9 r/\GRun j b (Td r) g:=by
 cases h with
 | stop=>exact .inl ⟨rfl,rfl,rfl⟩
 | step h1 h2 h3 h4 h5 h6 h7 h8=>exact .inr ⟨_,_,_,rfl,h1,h2,h3,h4,h5,h6,h7,h8⟩
def QC (k:Nat) (p:Uj):Uj:=List.replicate k 0++p
theorem bW (k:Nat) (p:Uj):(QC k p).length=k+p.length:=by simp [QC]
theorem oG {s k:Nat} {p:Uj} (h:Bd s p):Bd s (QC k p):=λz hz=>by
 rcases Qq.1 hz with h1 | h1
 ·rw [Zx h1,M5]; exact Qh _
 ·exact h z h1
inductive DRun (b:List Int):Nat->List Int->List Int->List Int->List Int->Prop
 | stop {a q:List Int}:a.length<b.length->DRun b 0 a q q a
 | step {k:Nat} {a q qf r:List Int}:b.length<=a.length->a.length<=1000->Bd 9000000 a->Hd b≠0->Hd b∣Hd a->a.length-b.length<q.length ->
  DRun b k (Mx a (QC (a.length-b.length) (Ft b (Hd a / Hd b)))) (q.set (a.length-b.length) (Hd a / Hd b)) qf r->DRun b (k+1) a q qf r
theorem DRun.inv {b a q qf r:Uj} {k:Nat} (h:DRun b k a q qf r):(k=0/\q=qf/\a=r/\a.length<b.length)\/∃ j,k=j+1/\b.length<=a.length/\a.length<=1000/\Bd 9000000 a/\Hd b≠0/\Hd b∣Hd a/\a.length-b.length<q.length /\
 DRun b j (Mx a (QC (a.length-b.length) (Ft b (Hd a / Hd b)))) (q.set (a.length-b.length) (Hd a / Hd b)) qf r:=by
 cases h with
 | stop h=>exact .inl ⟨rfl,rfl,rfl,h⟩
 | step h1 h2 h3 h4 h5 h6 h7=>exact .inr ⟨_,rfl,h1,h2,h3,h4,h5,h6,h7⟩
def Ms (l:Uk):Uj:=l.getD (l.length-1) []
inductive LRun:Nat->List (List Int)->List (List Int)->Prop
 | stop {l:List (List Int)}:(Ms l).length<=1->LRun 0 l l
 | step {k m:Nat} {l f:List (List Int)} {g:List Int}:1<(Ms l).length->(Ms l).length<=1000->U9 (Ms l)->Bd 9000000 (Ms l)->Bd 9000000 (Gu (Ms l))->GRun m (Td (Ms l)) (Td (Gu (Ms l))) g->l.length<=1000->LRun k (l++[g]) f->LRun (k+1) l f
theorem LRun.inv {k:Nat} {l f:Uk} (h:LRun k l f):(k=0/\l=f/\(Ms l).length<=1)\/∃ j m g,k=j+1/\1<(Ms l).length/\(Ms l).length<=1000/\U9 (Ms l)/\Bd 9000000 (Ms l)/\Bd 9000000 (Gu (Ms l))/\GRun m (Td (Ms l)) (Td (Gu (Ms l))) g/\l.length<=1000/\LRun j (l++[g]) f:=by
 cases h with
 | stop h=>exact .inl ⟨rfl,rfl,h⟩
 | step h1 h2 h3 h4 h5 h6 h7 h8=>exact .inr ⟨_,_,_,rfl,h1,h2,h3,h4,h5,h6,h7,h8⟩
def DOk (a b q:Uj):Prop:=0<b.length/\b.length<=1000/\a.length<=1000/\Bd 9000000 b/\∃ qf r n,Bd 9000000 qf/\qf.length<=1000/\DRun b n a (List.replicate (a.length+1-b.length) 0) qf r/\q=trim qf
theorem DOk.bd {a b q:Uj} (h:DOk a b q):Bd 9000000 q:=by
 obtain ⟨_,_,_,_,qf,r,n,h1,_,_,rfl⟩:=h;exact Sr h1
theorem DOk.len {a b q:Uj} (h:DOk a b q):q.length<=1000:=by
 obtain ⟨_,_,_,_,qf,r,n,_,h1,_,rfl⟩:=h;exact Qc (Rq _) h1
theorem DOk.trim {a b q:Uj} (h:DOk a b q):U9 q:=by
 obtain ⟨_,_,_,_,qf,r,n,_,_,_,rfl⟩:=h;exact Tj _
def Qv2 (a b c f:Uj):Prop:=∃ x y z,DOk a b x/\DOk b c y/\DOk (Td x) (Td y) z/\f=Td z
structure FRun (a:List Int) (m:Nat) (f:Nat->List Int):Prop where
 run:∃ n l,LRun n [Td a] l/\l.length=m+1/\∀ k,k<m->Qv2 ((l++[[1]]).getD k []) ((l++[[1]]).getD (k+1) []) ((l++[[1]]).getD (k+2) []) (f k)
 small:m<=1000
def EK (f:Nat->Uj) (n:Nat):Uk:=(List.range n).map f
theorem rD (f:Nat->Uj) (n:Nat):(EK f n).length=n:=by simp [EK]
theorem Qce (f:Nat->Uj) (n:Nat):EK f (n+1)=EK f n++[f n]:=by simp [EK,Wc]
theorem Qjz {f:Nat->Uj} {n i:Nat} (h:i<n):(EK f n)[i]? = some (f i):=by simp [EK,Xx h]
theorem pO {l:Uk} {i:Nat} (h:i<l.length):l[i]? = some (l.getD i []):=by
 rw [Qi,Qe h]; rfl
def Oi (f:Nat->Uj):Nat->Uj
 | 0=>[1]
 | i+1=>Gk (Oi f i) (f i)
def Qv1 (m:Nat) (f:Nat->Uj):Prop:=∀ i,i<m->Bd 9000000 (Oi f i)/\(Oi f i).length<=1000/\Bd 9000000 (f i)/\(f i).length<=1000
inductive CRun:Nat->List (List Int)->List Int->List (List Int)->Prop
 | stop {l:List (List Int)} {g:List Int}:g.length=0->CRun 0 l g l
 | step {k m:Nat} {l f:List (List Int)} {g r:List Int}:0<g.length->g.length<=1000->Bd 9000000 g->RRun g m (Ms l) r->U9 r->Bd 9000000 r->r.length<=1000->0<l.length->l.length<=1000->CRun k (l++[g]) (Mk (Ny r)) f->CRun (k+1) l g f
theorem CRun.inv {k:Nat} {l f:Uk} {g:Uj} (h:CRun k l g f):(k=0/\l=f/\g.length=0)\/∃ j m r,k=j+1/\0<g.length/\g.length<=1000/\Bd 9000000 g/\RRun g m (Ms l) r/\U9 r/\Bd 9000000 r/\r.length<=1000/\0<l.length/\l.length<=1000/\CRun j (l++[g]) (Mk (Ny r)) f:=by
 cases h with
 | stop h=>exact .inl ⟨rfl,rfl,h⟩
 | step h1 h2 h3 h4 h5 h6 h7 h8 h9 h10=>exact .inr ⟨_,_,_,rfl,h1,h2,h3,h4,h5,h6,h7,h8,h9,h10⟩
structure ChRun (a:List Int) (sq:List Int) (c:List (List Int)):Prop where
 fac:∃ m f,FRun a m f/\Qv1 m f/\sq=Oi f m
 Ls:∃ n,CRun n [sq] (Ny (Gu sq)) c
 bd:Bd 8000000 sq
 len:sq.length<=1000
 small:c.length<=1000
def Qcv (q:Rat) (c:Uk):Prop:=∃ sq,ChRun [-q.num,(q.den:Int)] sq c
end Orr
namespace Orr
open Go Go.Proofs Tryz
set_option maxRecDepth 10000
theorem RRun.inv {b a r:Uj} {k:Nat} (h:RRun b k a r):(k=0/\a=r/\a.length<b.length)\/(∃ j,k=j+1/\b.length<=a.length/\a.length<=1000/\Bd 9000000 a/\Bd 9000000 b/\RRun b j (rU a b) r):=by
 cases h with
 | stop h=>exact .inl ⟨rfl,rfl,h⟩
 | step h1 h2 h3 h4 h5=>exact .inr ⟨_,rfl,h1,h2,h3,h4,h5⟩
theorem Qo6 {a b:Uj} (ha:Bd 9000000 a):Fe (LI a b)<=9000000:=by
 unfold LI; split
 ·rw [Hw]; exact Fo ha _
 ·exact Fo ha _
theorem Qo0 (n:Nat):ri (n:Int)=[nd n,.bool false]:=by
 show [nd n,sg (n:Int)]=_;unfold sg;rw [decide_eq_false (by omega)]
def yS (a b:Uj) (n:Nat):Uj:=(List.range n).map (WZ a b)
theorem Qi6 (a b:Uj) (n:Nat):(yS a b n).length=n:=by simp [yS]
theorem qB (a b:Uj) (n:Nat):yS a b (n+1)=yS a b n++[WZ a b n]:=by simp [yS,Wc]
theorem dH {a0 b res:Uj} {n:Nat} (hb0:0<b.length) (hb1:b.length<=1000) (hbb0:Bd 9000000 b) (hrun:RRun b n a0 res):Ug 211 [.one (rp (zp a0)),.one (rp (zp b))] [.one (rp (zp res))]:=by
 have hbl:=OZ b;have hle:Fe (((Hd b).natAbs:Nat):Int)<=9000000:=Fo hbb0 _;refine Fw func211 rfl ?_;refine Ub [.r 15 (eI (b:=((b.length-1:Nat):Int)) (by omega)),.x (Tx (p:=b) (i:=b.length-1) (by omega))] rfl ?_;refine sb [(0,.v (.one (rp (zp a0)))),(1,.v (.one (rp (zp b)))),(5,.v (.one (.ow 0 0))),(6,.v (.one (.ow 1 0)))] [.blk 58 (ri (Hd b)),.blk 58 [nd (Hd b).natAbs,.bool false]] rfl rfl ?_;refine Uf (S:=Nat×Uj) 2 (λL1 s=>(0,.v (.one (rp (zp s.2))))::L1) (λ_=>[.blk 58 (ri (Hd b)),.blk 58 [nd (Hd b).natAbs,.bool false]]) (λs=>s.1) (λs=>RRun b s.1 s.2 res) (n,a0) hrun rfl rfl λ⟨k,a⟩ hs=>?_
 have hal:=OZ a;have hs:RRun b k a res:=hs;rcases RRun.inv hs with ⟨rfl,rfl,h1⟩ | ⟨j,rfl,h1,h2,ha,hb,hr⟩
 ·exact Uc [.f (decide_eq_false (by dsimp only; omega))] rfl
 obtain ⟨K,hK⟩:=nmE (a.length-b.length);have htb:=Qo6 (b:=b) ha;have cc:=VO (p:=zp (yS a b a.length));rw [Ei,show trim (yS a b a.length)=rU a b from rfl] at cc;refine Ub [.t (decide_eq_true (by dsimp only; omega)),.r 30 (eI (b:=(K:Int)) (by dsimp only; omega)),.r 34 (eI (b:=((a.length-1:Nat):Int)) (by dsimp only; omega)),.x (Tx (p:=a) (i:=a.length-1) (by omega))] rfl ?_;refine ct 1 (S:=Unit) (λ_=>[(0,.v (.one (rp (zp a)))),(1,.v (.one (rp (zp b)))),(5,.v (.one (.ow 0 0))),(6,.v (.one (.ow 1 0))),(7,.v (.oi K)),(8,.v (.one (.ow 2 0)))]) (λ_=>[.blk 58 (ri (Hd b)),.blk 58 [nd (Hd b).natAbs,.bool false],.blk 58 (ri (LI a b))]) (λ_=>True) rfl ?_ (λ_ _=>?_)
 ·by_cases hn:Hd b<0
  ·have e:LI a b=-(Hd a):=if_pos hn;rw [e];exact go tt [.t (decide_eq_true hn),.k (O7 (z:=Hd a))] rfl trivial (rc () trivial rfl)
  ·have e:LI a b=Hd a:=if_neg hn;rw [e];exact go tt [.f (decide_eq_false hn)] rfl trivial (rc () trivial rfl)
 refine Ua [.o 9 60 4] rfl ?_;refine Uf (S:=Nat) 4 (λL1 i=>(44,.v (.oi i))::(9,.v (.one (.orow 3 4 none)))::L1) (λi=>[.blk 58 (ri (Hd b)),.blk 58 [nd (Hd b).natAbs,.bool false],.blk 58 (ri (LI a b)),.row false 60 4 (frow (zp (yS a b i)))]) (λi=>a.length-i) (λi=>i<=a.length) 0 (Qh _) rfl rfl λi hi=>?_
 have hfl:=OZ (yS a b i);rw [Qi6] at hfl;by_cases h:i<a.length
 ·have cm:=Ex (a:=a.getD i 0) (b:=(((Hd b).natAbs:Nat):Int)) (Qc (Fo ha i) (by decide)) (by omega);have hm:=Gh (a.getD i 0) (((Hd b).natAbs:Nat):Int);have hai:=Fo ha i;rw [Qo0 (Hd b).natAbs] at cm;by_cases hk:K<=i
  ·have hbi:=Fo hb (i-K);have hm2:=Gh (LI a b) (b.getD (i-K) 0);have e:WZ a b i=a.getD i 0*(((Hd b).natAbs:Nat):Int)-LI a b*b.getD (i-K) 0:=by unfold WZ; rw [if_pos (by omega),hK]
   refine go tt [.T,.x (Tx h),.k cm,.T,.r 62 (eI (b:=((i-K:Nat):Int)) (by omega)),.x (Tx (p:=b) (i:=i-K) (by omega)),.k (Ex (a:=LI a b) (b:=b.getD (i-K) 0) (by omega) (by omega)),.k (Qsq (by omega) (by omega)),.k (VH (n:=1) (by decide)),.k (Ew (n:=a.getD i 0*(((Hd b).natAbs:Nat):Int)-LI a b*b.getD (i-K) 0)),.s (sz:=4) (Qbs _)] rfl (by simp [Uz,hfl,-List.getD_eq_getElem?_getD] <;> omega) ?_;exact rd (i+1) (by omega) h (by rw [qB,vF,e]; rfl)
  ·have e:WZ a b i=a.getD i 0*(((Hd b).natAbs:Nat):Int):=by unfold WZ; rw [if_neg (by omega),Int.sub_zero]
   refine go tt [.T,.x (Tx h),.k cm,.F,.k (VH (n:=1) (by decide)),.k (Ew (n:=a.getD i 0*(((Hd b).natAbs:Nat):Int))),.s (sz:=4) (Qbs _)] rfl (by simp [Uz,hfl,-List.getD_eq_getElem?_getD] <;> omega) ?_;exact rd (i+1) (by omega) h (by rw [qB,vF,e]; rfl)
 ·have e:i=a.length:=by omega
  rw [e];exact go tt [.F,.k cc] rfl trivial (rd (j,rU a b) (by omega) hr rfl)
theorem Qsu:Ug 63 [.agg (ri 1),.agg (ri 1)] [.agg (ri 1)]:=Ex (a:=1) (b:=1) (by decide) (by decide)
theorem Qmk:Ug 104 [.agg (ri 1),.agg (ri 1)] [.agg (ri 1)]:=xZ (a:=1) (b:=1) (by decide) (by decide)
theorem Qlx {z:Int} (hz:Fe z<=90000000):Ug 63 [.agg (ri z),.agg (ri 1)] [.agg (ri z)]:=by
 have h:=Ex (a:=z) (b:=1) (by omega) (by decide);rwa [W8] at h
theorem dX {z:Int} (hz:Fe z<=90000000):Ug 105 [.agg (ri z),.agg (ri 1)] [.agg (ri z)]:=by
 have h:=BX (a:=z) (b:=1) hz (by decide) (by decide) (Int.emod_one z);rwa [Int.ediv_one] at h
theorem Qdt {z:Int}:Ug 70 [.agg (fr (z:Rat))] [.agg (fr ((-z:Int):Rat))]:=by
 have h:=Qsf (a:=(z:Rat));rwa [<-Vm] at h
theorem Quq {c:Int} (hc:c≠0) (hs:Fe c<=9000000):Qs 40000000 (((1:Int):Rat) / (c:Rat)):=by
 have h0:(c:Rat)≠0:=λe=>hc (by exact_mod_cast e)
 rw [<-qH h0];unfold Gw;rw [if_neg (Jm (E4 _) (λe=>hc (by simpa using e)))];refine Qs.divInt (by show Fe (1*1)<=_; decide) ?_ (by decide);show Fe (1*c)<=_;rw [Kq]; omega
theorem sN {p:Uj} {c:Int} (hc:c≠0) (hs:Fe c<=9000000) (hd:∀ j,c∣p.getD j 0) (hp:Bd 9000000 p) (hl:p.length<=1000):Ug 253 [.one (rp (zp p)),.agg (fr (((1:Int):Rat) / (c:Rat)))] [.one (rp (zp (Av p.length λi=>p.getD i 0 / c)))]:=by
 have h:=BV ((qT hp (by omega)).mono (by omega)) (Quq hc hs) (by rw [Au]; omega);rwa [show ((1:Int):Rat)=1 from rfl,bZ hc hd] at h
theorem QQ {p:Uj} (tp:U9 p) (hp:Bd 9000000 p) (hl:p.length<=1000):Ug 250 [.one (rp (zp p))] [.agg (fr ((Lu p:Int):Rat)),.one (rp (zp (Td p)))]:=by
 have hpl:=OZ p;rcases Q0 p.length with h0 | h0
 ·have e:=Qj h0;subst e;exact Ud func250 rfl [.t rfl,.k Qek] rfl
 have hc:=Qf7 tp h0;refine Fw func250 rfl ?_;refine Ua [.F,.k (VH (n:=1) (by decide))] rfl ?_;refine Uf (S:=Nat) 2 (λL1 i=>(16,.v (.oi i))::L1) (λi=>[.blk 60 [.nils,.bool false,.nils,.bool false],.blk 58 (ri 1)]) (λi=>p.length-i) (λi=>i<=p.length) 0 (Qh _) rfl rfl λi hi=>?_
 by_cases h:i<p.length
 ·refine Ub [.T,.x (Tx h),.k Qsu,.x (Tx h),.k Qmk,.k (dX (z:=1) (by decide))] rfl ?_;exact rd (i+1) (by omega) h rfl
 refine Ua [.F] rfl ?_;clear h hi;refine nlb 2 rfl rfl rfl ?_;rw [Qo1];refine Uf (S:=Nat) 3 (λL1 i=>(37,.v (.oi i))::L1) (λi=>[.blk 60 [.nils,.bool false,.nils,.bool false],.blk 58 (ri 1),.blk 58 (ri ((Iv p i:Nat):Int))]) (λi=>p.length-i) (λi=>i<=p.length) 0 (Qh _) rfl rfl λi hi=>?_
 by_cases h:i<p.length
 ·have hb:=Fo hp i;have hg:=ZM hp i;refine Ub [.T,.x (Tx h),.k (Qlx (z:=p.getD i 0) (by omega)),.x (Tx h),.k (dX (z:=p.getD i 0) (by omega)),.k (xZ (a:=((Iv p i:Nat):Int)) (b:=p.getD i 0) (by omega) (by omega))] rfl ?_;exact rd (i+1) (by omega) h rfl
 have e:i=p.length:=by omega
 rw [e];have co:=ZT (n:=1) (by decide);have cs:=sN hc (IR hp) (Qa6 p) hp hl;by_cases hn:Hd p<0
 ·have e2:Lu p=-((UQ p:Nat):Int):=if_pos hn;rw [show (λi=>p.getD i 0 / Lu p)=λi=>p.getD i 0 / Lu p from rfl] at cs;have cn:=Qdt (z:=((UQ p:Nat):Int));rw [<-e2] at cn;exact Uc [.F,.k (Ew (n:=((UQ p:Nat):Int))),.r 62 (eI (b:=((p.length-1:Nat):Int)) (by omega)),.x (Tx (p:=p) (i:=p.length-1) (by omega)),.t (decide_eq_true hn),.k cn,.k co,.k (sM (a:=((1:Int):Rat)) (b:=((Lu p:Int):Rat)) ⟨by decide,by decide⟩ (Al (by have:=IR hp; omega) (by decide)) (λe=>hc (by exact_mod_cast e))),.k cs] rfl rfl (by simp [Uz]; omega)
 ·have e2:Lu p=((UQ p:Nat):Int):=if_neg hn;have cm:=Ew (n:=Lu p);rw [e2] at cm cs hc ⊢;exact Uc [.F,.k cm,.r 62 (eI (b:=((p.length-1:Nat):Int)) (by omega)),.x (Tx (p:=p) (i:=p.length-1) (by omega)),.f (decide_eq_false hn),.k co,.k (sM (a:=((1:Int):Rat)) (b:=((((UQ p:Nat):Int):Int):Rat)) ⟨by decide,by decide⟩ (Al (by have:=ZM hp p.length; unfold UQ; omega) (by decide)) (λe=>hc (by exact_mod_cast e))),.k cs] rfl (by unfold Td; rw [e2]; rfl) (by simp [Uz]; omega)
theorem O9 {p:Uj} (tp:U9 p) (hp:Bd 9000000 p) (hl:p.length<=1000):Ug 277 [.one (rp (zp p))] [.one (rp (zp (Td p)))] :=
 Ud func277 rfl [.k (QQ tp hp hl)] rfl
theorem IT {p:Uj} (tp:U9 p):Lu p<0↔Hd p<0:=by
 unfold Lu;rcases Q0 p.length with h0 | h0
 ·have:=Qj h0; subst this; decide
 ·have:=wZ tp h0
  split <;> omega
theorem Qet {p:Uj} (hp:Bd 9000000 p) (hl:p.length<=1000000):Ug 210 [.one (rp (zp p))] [.one (rp (zp (Mk p)))]:=by
 have h:=Qex ((qT hp (by decide)).mono (by decide)) (by rw [Au]; exact hl);rwa [iY] at h
theorem kN {p:Uj} (tp:U9 p) (hp:Bd 9000000 p) (hl:p.length<=1000):Ug 208 [.one (rp (zp p))] [.one (rp (zp (Ny p)))]:=by
 by_cases hn:Hd p<0
 ·have e:Ny p=Mk (Td p):=if_pos hn;rw [e];exact Ud func208 rfl [.k (QQ tp hp hl),.t (decide_eq_true ((IT tp).2 hn)),.k (Qet (NS hp) (Qc (HI p) (by omega)))] rfl
 ·have e:Ny p=Td p:=if_neg hn;rw [e];exact Ud func208 rfl [.k (QQ tp hp hl),.f (decide_eq_false λh=>hn ((IT tp).1 h))] rfl
end Orr
namespace Orr
section
variable {x d:Int} (hd:0<d) (hg:Int.gcd x d=1) (hx:Fe x<=2000000) (hs:Fe d<=2000000)
include hd in
include hd in
include hd in
include hd hx hs in
include hd hx hs in
include hd hx hs in
include hd hg hx hs in
include hd hg hx hs in
end
end Orr
namespace Orr
open Go Go.Proofs Tryz
set_option maxRecDepth 10000
theorem Qsw {a b g:Uj} {n:Nat} (ta:U9 a) (tb:U9 b) (ha:Bd 9000000 a) (hb:Bd 9000000 b) (la:a.length<=1000) (lb:b.length<=1000) (hrun:GRun n (Td a) (Td b) g):Ug 278 [.one (rp (zp a)),.one (rp (zp b))] [.one (rp (zp g))]:=by
 refine Fw func278 rfl ?_;refine Ua [.k (O9 ta ha la),.k (O9 tb hb lb)] rfl ?_;refine sb [(0,.v (.one (rp (zp (Td a))))),(1,.v (.one (rp (zp (Td b)))))] [] rfl rfl ?_;refine Uf (S:=Nat×Uj×Uj) 0 (λL1 s=>(0,.v (.one (rp (zp s.2.1))))::(1,.v (.one (rp (zp s.2.2))))::L1) (λ_=>[]) (λs=>s.1) (λs=>GRun s.1 s.2.1 s.2.2 g) (n,Td a,Td b) hrun rfl rfl λ⟨k,x,y⟩ hs=>?_
 have hs:GRun k x y g:=hs;have hyl:=OZ y;rcases hs.inv with ⟨hk,hy0,hxg⟩ | ⟨j,m2,r,hk,hy0,hy1,hyb,hrr,hrl,hrb,hrt,hgr⟩
 ·rw [<-hxg];exact Uc [.f (decide_eq_false (by dsimp only; omega))] rfl
 ·subst hk;refine Ua [.t (decide_eq_true (by dsimp only; omega)),.k (dH (a0:=x) (b:=y) (res:=r) hy0 hy1 hyb hrr),.k (O9 (p:=r) hrt hrb hrl)] rfl ?_;exact rd (j,y,Td r) (by dsimp only; omega) hgr rfl
theorem Ql0 {x y:Int} (hx:Fe x<=9000000) (hy:Fe y<=9000000) (h0:y≠0) (hd:y∣x):Ug 281 [.agg (fr (x:Rat)),.agg (fr (y:Rat))] [.agg (fr ((x / y:Int):Rat))]:=by
 have hy0:(y:Rat)≠0:=λe=>h0 (by exact_mod_cast e)
 have h:=sM (Al (s:=40000000) (z:=x) (by omega) (by omega)) (Al (s:=40000000) (z:=y) (by omega) (by omega)) hy0;obtain ⟨k,rfl⟩:=hd;rw [Ja _ h0];rwa [show (((y*k:Int):Rat)) / (y:Rat)=(k:Rat) by rw [Xw]; grind] at h
theorem Qap {p:Uj} {c:Int} (hp:Bd 40000000 p) (hc:Fe c<=40000000) (hl:p.length<=1000000):Ug 253 [.one (rp (zp p)),.agg (fr (c:Rat))] [.one (rp (zp (Ft p c)))]:=by
 have h:=BV (qT hp (by omega)) (Al hc (by omega)) (by rw [Au]; exact hl);rwa [qN] at h
theorem Qph (k:Nat) (p:Uj):frow (zp (List.replicate k 0))++frow (zp p)=frow (zp (QC k p)):=by simp [zp,QC,frow]
theorem Qa9 (l:Uj) (i:Nat) (z:Int):(frow (zp l)).set i [nd ((z:Rat)).num.natAbs,sg ((z:Rat)).num,nd (((z:Rat)).den:Int).natAbs,sg (((z:Rat)).den:Int)]=frow (zp (l.set i z)):=uV l i z
theorem Qmp {p q:Uj} (hp:Bd 18000000 p) (hq:Bd 18000000 q) (hlp:p.length<=1000000) (hlq:q.length<=1000000):U5 prog 173 [.one (rp (zp p)),.one (.orow 0 4 none)] [.row false 60 4 (frow (zp q))] [.one (rp (zp (Mx p q)))] [.gone]:=by
 have hn:=Qex ((qT hq (by decide)).mono (by decide)) (by rw [Au]; exact hlq);have ha:=Qsv (p:=zp p) (q:=yR (zp q)) ((qT hp (by decide)).mono (by decide)) ((Qus (qT hq (by decide))).mono (by decide)) (by rw [Au]; exact hlp) (Qc (Qiz _) (by rw [Au]; exact hlq));have e:Qb2 (zp p) (yR (zp q))=zp (Mx p q):=Qo5 p q;rw [e] at ha;refine Fw func173 rfl ?_;exact Ue [] [0] [.k hn,.k ha] rfl
theorem Qaq {a0 b qf rem:Uj} {n:Nat} (hb0:0<b.length) (hb1:b.length<=1000) (hl0:a0.length<=1000) (hbb:Bd 9000000 b) (hqb:Bd 9000000 qf) (hrun:DRun b n a0 (List.replicate (a0.length+1-b.length) 0) qf rem):Ug 279 [.one (rp (zp a0)),.one (rp (zp b))] [.one (rp (zp (trim qf))),.one (rp (zp rem))]:=by
 have h0l:=OZ a0;have hbl:=OZ b;obtain ⟨N,hN⟩:=nmE (a0.length+1-b.length);rw [<-hN] at hrun;have cc:=VO (p:=zp qf);rw [Ei] at cc;refine Fw func279 rfl ?_;refine Ub [.r 18 (eI (b:=(N:Int)) (by omega)),.i N,.i N,.r 21 (eI (b:=(N:Int)) (by simp))] rfl ?_;refine Uf (S:=Nat) 1 (λL1 i=>(22,.v (.oi i))::L1) (λi=>[.row false 60 4 (List.replicate i (fr 0)++List.replicate (N-i) zR)]) (λi=>N-i) (λi=>i<=N) 0 (Qh _) rfl rfl λi hi=>?_
 by_cases hlt:i<N
 ·refine Ub [.T,.k Qek,.i i] rfl ?_;rw [xB hlt];exact rd (i+1) (by omega) hlt rfl
 have hiN:i=N:=by omega
 rw [hiN,ER];clear hiN hlt hi;refine Ua [.F] rfl ?_;refine sb [(0,.v (.one (rp (zp a0)))),(1,.v (.one (rp (zp b)))),(6,.v (.one (.orow 0 4 none)))] [.row false 60 4 (frow (zp (List.replicate N 0)))] rfl rfl ?_;refine Uf (S:=Nat×Uj×Uj) 1 (λL1 s=>(0,.v (.one (rp (zp s.2.1))))::L1) (λs=>[.row false 60 4 (frow (zp s.2.2))]) (λs=>s.1) (λs=>DRun b s.1 s.2.1 s.2.2 qf rem/\s.2.2.length=N) (n,a0,List.replicate N 0) ⟨hrun,Jb⟩ rfl rfl λ⟨k,a,q⟩ ⟨hr0,hr1⟩=>?_
 have hr0:DRun b k a q qf rem:=hr0;have hr1:q.length=N:=hr1;have hal:=OZ a;have hql:=OZ q;rcases hr0.inv with ⟨hk,hqf,har,hlt⟩ | ⟨j,hk,hba,hal2,hab,hpb,hpd,hkq,hrj⟩
 ·subst hqf; subst har;exact Uc [.f (decide_eq_false (by dsimp only; omega)),.k cc] rfl
 subst hk;obtain ⟨K,hK⟩:=nmE (a.length-b.length);rw [<-hK] at hrj hkq;have hla:Fe (Hd a)<=9000000:=Fo hab _;have hlb:Fe (Hd b)<=9000000:=Fo hbb _;obtain ⟨c,hc⟩:=nmE (Hd a / Hd b);have cq:=Ql0 hla hlb hpb hpd;have hcs:Fe (Hd a / Hd b)<=9000000:=Qc (XK _ _) hla;rw [<-hc] at cq hcs hrj;have hsl:=Fx b c;have hqs:∀ x,(q.set K x).length=N:=λx=>by rw [Jo]; exact hr1
 dsimp only;refine go tt [.T,.r 39 (eI (b:=(K:Int)) (by omega)),.r 43 (eI (b:=((a.length-1:Nat):Int)) (by omega)),.x (Tx (p:=a) (i:=a.length-1) (by omega)),.r 49 (eI (b:=((b.length-1:Nat):Int)) (by omega)),.x (Tx (p:=b) (i:=b.length-1) (by omega)),.k cq,.i K,.i K,.i K,.r 60 (eI (b:=(K:Int)) (by simp))] rfl (by simp [Uz,hql] <;> omega) ?_;rw [Qa9];refine Uf (S:=Nat) 3 (λL1 i=>(61,.v (.oi i))::L1) (λi=>[.row false 60 4 (frow (zp (q.set K c))),.blk 60 (fr (c:Rat)),.row false 60 4 (List.replicate i (fr 0)++List.replicate (K-i) zR)]) (λi=>K-i) (λi=>i<=K) 0 (Qh _) rfl rfl λi hi=>?_
 by_cases hlt:i<K
 ·refine Ub [.T,.k Qek,.i i] rfl ?_;rw [xB hlt];exact rd (i+1) (by omega) hlt rfl
 have hiK:i=K:=by omega
 rw [hiK,ER];clear hiK hlt hi;have hzl:=OZ (List.replicate K 0);rw [Jb] at hzl;have hpl:=OZ (Ft b c);refine Ua [.F] rfl ?_;refine sb [(10,.v (.one (.orow 2 4 none))),(9,.v (.one (.ow 1 0))),(0,.v (.one (rp (zp a)))),(1,.v (.one (rp (zp b)))),(6,.v (.one (.orow 0 4 none)))] [.row false 60 4 (frow (zp (q.set K c))),.blk 60 (fr (c:Rat)),.row false 60 4 (frow (zp (List.replicate K 0)))] rfl rfl ?_;have p2:=Qmp (p:=a) (q:=QC K (Ft b c)) (U0 hab (by decide)) (U0 (oG (Gd hbb hcs)) (by decide)) (by omega) (by rw [bW]; omega);rw [<-Qph] at p2;refine go tt [.k (Qap (c:=c) (U0 hbb (by decide)) (by omega) (by omega)),.s (sz:=4) (Qa8 (zp (Ft b c))),.c [2] p2] rfl (by simp [Uz,hzl,hpl]; omega) ?_;exact rd (j,Mx a (QC K (Ft b c)),q.set K c) (by dsimp only; omega) ⟨hrj,hqs c⟩ rfl
def tG (l:Uk):Up:=l.map λp=>[rp (zp p)]
theorem VQ (l:Uk):(tG l).length=l.length:=by simp [tG]
theorem GU (l:Uk) (g:Uj):tG l++[[rp (zp g)]]=tG (l++[g]):=by simp [tG]
theorem YO {l:Uk} {i:Nat} (h:i<l.length):(tG l)[i]? = some [rp (zp (l.getD i []))]:=Gt (pO h)
theorem Qn9 (x:LV):∀ c∈[[x]],c.length=1:=λc hc=>by rw [Qk.1 hc]; rfl
theorem BY {a b q:Uj} (h:DOk a b q):∃ r,Ug 279 [.one (rp (zp a)),.one (rp (zp b))] [.one (rp (zp q)),.one (rp (zp r))]:=by
 obtain ⟨h1,h2,h3,h4,qf,r,n,h5,h6,h7,rfl⟩:=h;exact ⟨r,Qaq h1 h2 h3 h4 h5 h7⟩
theorem sA {a:Uj} {mf:Nat} {f:Nat->Uj} (ta:U9 a) (ha:Bd 9000000 a) (la:a.length<=1000) (h2:2<=a.length) (hF:FRun a mf f):Ug 248 [.one (rp (zp a))] [.one (.row (tG (EK f mf)))]:=by
 obtain ⟨⟨n,ls,hrun,hlen,hq⟩,hms⟩:=hF;have hal:=OZ a;refine Fw func248 rfl ?_;refine Ua [.F,.k (O9 ta ha la),.o 3 165 1,.lo] rfl ?_;refine sb [(3,.v (.one (.orow 0 1 none))),(4,.v (.one (.orow 1 1 none)))] [.row false 165 1 [],.row false 165 1 (tG [Td a])] rfl rfl ?_;refine Uf (S:=Nat×Uk) 2 (λL1 s=>(4,.v (.one (.orow 1 1 none)))::L1) (λs=>[.row false 165 1 [],.row false 165 1 (tG s.2)]) (λs=>s.1) (λs=>LRun s.1 s.2 ls/\0<s.2.length/\s.2.length<=1001) (n,[Td a]) ⟨hrun,by show 0<1; decide,by show 1<=1001; decide⟩ rfl rfl λ⟨k,l⟩ ⟨hs1,hs2,hs3⟩=>?_
 have hs1:LRun k l ls:=hs1;have hs2:0<l.length:=hs2;have hs3:l.length<=1001:=hs3;have hll:=VQ l;have hlast:(tG l)[l.length-1]? = some [rp (zp (Ms l))]:=YO (by omega);have hpl:=OZ (Ms l);dsimp only;rcases hs1.inv with ⟨hk,hlf,hl1⟩ | ⟨j,m2,g,hk,hg1,hg2,hg3,hg4,hg5,hg6,hg7,hlr⟩
 ·have hlm:l.length=mf+1:=by rw [hlf]; exact hlen
  rw [<-hlf] at hq;have hl2:=VQ (l++[[1]]);have hl3:(l++[[1]]).length=mf+2:=by simp [hlm]
  refine go tt [.r 23 (eI (b:=((l.length-1:Nat):Int)) (by omega)),.i (l.length-1),.x hlast,.F,.k Qey,.s (sz:=1) (Qn9 _)] rfl (by simp [Uz,hll]; omega) ?_;rw [GU];refine Uf (S:=Nat) 2 (λL1 i=>(6,.v (.oi i))::(3,.v (.one (.orow 0 1 none)))::L1) (λi=>[.row false 165 1 (tG (EK f i)),.row false 165 1 (tG (l++[[1]]))]) (λi=>mf-i) (λi=>i<=mf) 0 (Qh _) rfl rfl λi hi=>?_
  have htl:=VQ (EK f i);rw [rD] at htl;by_cases h:i<mf
  ·obtain ⟨x,y,z,hx,hy,hz,hf⟩:=hq i h;obtain ⟨rx,hdx⟩:=BY hx;obtain ⟨ry,hdy⟩:=BY hy;obtain ⟨rz,hdz⟩:=BY hz;refine go tt [.T,.i i,.x (YO (by omega)),.i (i+1),.x (YO (by omega)),.k hdx,.i (i+1),.x (YO (by omega)),.i (i+2),.x (YO (by omega)),.k hdy,.k (O9 hx.trim hx.bd hx.len),.k (O9 hy.trim hy.bd hy.len),.k hdz,.k (O9 hz.trim hz.bd hz.len),.s (sz:=1) (Qn9 _)] rfl (by simp [Uz,hl2,htl]; omega) ?_;exact rd (i+1) (by omega) h (by rw [GU,Qce,hf]; rfl)
  ·have e:i=mf:=by omega
   rw [e];exact Uc [.F] rfl rfl (by simp [Uz]; omega)
 ·subst hk;refine go tt [.r 23 (eI (b:=((l.length-1:Nat):Int)) (by omega)),.i (l.length-1),.x hlast,.T,.r 31 (eI (b:=((l.length-1:Nat):Int)) (by omega)),.i (l.length-1),.x hlast,.k (Qew (U0 hg4 (by decide)) (by omega)),.k (Qsw hg3 (Fv _ _) hg4 hg5 hg2 (Qc (M6 _) (by omega)) hg6),.s (sz:=1) (Qn9 _)] rfl (by simp [Uz,hll]; omega) ?_;exact rd (j,l++[g]) (by dsimp only; omega) ⟨hlr,by simp,by simp; omega⟩ (by rw [GU]; rfl)
theorem Qar {a:Uj} {mf:Nat} {f:Nat->Uj} (ta:U9 a) (ha:Bd 9000000 a) (la:a.length<=1000) (h2:2<=a.length) (hF:FRun a mf f) (hP:Qv1 mf f):Ug 207 [.one (rp (zp a))] [.one (rp (zp (Oi f mf)))]:=by
 have hms:=hF.small;have hal:=OZ a;have htl:=VQ (EK f mf);rw [rD] at htl;refine Fw func207 rfl ?_;refine Ua [.F,.k Qey,.k (sA ta ha la h2 hF)] rfl ?_;refine Uf (S:=Nat) 0 (λL1 i=>(15,.v (.oi i))::(3,.v (.one (rp (zp (Oi f i)))))::L1) (λ_=>[]) (λi=>mf-i) (λi=>i<=mf) 0 (Qh _) rfl rfl λi hi=>?_
 by_cases h:i<mf
 ·obtain ⟨g1,g2,g3,g4⟩:=hP i h;refine Ub [.T,.x (Gt (f:=λp=>[rp (zp p)]) (Qjz h)),.k (Qsx (p:=Oi f i) (q:=f i) (by omega) (by omega) g1 g3 (by decide))] rfl ?_;exact rd (i+1) (by omega) h rfl
 ·have e:i=mf:=by omega
  rw [e];exact Uc [.F] rfl
theorem Qbi {l:Uk} (g:Uj) (h:0<l.length):(tG l++[[rp (zp g)]])[l.length-1]? = some [rp (zp (Ms l))]:=by
 rw [Zg (by rw [VQ]; omega)];exact YO (by omega)
theorem Qev {a sq:Uj} {c:Uk} (ta:U9 a) (ha:Bd 9000000 a) (la:a.length<=1000) (h2:2<=a.length) (hC:ChRun a sq c):Ug 172 [.one (rp (zp a))] [.one (.row (tG c))]:=by
 obtain ⟨⟨mf,f,hF,hP,rfl⟩,⟨n,hcr⟩,hbd,hle,hsm⟩:=hC;refine Fw func172 rfl ?_;refine Ua [.k (Qar ta ha la h2 hF hP),.lo,.k (Qew (p:=Oi f mf) (U0 hbd (by decide)) (by omega)),.k (kN (p:=Gu (Oi f mf)) (Fv _ _) (U0 (zM (t:=10) hbd (by omega)) (by decide)) (Qc (M6 _) (by omega)))] rfl ?_;refine sb [(5,.v (.one (rp (zp (Ny (Gu (Oi f mf))))))),(4,.v (.one (.orow 0 1 none)))] [.row false 165 1 (tG [Oi f mf])] rfl rfl ?_;refine Uf (S:=Nat×Uk×Uj) 1 (λL1 s=>(5,.v (.one (rp (zp s.2.2))))::(4,.v (.one (.orow 0 1 none)))::L1) (λs=>[.row false 165 1 (tG s.2.1)]) (λs=>s.1) (λs=>CRun s.1 s.2.1 s.2.2 c/\0<s.2.1.length/\s.2.1.length<=1001) (n,[Oi f mf],Ny (Gu (Oi f mf))) ⟨hcr,by show 0<1; decide,by show 1<=1001; decide⟩ rfl rfl λ⟨k,l,g⟩ ⟨hs1,hs2,hs3⟩=>?_
 have hs1:CRun k l g c:=hs1;have hs2:0<l.length:=hs2;have hs3:l.length<=1001:=hs3;have hll:=VQ l;have hgl:=OZ g;dsimp only;rcases hs1.inv with ⟨hk,hlf,hg0⟩ | ⟨j,m2,r,hk,hg1,hg2,hg3,hrr,hrt,hrb,hrl,hl0,hl1,hcj⟩
 ·subst hlf;exact Uc [.F] rfl
 ·subst hk;refine go tt [.T,.s (sz:=1) (Qn9 _),.r 23 (eI (b:=((l.length-1:Nat):Int)) (by simp; omega)),.i (l.length-1),.x (Qbi g hl0),.k (dH (a0:=Ms l) (b:=g) (res:=r) hg1 hg2 hg3 hrr),.k (kN (p:=r) hrt hrb hrl),.k (Qet (p:=Ny r) (oU hrb) (Qc (mU r) (by omega)))] rfl (by simp [Uz,hll]; omega) ?_;exact rd (j,l++[g],Mk (Ny r)) (by dsimp only; omega) ⟨hcj,by simp,by simp; omega⟩ (by rw [GU]; rfl)
theorem Qv6 {q:Rat} (h1:Fe q.num<=2000000) (h2:Fe (q.den:Int)<=2000000):Bd 9000000 [-q.num,(q.den:Int)]:=λz hz=>by
 simp only [Qm,Ji,or_false] at hz;rcases hz with rfl | rfl
 ·rw [Hw]; omega
 ·omega
abbrev aq (q:Rat) (c:Uk):Uo:=[rp (zp [-q.num,(q.den:Int)]),.row (tG c)]++fr q++fr q
theorem kM {q:Rat} {c:Uk} (hq:Qs 2000000 q) (hC:Qcv q c):Ug 133 [.agg (fr q)] [.agg (aq q c)]:=by
 obtain ⟨sq,hch⟩:=hC;have co:=VH (n:=1) (by decide);exact Ud func133 rfl [.k co,.k (Ew (n:=q.num)),.k (Qdt (z:=q.num)),.k co,.k (Ew (n:=(q.den:Int))),.k (Qev (a:=[-q.num,(q.den:Int)]) (iN q) (Qv6 hq.1 hq.2) (by show 2<=1000; decide) (Ql 2) hch)] rfl
end Orr
namespace Orr
theorem pG (z d:Int):(z:Rat) / (d:Rat)=Rat.divInt z d:=by
 by_cases h:d=0
 ·subst h; simp; grind
 ·rw [Jt];have e1:(z:Rat)=Rat.divInt z 1:=by have:=Z4 (z:Rat); simpa using this.symm
  have e2:(d:Rat)⁻¹=Rat.divInt 1 d:=by
   have:(d:Rat)=Rat.divInt d 1:=by have:=Z4 (d:Rat); simpa using this.symm
   rw [this,Rat.inv_divInt]
  rw [e1,e2,Kz];simp
end Orr
namespace Orr
open Go Go.Proofs Tryz
set_option maxRecDepth 10000
structure Rs (k:Crv):Prop where
 n:JP k
 c:Cs 100000 16 k



theorem Qnu (l:Ul) (n:Nat):(lm l).take (min l.length n)=lm (l.take n):=by
 rw [lm,lm,<-Js];rcases Nat.le_total l.length n with h | h
 ·rw [Zy h,Q5,Qn h]
 ·rw [V2 h]
theorem Qss {l:Ul} {n:Nat} (hn:n<=1000):Ug 175 [.one (.row (lm l)),.oi n] [.one (.row (lm (l.take n)))]:=by
 rw [<-Qnu];have hll:(lm l).length=l.length:=by simp [lm]
 exact Ud func175 rfl [.r 9 (eI (b:=((min l.length n:Nat):Int)) (by omega)),.i (min l.length n)] rfl rfl (by simp [Uz,hll]; omega)
def Ic (l:List RawInt):Up:=l.map Ao
theorem Oq (l:List RawInt):(Ic l).length=l.length:=by simp [Ic]
abbrev rcw (z:RawPt):Uo:=[.row (Ic z.x),.row (Ic z.y),.bool z.d.b,.row (lm z.d.l)]
theorem WA {z:RawInt} (hz:z.Ok) {most:Int} (hm:0<=most/\most<=999):Ug 138 [.agg (Ao z),.oi most] [.agg (Hh (Hx most z))]:=by
 obtain ⟨b,l⟩:=z;have hb:=KR hm.1 ⟨b,l⟩;have hs:Fe (Hx most ⟨b,l⟩)<=100000000:=Qc (Si.2 (show (Hx most ⟨b,l⟩).natAbs<2^10 by omega)) (by decide);cases l with
 | nil=>exact Ud func138 rfl [.t rfl] rfl (by simp [Hx,D6]) trivial
 |
  cons u l =>
  have hu:=hz.u u (Qx ..);have co:=VH (n:=Hx most ⟨b,u::l⟩) (by omega);have ct:=Qsm hs;have hr:Int.tmod (u:Int) (most+1)=(u:Int) % (most+1):=Y3 (by omega);have h1:=Vh (u:Int) (b:=most+1) (by omega);have h2:=Yu (u:Int) (b:=most+1) (by omega);cases b with
  |
   true =>
   rw [show Hx most ⟨true,u::l⟩=-((u:Int) % (most+1)) from rfl] at co ct ⊢;exact Ud func138 rfl [.f (decide_eq_false (by simp [lm]; try omega)),.x (l:=lm (u::l)) (i:=0) (xs:=[.int .u32 (u:Int)]) rfl,.r 18 (eI hr),.t rfl,.k co,.k ct] rfl rfl (by simp [Uz]; omega)
  |
   false =>
   rw [show Hx most ⟨false,u::l⟩=(u:Int) % (most+1) from rfl] at co ct ⊢;exact Ud func138 rfl [.f (decide_eq_false (by simp [lm]; try omega)),.x (l:=lm (u::l)) (i:=0) (xs:=[.int .u32 (u:Int)]) rfl,.r 18 (eI hr),.f rfl,.k co,.k ct] rfl rfl (by simp [Uz]; omega)
theorem oz2 {P:Program} [Mo P] {n:Nat} {Q:Exit->Sg->Uq->Prop} {L L':Sg} {B B':Uq} (d off T sz:Nat) {it:List It} (hs:Rf it=true) (h:nG (P:=P) d L B [.oc d off T sz]=some (L',B',[],[])) (k:AK P n Q it L' B'):AK P n Q it L B:=AK.sub (LM h EqOk.nil) hs k
theorem pz {P:Program} [Mo P] {n:Nat} {Q:Exit->Sg->Uq->Prop} {L L':Sg} {B B':Uq} (i:Nat) {it:List It} (hs:Rf it=true) (h:Qb0 [i] L B=some (L',B')) (k:AK P n Q it L' B'):AK P n Q it L B:=AK.sub (FG h) hs k
def Af (l:Uj):Up:=l.map Hh
theorem OS (l:Uj):(Af l).length=l.length:=by simp [Af]
theorem RJ {most:Int} {l:List RawInt} {i:Nat} {a:RawInt} (hi:i<3) (h:l[i]? = some a):Af (Gi most (l.take (i+1)))=Af (Gi most (l.take i))++[Hh (Hx most a)]:=by
 rw [jU hi h]; simp [Af]
theorem jK {most:Int} {l:List RawInt} {i:Nat} (hi:i<=3) (h:i<=l.length):(Af (Gi most (l.take i))).length=i:=by
 rw [OS]; unfold Gi; rw [List.length_map,List.length_take,List.length_take]; omega
theorem Ql7 {n d:Int} (hn:-9223372036854775808<=n/\n<=9223372036854775807) (hd:-9223372036854775808<=d/\d<=9223372036854775807):Ug 24 [.oi n,.oi d] [.agg (fr (Gw (Pm n 61-30) (1+Pm d 6)))]:=by
 have h1:Pm n 61=n % 61:=rfl;have h2:Pm d 6=d % 6:=rfl;exact Ud func24 rfl [.k (Du (v:=n) (n:=61) hn (by decide)),.k (Du (v:=d) (n:=6) hd (by decide)),.k (Qwi (n:=Pm n 61-30) (d:=1+Pm d 6) (by omega) (by omega))] rfl rfl (by simp [Uz]; omega)
def rwq (z:RawPt):Uo:=rcw z++[.int .i64 z.id]
end Orr
namespace Orr
open Go Go.Proofs Tryz Orq
set_option maxRecDepth 10000
theorem Ql6 {l:Ul} (hl:l.length<=1000000000):Ug 151 [.one (.row (lm l)),.one (.row (lm l))] [.one (.bool true)]:=by
 have hll:(lm l).length=l.length:=by simp [lm]
 refine Fw func151 rfl ?_;refine Ua [.f (decide_eq_false (λh=>h rfl))] rfl ?_;refine Uf (S:=Nat) 0 (λL1 i=>(5,.v (.oi i))::L1) (λ_=>[]) (λi=>l.length-i) (λi=>i<=l.length) 0 (Qh _) rfl rfl λi hi=>?_
 by_cases h:i<l.length
 ·have hx:(lm l)[i]? = some [.int .u32 ((l[i]:Nat):Int)]:=Gt (Qe h);refine Ub [.T,.x hx,.x hx,.f (decide_eq_false (λh=>h rfl))] rfl ?_;exact rd (i+1) (by omega) h rfl
 ·exact Uc [.F] rfl
theorem Ql4 {z:Int} (hz:Fe z<=4294967295):Ug 100 [.agg (Hh z),.agg (Hh z)] [.one (.bool true)] :=
 Ud func100 rfl [.g 10 true (decide_eq_true rfl),.k (Ql6 (l:=Fy z.natAbs) (by have:=Rt (x:=z.natAbs) (k:=4294967295) hz; omega))] rfl
theorem Ql5 {p:Uj} (hp:Bd 4294967295 p) (hl:p.length<=1000000):Ug 57 [pr p,pr p] [.one (.bool true)]:=by
 have hpl:(p.map Hh).length=p.length:=by simp
 show Ug 57 [.one (.row (p.map Hh)),.one (.row (p.map Hh))] _;refine Fw func57 rfl ?_;refine Ua [.f (decide_eq_false (λh=>h rfl))] rfl ?_;refine Uf (S:=Nat) 0 (λL1 i=>(13,.v (.oi i))::L1) (λ_=>[]) (λi=>p.length-i) (λi=>i<=p.length) 0 (Qh _) rfl rfl λi hi=>?_
 by_cases h:i<p.length
 ·have hx:=Pe (Ra h);refine Ub [.T,.x hx,.x hx,.k (Ql4 (Fo hp i)),.f rfl] rfl ?_;exact rd (i+1) (by omega) h rfl
 ·exact Uc [.F] rfl
theorem Qd7 {l:List Ct} (hl:∀ c∈l,Cp c.p) (hn:l.length≤1000000):Ug 14 [.one (.row (U6 l)),.one (.row (U6 l))] [.one (.bool true)]:=by
 have hcl:=Pa l;refine Fw func14 rfl ?_;refine Ua [.f (decide_eq_false (λh=>h rfl))] rfl ?_;refine Uf (S:=Nat) 0 (λL1 i=>(13,.v (.oi i))::L1) (λ_=>[]) (λi=>l.length-i) (λi=>i<=l.length) 0 (Qh _) rfl rfl λi hi=>?_
 by_cases h:i<l.length
 ·obtain ⟨c,hc⟩:=gxE (l:=l) (i:=i) h;have hx:=ZN hc;have hp:=hl c (Qa hc);refine Ub [.T,.x hx,.x hx,.g 27 false (by simp),.x hx,.x hx,.g 40 false (by simp),.x hx,.x hx,.k (Ql5 (U0 hp.b (by decide)) (by have:=hp.l; omega)),.f rfl] rfl ?_;exact rd (i+1) (by omega) h rfl
 ·exact Uc [.F] rfl
end Orr
namespace Orr
open Go Go.Proofs Tryz
set_option maxRecDepth 10000
abbrev run1:Crv:=⟨[0,1],[],1⟩
theorem DN:JP run1:=⟨rfl,rfl,by decide,by decide⟩
theorem cs_run1:Cs 3 3 run1:=by
 refine ⟨λz hz=>?_,λz hz=>(by cases hz),by decide,by decide,by decide⟩;rcases Qm.1 hz with rfl | hz
 ·decide
 ·rw [Qk.1 hz]; decide
theorem Cs.up {s n s' n':Nat} {k:Crv} (h:Cs s n k) (hs:s<=s') (hn:n<=n'):Cs s' n' k:=⟨U0 h.x hs,U0 h.y hs,Qc h.d hs,Qc h.lx hn,Qc h.ly hn⟩
end Orr
namespace Orr
open Go Go.Proofs Tryz Orq
set_option maxRecDepth 10000
abbrev SE:List Pt:=[⟨run1,1⟩,⟨Ou 1 0,2⟩]
theorem Qvn:(Tq (tq 0) SE).map (·.id)=[1,2]:=by decide +kernel
theorem Qo9:Sc run1:=⟨DN,cs_run1.up (by decide) (by decide)⟩
theorem Qx7:∀ p∈SE,Sc p.c:=λp hp=>by
 rcases Qm.1 hp with rfl | hp
 ·exact Qo9
 ·rw [Qk.1 hp]; exact rG (by decide) (by decide)


theorem Qee {c:Cr} {l l':List Pt} {r1:Up×Up} {ws:List Wt} (hc:CrOk c) (hl:∀ p∈l',Sc p.c) (hn:l'.length≤1000) (h:P6 c.l c.now (Fp (PT l' c.now))=some ws) :
 U5 prog 391 [.one (.ow 0 0),.agg [pts l'],.oi 0] [.blk 187 (Tl c (Uy l) r1)] [.oi 0] [.blk 187 (Tl ⟨c.now,ws,c.ev⟩ (Uy l') (brT l' c.now))]:=by
 have hB:=sJ hl hn;have cn:=sC (T:=187) (c:=c) (r0:=Uy l') (r1:=r1) hc.n;have cb:=AB (c:=c) (r1:=r1) hl hn hc.n;have cg:=Qag (T:=187) (r0:=Uy l') (r1:=brT l' c.now) hc hc.n (Iu hc.n) (J9 0) (hB.p _ hc.n) (hB.n _ hc.n) h;refine Fw func391 rfl ?_;exact Ue [] [0] [.f rfl,.c [0] cn,.c [0] cb,.c [0] cg] rfl
theorem Qmf {lx ly:Up} {px py:Uj} {x y:LV} {d id:Int} {c:Cr} {l:List Pt} {r1:Up×Up} {ws:List Wt} (hx:IsInts lx px) (hy:IsInts ly py) (hd:Gv x y d) (hk:Cs 4294967294 1073741824 (Crv.mk px py d)) (hll:l.length<=900)
 (he:KA l ⟨Crv.norm (Crv.mk px py d),id⟩=0) (hc:CrOk c) (hl:∀ p∈put l ⟨Crv.norm (Crv.mk px py d),id⟩,Sc p.c) (hn:(put l ⟨Crv.norm (Crv.mk px py d),id⟩).length≤1000) (h:P6 c.l c.now (Fp (PT (put l ⟨Crv.norm (Crv.mk px py d),id⟩) c.now))=some ws) :
 U5 prog 389 [.one (.ow 0 0),.agg [.row lx,.row ly,x,y,.int .i64 id]] [.blk 187 (Tl c (Uy l) r1)] [.oi 0] [.blk 187 (Tl ⟨c.now,ws,c.ev⟩ (Uy (put l ⟨Crv.norm (Crv.mk px py d),id⟩)) (brT (put l ⟨Crv.norm (Crv.mk px py d),id⟩) c.now))]:=by
 have cp:=kV (l:=l) (id:=id) hx hy hd hk (by omega);rw [if_pos he,he] at cp;have cw:=Qee (l:=l) (r1:=r1) hc hl hn h;refine Fw func389 rfl ?_;obtain ⟨b,l',rfl,rfl,_⟩:=hd;exact Ue [] [0] [.k cp,.c [0] cw] rfl
theorem Qai {c:Cr} {r0:Up} {r1:Up×Up}:U5 prog 42 [.one (.ow 0 0)] [.blk 187 (Tl c r0 r1)] [.one (.ow 1 0)] [.blk 187 (Tl c r0 r1),.blk 187 (Tl c r0 r1)]:=by
 refine Fw func42 rfl ?_;exact Ue [] [0,1] [] rfl
end Orr
namespace Orq
open Orr Go
def p3j (W:List Pt) (x:Pt) (i j:Nat):List P3:=Lf i W++(Hz j (W.drop (i+1))).map (λm=>(x,m))
def OO (W:List Pt) (x y:Pt) (i j k:Nat):List P3:=Lf i W++(Hz j (W.drop (i+1))++(((W.drop (i+1)).drop (j+1)).take k).map (λz=>(y,z))).map (λm=>(x,m))
theorem DL (W:List Pt) (x:Pt) (i:Nat):p3j W x i 0=Lf i W:=by simp [p3j,Hz]
theorem DO (W:List Pt) (x y:Pt) (i j:Nat):OO W x y i j 0=p3j W x i j:=by simp [OO,p3j]
theorem DI {W:List Pt} {x y z:Pt} {i j k:Nat} (h:((W.drop (i+1)).drop (j+1))[k]? = some z):OO W x y i j (k+1)=OO W x y i j k++[(x,y,z)]:=by
 unfold OO;rw [Zv,h]; simp
theorem jI {W:List Pt} {x y:Pt} {i j k:Nat} (hy:(W.drop (i+1))[j]? = some y) (hk:((W.drop (i+1)).drop (j+1)).length<=k):OO W x y i j k=p3j W x i (j+1):=by
 unfold OO p3j;rw [Qn hk,D8 _ j y hy]
theorem jA {W:List Pt} {x:Pt} {i j:Nat} (hx:W[i]? = some x) (hj:j=(W.drop (i+1)).length):p3j W x i j=Lf (i+1) W:=by
 unfold p3j;rw [hj,YD W i x hx]; rfl
theorem iM {W:List Pt} {i:Nat} (h:i=W.length):Lf i W=Rm W:=by rw [h]; rfl
def p4j (W:List Pt) (x:Pt) (i j:Nat):List P4:=Eg i W++(Lf j (W.drop (i+1))).map (λm=>(x,m))
def p4k (W:List Pt) (x y:Pt) (i j k:Nat):List P4:=Eg i W++(p3j (W.drop (i+1)) y j k).map (λm=>(x,m))
def p4m (W:List Pt) (x y z:Pt) (i j k m:Nat):List P4:=Eg i W++(OO (W.drop (i+1)) y z j k m).map (λm=>(x,m))
theorem Qh1 (W:List Pt) (x:Pt) (i:Nat):p4j W x i 0=Eg i W:=by simp [p4j,Lf]
theorem Qh2 (W:List Pt) (x y:Pt) (i j:Nat):p4k W x y i j 0=p4j W x i j:=by unfold p4k p4j; rw [DL]
theorem Qh4 (W:List Pt) (x y z:Pt) (i j k:Nat):p4m W x y z i j k 0=p4k W x y i j k:=by unfold p4m p4k; rw [DO]
theorem Qh3 {W:List Pt} {x y z u:Pt} {i j k m:Nat} (h:(((W.drop (i+1)).drop (j+1)).drop (k+1))[m]? = some u):p4m W x y z i j k (m+1)=p4m W x y z i j k m++[(x,y,z,u)]:=by
 unfold p4m;rw [DI h]; simp
theorem Qoe {W:List Pt} {x y z:Pt} {i j k m:Nat} (hz:((W.drop (i+1)).drop (j+1))[k]? = some z) (hm:(((W.drop (i+1)).drop (j+1)).drop (k+1)).length<=m):p4m W x y z i j k m=p4k W x y i j (k+1):=by
 unfold p4m p4k;rw [jI hz hm]
theorem Qod {W:List Pt} {x y:Pt} {i j k:Nat} (hy:(W.drop (i+1))[j]? = some y) (hk:k=((W.drop (i+1)).drop (j+1)).length):p4k W x y i j k=p4j W x i (j+1):=by
 unfold p4k p4j;rw [jA hy hk]
theorem Qoc {W:List Pt} {x:Pt} {i j:Nat} (hx:W[i]? = some x) (hj:j=(W.drop (i+1)).length):p4j W x i j=Eg (i+1) W:=by
 unfold p4j;rw [hj,RP W i x hx]; rfl
theorem Qov {W:List Pt} {i:Nat} (h:i=W.length):Eg i W=Oo W:=by rw [h]; rfl
theorem KD:∀ (k:Nat) (l:List Pt),∃ r,Gl l=Hz k l++r
 | 0,l=>⟨Gl l,rfl⟩
 | k+1,[]=>⟨[],rfl⟩
 |
  k+1,x::l=>by
  obtain ⟨r,h⟩:=KD k l;exact ⟨r,by show l.map _++Hz l.length l=l.map _++Hz k l++r; rw [show Hz l.length l=Gl l from rfl,h,Zb]⟩
theorem EG:∀ (k:Nat) (l:List Pt),∃ r,Rm l=Lf k l++r
 | 0,l=>⟨Rm l,rfl⟩
 | k+1,[]=>⟨[],rfl⟩
 |
  k+1,x::l=>by
  obtain ⟨r,h⟩:=EG k l;exact ⟨r,by show (Gl l).map _++Lf l.length l=(Gl l).map _++Lf k l++r; rw [show Lf l.length l=Rm l from rfl,h,Zb]⟩
theorem hZ:∀ (k:Nat) (l:List Pt),∃ r,Oo l=Eg k l++r
 | 0,l=>⟨Oo l,rfl⟩
 | k+1,[]=>⟨[],rfl⟩
 |
  k+1,x::l=>by
  obtain ⟨r,h⟩:=hZ k l;exact ⟨r,by show (Rm l).map _++Eg l.length l=(Rm l).map _++Eg k l++r; rw [show Eg l.length l=Oo l from rfl,h,Zb]⟩
theorem aH {W:List Pt} (h6:W.length<=6) {x y:Pt} {i j k:Nat} (hx:W[i]? = some x) (hy:(W.drop (i+1))[j]? = some y):(OO W x y i j k).length<=20:=by
 have h0:=(YM h6).1;obtain ⟨r,hr⟩:=EG (i+1) W;rw [YD W i x hx] at hr;obtain ⟨r2,hr2⟩:=KD (j+1) (W.drop (i+1));rw [D8 _ j y hy] at hr2;have e1:=congrArg List.length hr;have e2:=congrArg List.length hr2;have e3:(((W.drop (i+1)).drop (j+1)).take k).length<=((W.drop (i+1)).drop (j+1)).length:=by rw [Qt]; exact Nat.min_le_right _ _
 unfold OO;simp only [Qy,Q8] at e1 e2 ⊢;omega
theorem Qof {W:List Pt} (h6:W.length<=6) {x y z:Pt} {i j k m:Nat} (hx:W[i]? = some x) (hy:(W.drop (i+1))[j]? = some y) (hz:((W.drop (i+1)).drop (j+1))[k]? = some z):(p4m W x y z i j k m).length<=15:=by
 have h0:=(YM h6).2;obtain ⟨r,hr⟩:=hZ (i+1) W;rw [RP W i x hx] at hr;obtain ⟨r1,hr1⟩:=EG (j+1) (W.drop (i+1));rw [YD _ j y hy] at hr1;obtain ⟨r2,hr2⟩:=KD (k+1) ((W.drop (i+1)).drop (j+1));rw [D8 _ k z hz] at hr2;have e1:=congrArg List.length hr;have e2:=congrArg List.length hr1;have e4:=congrArg List.length hr2;have e3:((((W.drop (i+1)).drop (j+1)).drop (k+1)).take m).length<=(((W.drop (i+1)).drop (j+1)).drop (k+1)).length:=by rw [Qt]; exact Nat.min_le_right _ _
 unfold p4m OO;simp only [Qy,Q8] at e1 e2 e4 ⊢;omega
theorem Qbf {sg:Uj->Int} (hg:∀ p,-1<=Hg sg p/\Hg sg p<=1) (ps:List P3):vR (Ar (ZF sg ps)):=by
 have key:∀ (ps:List P3) (M:No),vR M->vR ((ZF sg ps).foldl (λM e=>Lp M e.1 (.int .i64 e.2)) M):=by
  intro ps
  induction ps with
  | nil=>intro M h; exact h
  | cons m ps ih=>intro M h; exact ih _ (Qg1 h (hg _))
 exact key ps [] Qg0
theorem sG (sg:Uj->Int) (T:No) (ps:List P4):VW (I3 T (VY sg ps)):=by
 have key:∀ (ps:List P4) (F:No),VW F->VW ((VY sg ps).foldl (λF e=>IS T e.2 e.1 F) F):=by
  intro ps
  induction ps with
  | nil=>intro M h; exact h
  | cons m ps ih=>intro M h; exact ih _ (sF h)
 exact key ps [] oR
theorem qU (p:Uj) (q:Rat):-1<=H7 p q/\H7 p q<=1:=by
 rw [Nc]; unfold Fc
 split
 ·exact ⟨by decide,by decide⟩
 ·split <;> exact ⟨by decide,by decide⟩
theorem Qjj {p:Uj} {a:Tm} {s:Int} (h:FN p a=some s):-1<=s/\s<=1:=by
 unfold FN at h
 split at h
 ·injection h with h; subst h; exact ⟨by decide,by decide⟩
 ·split at h
  ·injection h with h; subst h; exact qU _ _
  ·obtain ⟨g,_,h⟩:=Qd.1 h
   split at h
   ·injection h with h; subst h; exact ⟨by decide,by decide⟩
   ·obtain ⟨c,_,h⟩:=Qd.1 h;obtain ⟨x,_,h⟩:=Qd.1 h;injection h with h; subst h; exact qU _ _
theorem Qgn (a:Tm) (p:Uj):-1<=Hg (Fq a) p/\Hg (Fq a) p<=1:=by
 have hs:∀ p,-1<=Fq a p/\Fq a p<=1:=λp=>by
  unfold Fq;cases h:FN p a with
  | none=>exact ⟨by decide,by decide⟩
  | some s=>exact Qjj h
 have key:∀ (k:Nat) (p:Uj),-1<=To (Fq a) k p/\To (Fq a) k p<=1:=by
  intro k
  induction k with
  | zero=>intro p; exact ⟨by simp [To],by simp [To]⟩
  |
   succ k ih =>
   intro p;simp only [To]
   split
   ·exact ⟨by decide,by decide⟩
   ·split
    ·exact ih _
    ·exact hs p
 exact key _ p
end Orq
namespace Orr
open Go Go.Proofs Tryz Orq
set_option maxRecDepth 10000
theorem cI {a b c:Pt} {t:Tm} (ha:Sc a.c) (hb:Sc b.c) (hc:Sc c.c) (ht:Va t):Ug 163 [.oi 3,.agg (ta t),.one (.row [Fa a,Fa b,Fa c])] [.agg (Da (D3 (Fq t) a b c)),.oi 0]:=by
 have hp:=(JO ha hb hc).dp;have e:Da (D3 (Fq t) a b c)=[.int .i64 3,.int .i64 a.id,.int .i64 b.id,.int .i64 c.id,.int .i64 0,pl (He a.c b.c c.c),.int .i64 (Hg (Fq t) (He a.c b.c c.c))]:=by rw [D3]
 rw [e];have cg:=TM hp ht;have cf:=kJ ha hb hc;generalize He a.c b.c c.c=F at *;refine Fw func163 rfl ?_;refine Ua [.k Qam,.f rfl] rfl ?_;refine Uf (S:=Nat) 3 (λL1 i=>(22,.v (.oi i))::L1) (λi=>[.blk 177 (ta t),.blk 120 zCt,.blk 120 [.int .i64 3,.int .i64 (if 1<=i then a.id else 0),.int .i64 (if 2<=i then b.id else 0),.int .i64 (if 3<=i then c.id else 0),.int .i64 0,.nils,.int .i64 0]]) (λi=>3-i) (λi=>i<=3) 0 (Qh _) rfl rfl λi hi=>?_
 rcases (show i=0\/i=1\/i=2\/i=3 by omega) with rfl | rfl | rfl | rfl
 ·refine Ua [.t rfl,.x (i:=0) (xs:=Fa a) rfl,.i 0] rfl ?_ (by simp [Uz]);exact rd 1 (by omega) (by omega) rfl
 ·refine Ua [.t rfl,.x (i:=1) (xs:=Fa b) rfl,.i 1] rfl ?_ (by simp [Uz]);exact rd 2 (by omega) (by omega) rfl
 ·refine Ua [.t rfl,.x (i:=2) (xs:=Fa c) rfl,.i 2] rfl ?_ (by simp [Uz]);exact rd 3 (by omega) (by omega) rfl
 ·exact Uc [.f rfl,.f rfl,.f rfl,.t rfl,.x (i:=0) (xs:=Fa a) rfl,.x (i:=1) (xs:=Fa b) rfl,.x (i:=2) (xs:=Fa c) rfl,.k cf,.k cg] rfl
theorem A0 {α:Type} (s:α->α->α->Bool):∀ (l acc:List α) (c:α),Pq s acc (l++[c])=c::Lb s c (Pq s acc l)
 | [],_,_=>rfl
 | _::l,_,c=>A0 s l _ c
theorem dW {R:List Pt} {t:Tm} (hR:∀ p∈R,Sc p.c) (hn:R.length≤1000000) (ht:Va t):Ug 200 [.agg (ta t),.one (pts R)] [.one (pts (S9 (Fq t) R))]:=by
 have hcl:=Gz R;show Ug 200 [.agg (ta t),.one (.row (Uy R))] [.one (.row (Uy (Pq (UM (Fq t)) [] R).reverse))];obtain ⟨s,hs⟩:=nmE (UM (Fq t));have hs':∀ a b c,s a b c=decide (0<Hg (Fq t) (He a.c b.c c.c)):=λa b c=>by rw [hs]; rfl
 rw [<-hs];refine Fw func200 rfl ?_;refine Ua [.o 5 40 5] rfl ?_;refine Uf (S:=Nat) 2 (λL1 i=>(10,.v (.oi i))::(5,.v (.one (.orow 1 5 none)))::L1) (λi=>[.blk 177 (ta t),.row false 40 5 (Uy (Pq s [] (R.take i)).reverse)]) (λi=>R.length-i) (λi=>i<=R.length) 0 (Qh _) rfl rfl λi hi=>?_
 by_cases hlt:i<R.length
 ·obtain ⟨c,hc⟩:=gxE (l:=R) (i:=i) hlt;have hcp:=hR c (Qa hc);have hst:Pq s [] (R.take (i+1))=c::Lb s c (Pq s [] (R.take i)):=by rw [Zv,hc]; exact A0 s _ _ c
  obtain ⟨O,hO⟩:=nmE (Pq s [] (R.take i));have hOl:O.length<=1000000:=by
   have:=KQ s (R.take i) [];rw [<-hO,Qt] at this; simp at this; omega
  have hOm:∀ x∈O,Sc x.c:=λx hx=>by
   rw [hO] at hx;rcases KZ hx with h | h
   ·cases h
   ·exact hR x (Qo h)
  rw [<-hO] at hst ⊢;have hrl:(Uy O.reverse).length=O.length:=by rw [Gz,Xn]
  have hm:∀ y∈[Fa c],y.length=5:=λy hy=>by rw [Qk.1 hy]; rfl
  have hget:∀ {pre r:List Pt} {x:Pt},O=pre++x::r->∀ j,j=r.length->(Uy O.reverse)[j]? = some (Fa x):=λ{pre r x} e j hj=>by
   refine So ?_;rw [e,hj]; simp
  have hfin:∀ {pre st:List Pt},O=pre++st->Uy (c::st).reverse=(Uy O.reverse).take st.length++[Fa c]:=λ{pre st} e=>by
   rw [e]; simp [Uy,Js,List.take_append]
  have hfull:Uy (c::O).reverse=Uy O.reverse++[Fa c]:=by simp [Uy]
  refine Ua [.t (by simp [hcl]; omega),.x (So hc)] rfl ?_;refine Uf (S:=Bool×List Pt) 3 (λL1 s=>(5,.v (.one (.orow 1 5 (cond s.1 (some (0,s.2.length)) none))))::L1) (λ_=>[.blk 177 (ta t),.row false 40 5 (Uy O.reverse),.blk 40 (Fa c)]) (λs=>s.2.length) (λst=>(∃ pre,O=pre++st.2/\(st.1=false->pre=[]))/\Lb s c st.2=Lb s c O) (false,O) ⟨⟨[],rfl,λ_=>rfl⟩,rfl⟩ rfl rfl λ⟨b,st⟩ ⟨⟨pre,h1,h2⟩,h3⟩=>?_
  have h1:O=pre++st:=h1;have h3:Lb s c st=Lb s c O:=h3;have hl1:O.length=pre.length+st.length:=by rw [h1,Qy]
  have fin:∀ {st:List Pt},O=pre++st->Lb s c st=Lb s c O->Lb s c st=st->Uy (Pq s [] (R.take (i+1))).reverse=(Uy O.reverse).take st.length++[Fa c]/\(pre=[]->Uy (Pq s [] (R.take (i+1))).reverse=Uy O.reverse++[Fa c]):=λ{st} e1 e2 e3=>by
   rw [hst,<-e2,e3];refine ⟨hfin e1,λhp=>?_⟩;rw [hp] at e1;rw [<-hfull,e1]; rfl
  rcases st with _ | ⟨z,_ | ⟨y,r⟩⟩
  ·obtain ⟨f1,f2⟩:=fin h1 h3 rfl;cases b with
   |
    false =>
    have hp:=h2 rfl;have f2:=f2 hp;rw [hp] at hl1;have hl2:(Uy O.reverse).length<=1:=by rw [hrl,hl1]; simp
    refine Ub [.g 17 false Uh,.f rfl,.s (sz:=5) hm] rfl ?_;exact rd (i+1) (by omega) hlt (by rw [f2]; rfl)
   |
    true =>
    refine Ub [.g 17 false (decide_eq_false (by simp)),.f rfl,.s (sz:=5) hm] rfl ?_;exact rd (i+1) (by omega) hlt (by rw [f1]; rfl)
  ·obtain ⟨f1,f2⟩:=fin h1 h3 rfl;cases b with
   |
    false =>
    have hp:=h2 rfl;have f2:=f2 hp;rw [hp] at hl1;have hl2:(Uy O.reverse).length<=1:=by rw [hrl,hl1]; simp
    refine Ub [.g 17 false Uh,.f rfl,.s (sz:=5) hm] rfl ?_;exact rd (i+1) (by omega) hlt (by rw [f2]; rfl)
   |
    true =>
    refine Ub [.g 17 false (decide_eq_false (by simp)),.f rfl,.s (sz:=5) hm] rfl ?_;exact rd (i+1) (by omega) hlt (by rw [f1]; rfl)
  ·have sz:=hOm z (by rw [h1]; simp);have sy:=hOm y (by rw [h1]; simp);have co:=kJ sy sz hcp;have cg:=TM (JO sy sz hcp).dp ht;have gz:=hget h1 (r.length+1) rfl;have gy:=hget (pre:=pre++[z]) (r:=r) (x:=y) (by rw [h1]; simp) r.length rfl;have hl1:O.length=pre.length+(r.length+2):=hl1;have hls:=hs' y z c;by_cases hq:s y z c=true
   ·have hg:¬Hg (Fq t) (He y.c z.c c.c)<=0:=by rw [hls] at hq; have:=of_decide_eq_true hq; omega
    obtain ⟨f1,f2⟩:=fin h1 h3 (by simp only [Lb]; rw [if_pos hq]);cases b with
    |
     false =>
     have hp:=h2 rfl;have f2:=f2 hp;rw [hp] at hl1;have hl2:(Uy O.reverse).length=r.length+2:=by rw [hrl,hl1]; simp
     refine Ub [.g 17 true Ui,.r 21 (eI (b:=(r.length:Int)) (by omega)),.i r.length,.x gy,.r 28 (eI (b:=((r.length+1:Nat):Int)) (by omega)),.i (r.length+1),.x gz,.k co,.k cg,.f (decide_eq_false hg),.s (sz:=5) hm] rfl ?_;exact rd (i+1) (by omega) hlt (by rw [f2]; rfl)
    |
     true =>
     refine Ub [.g 17 true (decide_eq_true (by simp; omega)),.r 21 (eI (b:=(r.length:Int)) (by simp; omega)),.i r.length,.x (l:=Uy O.reverse) (i:=0+r.length) (xs:=Fa y) (by rw [Zz]; exact gy),.r 28 (eI (b:=((r.length+1:Nat):Int)) (by simp)),.i (r.length+1),.x (l:=Uy O.reverse) (i:=0+(r.length+1)) (xs:=Fa z) (by rw [Zz]; exact gz),.k co,.k cg,.f (decide_eq_false hg),.s (sz:=5) hm] rfl ?_;exact rd (i+1) (by omega) hlt (by rw [f1]; rfl)
   ·have hg:Hg (Fq t) (He y.c z.c c.c)<=0:=by
     rw [hls] at hq; have:=of_decide_eq_false (Ws.2 hq); omega
    have hpop:Lb s c (y::r)=Lb s c O:=by rw [<-h3]; simp only [Lb]; rw [if_neg hq]
    have hin:(∃ pre',O=pre'++(y::r)/\((true:Bool)=false->pre'=[]))/\Lb s c (y::r)=Lb s c O:=⟨⟨pre++[z],by rw [h1]; simp,λh=>by cases h⟩,hpop⟩;cases b with
    |
     false =>
     have hp:=h2 rfl;rw [hp] at hl1;have hl2:(Uy O.reverse).length=r.length+2:=by rw [hrl,hl1]; simp
     refine Ub [.g 17 true Ui,.r 21 (eI (b:=(r.length:Int)) (by omega)),.i r.length,.x gy,.r 28 (eI (b:=((r.length+1:Nat):Int)) (by omega)),.i (r.length+1),.x gz,.k co,.k cg,.t (decide_eq_true hg),.r 42 (eI (b:=((r.length+1:Nat):Int)) (by omega)),.i (r.length+1)] rfl ?_;exact rd (true,y::r) (by simp) hin rfl
    |
     true =>
     refine Ub [.g 17 true (decide_eq_true (by simp; omega)),.r 21 (eI (b:=(r.length:Int)) (by simp; omega)),.i r.length,.x (l:=Uy O.reverse) (i:=0+r.length) (xs:=Fa y) (by rw [Zz]; exact gy),.r 28 (eI (b:=((r.length+1:Nat):Int)) (by simp)),.i (r.length+1),.x (l:=Uy O.reverse) (i:=0+(r.length+1)) (xs:=Fa z) (by rw [Zz]; exact gz),.k co,.k cg,.t (decide_eq_true hg),.r 42 (eI (b:=((r.length+1:Nat):Int)) (by simp)),.i (r.length+1)] rfl ?_;exact rd (true,y::r) (by simp) hin rfl
 ·obtain rfl:i=R.length:=by omega
  rw [Q5];exact Uc [.f (by simp [hcl])] rfl
theorem pJ {sg:Uj->Int} {R:List Pt} (h:R≠[]):0<(S9 sg R).length:=by
 unfold S9;rw [Xn];obtain ⟨x,hx⟩:∃ x,R.getLast? = some x:=⟨_,Yl h⟩;obtain ⟨l,hl⟩:=Y6.1 hx;rw [hl,A0]; simp
theorem gX {α:Type} (s:α->α->α->Bool) (c:α):∀ {st:List α},st≠[]->0<(Lb s c st).length
 | [],h=>absurd rfl h
 | [_],_=>by simp [Lb]
 |
  b::a::r,_=>by
  simp only [Lb]
  split
  ·simp
  ·exact gX s c (by simp)
theorem BF {sg:Uj->Int} {R:List Pt} (h:2<=R.length):2<=(S9 sg R).length:=by
 unfold S9;rw [Xn];obtain ⟨x,hx⟩:∃ x,R.getLast? = some x:=⟨_,Yl (by intro e; rw [e] at h; simp at h)⟩;obtain ⟨l,hl⟩:=Y6.1 hx;have hl0:l≠[]:=by intro e; rw [hl,e] at h; simp at h
 have:=pJ (sg:=sg) hl0;unfold S9 at this;rw [Xn] at this;have:=gX (UM sg) x (st:=Pq (UM sg) [] l) (by intro e; rw [e] at this; simp at this);rw [hl,A0,Q7]; omega
theorem dR {R:List Pt} {t:Tm} (hR:∀ p∈R,Sc p.c) (hn:R.length≤1000000) (ht:Va t):Ug 164 [.agg (ta t),.one (pts R)] [.one (pts (Lq (Fq t) R))]:=by
 have hcl:=Gz R;have hrl:=Gz R.reverse;rw [Xn] at hrl;show Ug 164 [.agg (ta t),.one (.row (Uy R))] [.one (.row (Uy (Lq (Fq t) R)))];refine Fw func164 rfl ?_;by_cases h3:R.length<3
 ·have e:Lq (Fq t) R=R:=if_pos h3;rw [e];exact Uc [.T] rfl
 have c1:=dW hR hn ht;have c2:=dW (R:=R.reverse) (λp hp=>hR p (Jh.1 hp)) (by rw [Xn]; exact hn) ht;have p1:=BF (sg:=Fq t) (R:=R) (by omega);have p2:=BF (sg:=Fq t) (R:=R.reverse) (by rw [Xn]; omega);have k1:=QZ (Fq t) R;have k2:=QZ (Fq t) R.reverse;rw [Xn] at k2;refine go tt [.F,.o 5 40 5,.r 15 (eI (b:=(R.length:Int)-1-((0:Nat):Int)) (by omega))] rfl (by simp [Uz,hcl]; omega) ?_;refine Uf (S:=Nat) 2 (λL1 j=>(6,.v (.oi ((R.length:Int)-1-(j:Int))))::(5,.v (.one (.orow 1 5 none)))::L1) (λj=>[.blk 177 (ta t),.row false 40 5 (Uy (R.reverse.take j))]) (λj=>R.length-j) (λj=>j<=R.length) 0 (Qh _) rfl rfl λj hj=>?_
 by_cases hlt:j<R.length
 ·obtain ⟨x,hx⟩:=gxE (l:=R) (i:=R.length-1-j) (by omega);have hx':R.reverse[j]? = some x:=by rw [List.getElem?_reverse (by omega)]; exact hx
  have hm:∀ y∈[Fa x],y.length=5:=λy hy=>by rw [Qk.1 hy]; rfl
  have e:Uy (R.reverse.take (j+1))=Uy (R.reverse.take j)++[Fa x]:=by rw [Zv,hx']; simp [Uy]
  have htl:(Uy (R.reverse.take j)).length=j:=by rw [Gz,Qt,Xn]; omega
  refine go tt [.T,.r 22 (eI (b:=((R.length-1-j:Nat):Int)) (by omega)),.x (So hx),.s (sz:=5) hm,.r 19 (eI (b:=(R.length:Int)-1-((j+1:Nat):Int)) (by omega))] rfl (by simp [Uz,htl]; omega) ?_;exact rd (j+1) (by omega) hlt (by rw [e]; rfl)
 ·obtain rfl:j=R.length:=by omega
  rw [Qn (by rw [Xn]; exact Ql _)];obtain ⟨A,hA⟩:=nmE (S9 (Fq t) R);obtain ⟨C,hC⟩:=nmE (S9 (Fq t) R.reverse);have e:Lq (Fq t) R=A.dropLast++C.dropLast:=by rw [hA,hC]; exact if_neg h3
  rw [<-hA] at c1 p1 k1;rw [<-hC] at c2 p2 k2;rw [e];have hs:∀ y∈(C.map Fa).take (C.length-1),y.length=5:=λy hy=>YS C y (Qo hy)
  have hs2:∀ y∈(A.map Fa).take (A.length-1),y.length=5:=λy hy=>YS A y (Qo hy)
  refine Uc [.F,.p 1,.k c1,.k c2,.r 36 (eI (b:=((A.length-1:Nat):Int)) (by simp; omega)),.r 39 (eI (b:=((A.length-1:Nat):Int)) (by simp; omega)),.i (A.length-1),.r 44 (eI (b:=((C.length-1:Nat):Int)) (by simp; omega)),.i (C.length-1),.s (sz:=5) hs] rfl (by simp [Uy,Js,List.dropLast_eq_take]) ?_;simp only [Uz,Qt,Q8]
  and_intros <;> first | exact hs2 | omega
theorem TP {l:List Pt} {t:Tm} (hl:∀ p∈l,Sc p.c) (hn:l.length≤1000000) (ht:Va t):U5 prog 161 [.agg (ta t),.one (pts l)] [] [.one (.orow 0 7 none)] [.row false 120 7 (U6 (Sp (Fq t) l))]:=by
 have hcl:=Gz l;show U5 prog 161 [.agg (ta t),.one (.row (Uy l))] [] [.one (.orow 0 7 none)] [.row false 120 7 (U6 (Sp (Fq t) l))];refine Fw func161 rfl ?_;refine Ua [.o 5 120 7] rfl ?_;refine Uf (S:=Nat) 2 (λL1 i=>(6,.v (.oi ((i+1:Nat):Int)))::(5,.v (.one (.orow 1 7 none)))::L1) (λi=>[.blk 177 (ta t),.row false 120 7 (U6 ((Sp (Fq t) l).take i))]) (λi=>l.length-i) (λi=>i<=l.length-1) 0 (Qh _) rfl rfl λi hi=>?_
 by_cases hlt:i+1<l.length
 ·obtain ⟨a,ha⟩:=gxE (l:=l) (i:=i) (by omega);obtain ⟨b,hb⟩:=gxE (l:=l) (i:=i+1) hlt;have hg:=RL (Fq t) ha hb;have hm:∀ y∈[Da (QP (Fq t) a b)],y.length=7:=λy hy=>by rw [Qk.1 hy]; rfl
  refine go tt [.t (by simp [hcl]; omega),.r 19 (eI (b:=(i:Int)) (by simp)),.x (So ha),.x (So hb),.k (cA (hl a (Qa ha)) (hl b (Qa hb)) ht),.s (sz:=7) hm,.r 14 (eI (b:=((i+1+1:Nat):Int)) (by simp))] rfl (by simp [Uz,Gz,Pa,Bl]; omega) ?_;exact rd (i+1) (by omega) (by omega) (by rw [hg]; simp [U6]; rfl)
 ·have e:(Sp (Fq t) l).take i=Sp (Fq t) l:=Qn (by rw [Bl]; omega);rw [e];exact Ue [] [1] [.f (by simp [hcl]; omega)] rfl
theorem wC {C:List Pt} {i:Nat} {a b:Pt} (ha:C[i]? = some a) (hb:C[(i+1) % C.length]? = some b):(Rk C)[i]? = some (a,b):=by
 have hi:=(Qf.1 ha).1;unfold Rk;rw [List.getElem?_zip_eq_some];refine ⟨ha,?_⟩;by_cases h:i+1<C.length
 ·rw [Xs h] at hb;rw [Zg (by rw [Zl]; omega),Xc,Jr]; exact hb
 ·have e:i+1=C.length:=by omega
  rw [e,Nat.mod_self] at hb;rw [Z8 (by rw [Zl]; omega),Zl,show i-(C.length-1)=0 by omega,Kd (by omega)]; exact hb
theorem wL (C:List Pt):(Rk C).length=C.length:=by
 unfold Rk;rw [List.length_zip,Qy,Zl,Qt]; omega
theorem EU {α β:Type} {f:α->List β} {l:List α} {i:Nat} {x:α} (h:l[i]? = some x):(l.take (i+1)).flatMap f=(l.take i).flatMap f++f x:=by
 rw [Zv,h]; simp
theorem TZ {α β:Type} {f:α->β} {p:α->Bool} {l:List α} {i:Nat} {x:α} (h:l[i]? = some x):((l.take (i+1)).filter p).map f=((l.take i).filter p).map f++if p x=true then [f x] else []:=by
 rw [Zv,h,Vj,Yc];congr 1;simp only [Option.toList];by_cases hp:p x=true
 ·rw [if_pos hp,X1 hp]; rfl
 ·rw [if_neg hp,Ju hp]; rfl
theorem uX {α β:Type} {f:α->List β} {n:Nat} (hf:∀ x,(f x).length<=n) (l:List α):(l.flatMap f).length<=l.length*n:=KY f n l λx _=>hf x
theorem iO {l:List Pt} (hl:∀ p∈l,Sc p.c):∀ p∈l,oY 4294967294 1073741824 p:=λp hp=>⟨(hl p hp).n,(hl p hp).c.mono (by decide) (by decide)⟩
set_option maxHeartbeats 4000000 in
theorem AP {l:List Pt} {a:Tm} {c:Cr} {r1:Up} (hl:∀ p∈l,Sc p.c) (hn:l.length≤10) (ha:Va a):U5 prog 130 [.one (.ow 0 0),.agg (ta a)] [.blk 189 (Hq c (Uy l) r1)] [.one (.row (U6 (TS l a)))] [.blk 189 (Hq c (Uy l) (brH l a))]:=by
 have hwl:=Oy l;have cw:=sD (l:=l) (iO hl) (by omega);have cr:=kK (l:=Te l) (λp hp=>hl p (Nj hp)) (by omega) ha;have cn:=dR (R:=Tq a (Te l)) (λp hp=>hl p (Nj (Hm.1 hp))) (by rw [Ng]; omega) ha;have cr2:=kK hl (by omega) ha;have cc:=TP (l:=Tq a l) (t:=a) (λp hp=>hl p (Hm.1 hp)) (by rw [Ng]; omega) ha;have hCm:∀ p∈S7 l a,p∈l:=λp hp=>Iw hp
 have hCl:=JI l a;have e0:TS l a=O2 l a++Nt (Fq a) l (S7 l a):=rfl;rw [e0];show U5 prog 130 _ _ _ [.blk 189 (Hq c (Uy l) (Uy (S7 l a)))];have cn:Ug 164 [.agg (ta a),.one (pts (Tq a (Te l)))] [.one (pts (S7 l a))]:=cn;have cc:U5 prog 161 [.agg (ta a),.one (pts (Tq a l))] [] [.one (.orow 0 7 none)] [.row false 120 7 (U6 (O2 l a))]:=cc;have hbl:(O2 l a).length<=10:=by unfold O2; rw [Bl,Ng]; omega
 obtain ⟨C,hC⟩:=nmE (S7 l a);obtain ⟨cs0,hc0⟩:=nmE (O2 l a);rw [<-hC] at cn hCm hCl ⊢;rw [<-hc0] at cc hbl ⊢;have hcp:=Gz C;have hlp:=Gz l;have eel:∀ x,(E7 (Fq a) l x).length<=l.length:=λx=>by unfold E7; rw [List.length_map]; exact List.length_filter_le _ _
 refine Fw func130 rfl ?_;refine Ua [.k cw,.k cr,.k cn,.k If,.k cr2,.c [2] cc] rfl ?_;by_cases h2:C.length<2
 ·have e:Nt (Fq a) l C=[]:=if_pos h2;rw [e,Zw];exact Ue [2] [0] [.t (decide_eq_true (by simp; omega))] rfl
 have e:Nt (Fq a) l C=(Rk C).flatMap (E7 (Fq a) l):=if_neg h2;rw [e];refine Ua [.f (decide_eq_false (by simp; omega))] rfl ?_;refine sb [(48,.v (.oi 0)),(47,.v (.oi ((C.map Fa).length:Int))),(46,.v (.one (pts C))),(6,.v (.one (.orow 2 7 none))),(3,.v (.one (.ow 1 0))),(0,.v (.one (.ow 0 0)))] [.blk 189 (Hq c (Uy l) (Uy C)),.blk 177 (ta a),.row false 120 7 (U6 cs0)] rfl rfl ?_;rw [show U6 cs0=U6 (cs0++((Rk C).take 0).flatMap (E7 (Fq a) l)) by simp];refine Uf (S:=Nat) 3 (λL1 i=>(48,.v (.oi i))::(6,.v (.one (.orow 2 7 none)))::L1) (λi=>[.blk 189 (Hq c (Uy l) (Uy C)),.blk 177 (ta a),.row false 120 7 (U6 (cs0++((Rk C).take i).flatMap (E7 (Fq a) l)))]) (λi=>C.length-i) (λi=>i<=C.length) 0 (Qh _) rfl rfl λi hi=>?_
 by_cases hlt:i<C.length
 ·obtain ⟨x,hx⟩:=gxE (l:=C) (i:=i) hlt;obtain ⟨y,hy⟩:=gxE (l:=C) (i:=(i+1) % C.length) (Z5 _ (by omega));have he:=wC hx hy;have sx:=hl x (hCm x (Qa hx));have sy:=hl y (hCm y (Qa hy));have hflat:=EU (f:=E7 (Fq a) l) he;obtain ⟨F,hF⟩:=nmE (cs0++((Rk C).take i).flatMap (E7 (Fq a) l));have hFl:F.length<=10+20*10:=by
   have h1:=uX eel ((Rk C).take i);have h2:((Rk C).take i).length*l.length<=20*10:=Zi (by rw [Qt]; omega) hn;rw [hF,Qy]; omega
  have hmod:(((i+1:Nat):Int)).tmod ((C.map Fa).length:Int)=(((i+1) % C.length:Nat):Int):=by rw [Q8]; exact (Int.ofNat_tmod _ _).symm
  have hm0:=Vh ((i+1:Nat):Int) (show (C.length:Int)≠0 by omega);have hm1:=Yu ((i+1:Nat):Int) (show (0:Int)<C.length by omega);have hnext:cs0++((Rk C).take (i+1)).flatMap (E7 (Fq a) l)=F++(l.filter (VJ (x,y))).map λc=>D3 (Fq a) x y c:=by rw [hflat,<-Zb,<-hF]; rfl
  rw [<-hF];refine go tt [.t (decide_eq_true (by simp; omega)),.x (So hx),.r 58 (eI (b:=((i+1:Nat):Int)) (by simp)),.r 64 (eI (b:=(((i+1) % C.length:Nat):Int)) hmod),.x (So hy),.k If] rfl (by simp only [Uz]; omega) ?_;rw [show U6 F=U6 (F++((l.take 0).filter (VJ (x,y))).map λc=>D3 (Fq a) x y c) by simp];refine Uf (S:=Nat) 5 (λL1 k=>(73,.v (.oi k))::(6,.v (.one (.orow 2 7 none)))::L1) (λk=>[.blk 189 (Hq c (Uy l) (Uy C)),.blk 177 (ta a),.row false 120 7 (U6 (F++((l.take k).filter (VJ (x,y))).map λc=>D3 (Fq a) x y c)),.blk 40 (Fa x),.blk 40 (Fa y)]) (λk=>l.length-k) (λk=>k<=l.length) 0 (Qh _) rfl rfl λk hk=>?_
  by_cases hlk:k<l.length
  ·obtain ⟨z,hz⟩:=gxE (l:=l) (i:=k) hlk;have sz:=hl z (Qa hz);have hflt:=TZ (f:=λc=>D3 (Fq a) x y c) (p:=VJ (x,y)) hz;obtain ⟨G,hG⟩:=nmE (((l.take k).filter (VJ (x,y))).map λc=>D3 (Fq a) x y c);have hGl:G.length<=10:=by
    have h1:=Yy (VJ (x,y)) (l.take k);rw [Qt] at h1;rw [hG,Q8]; omega
   rw [<-hG] at hflt ⊢;by_cases h1:z.id=x.id
   ·rw [if_neg (show ¬VJ (x,y) z=true by simp [VJ,h1]),Zw] at hflt;refine Ub [.t (decide_eq_true (by simp; omega)),.x (So hz),.g 82 false (decide_eq_false (by simp [h1])),.f rfl] rfl ?_;exact rd (k+1) (by omega) hlk (by rw [hflt]; rfl)
   ·by_cases h2:z.id=y.id
    ·rw [if_neg (show ¬VJ (x,y) z=true by simp [VJ,h2]),Zw] at hflt;refine Ub [.t (decide_eq_true (by simp; omega)),.x (So hz),.g 82 true (decide_eq_true h1),.f (decide_eq_false (by simp [h2]))] rfl ?_;exact rd (k+1) (by omega) hlk (by rw [hflt]; rfl)
    ·rw [if_pos (show VJ (x,y) z=true by simp [VJ,h1,h2])] at hflt;have hm:∀ q∈[Da (D3 (Fq a) x y z)],q.length=7:=λq hq=>by rw [Qk.1 hq]; rfl
     refine go tt [.t (decide_eq_true (by simp; omega)),.x (So hz),.g 82 true (decide_eq_true h1),.t (decide_eq_true h2),.k (cI sx sy sz ha),.s (sz:=7) hm] rfl (by simp [Uz,Pa]; omega) ?_;have e3:U6 (F++(G++[D3 (Fq a) x y z]))=U6 (F++G)++[Da (D3 (Fq a) x y z)]:=by simp [U6]
     exact rd (k+1) (by omega) hlk (by rw [hflt,e3]; rfl)
  ·obtain rfl:k=l.length:=by omega
   rw [Q5,<-hnext];refine Ub [.f (decide_eq_false (by simp))] rfl ?_;exact rd (i+1) (by omega) hlt rfl
 ·obtain rfl:i=C.length:=by omega
  rw [Qn (by rw [wL]; exact Ql _)];exact Ue [2] [0] [.f (decide_eq_false (by simp))] rfl
theorem ozM {P:Program} [Mo P] {n:Nat} {Q:Exit->Sg->Uq->Prop} {L L':Sg} {B B':Uq} (d off T sz:Nat) {it:List It} (hs:Rf it=true) (h:nG (P:=P) d L B [.oc d off T sz]=some (L',B',[],[])) (k:AK P n Q it L' B'):AK P n Q it L B:=AK.sub (LM h EqOk.nil) hs k
theorem zO {k:Crv} (hk:Sc k):Ug 241 [.agg (cl k)] [.one (.row (JX (ZZ k)))]:=by
 have ok:=FZ hk.n hk.c;have l1:=Sy k.x k.x;have l2:=Sy k.y k.y;have:=hk.c.lx;have:=hk.c.ly;have bx:Bd 258 (Gk k.x k.x):=Mf (u:=2) hk.c.x hk.c.x (by omega);have by_:Bd 258 (Gk k.y k.y):=Mf (u:=2) hk.c.y hk.c.y (by omega);have c1:=My (p:=k.x) (c:=k.d) (by omega) (U0 hk.c.x (by decide)) (Qc hk.c.d (by decide));have c2:=My (p:=k.y) (c:=k.d) (by omega) (U0 hk.c.y (by decide)) (Qc hk.c.d (by decide));have c3:=GL (p:=k.x) (q:=k.x) hk.n.1 hk.n.1 (by omega) (by omega) hk.c.x hk.c.x (by decide);have c4:=GL (p:=k.y) (q:=k.y) hk.n.2.1 hk.n.2.1 (by omega) (by omega) hk.c.y hk.c.y (by decide);have c5:=zD (p:=Gk k.x k.x) (q:=Gk k.y k.y) (by omega) (by omega) (U0 bx (by decide)) (U0 by_ (by decide));have c6:=Np (U3 k.d) (U3 k.d) (Qc hk.c.d (by decide)) (Qc hk.c.d (by decide));have hl:∀ p∈ZZ k,p.length≤1000000:=λp hp=>by
  obtain ⟨j,hj⟩:=Xt hp;have h1:=ok.2 j p hj;have:[2,2,4,0].getD j 0<=4:=by
   match j with
   | 0=>decide
   | 1=>decide
   | 2=>decide
   | 3=>decide
   | j+4=>simp
  omega
 have cd:=Qdg (r:=ZZ k) (λp hp=>(ok.1 p hp).1) (λp hp=>U0 (ok.1 p hp).2 (by decide)) hl (by show 4<=1000; decide);exact Ud func241 rfl [.k (Dh hk.n (hk.c.mono (by decide) (by decide))),.k c1,.k c2,.k c3,.k c4,.k c5,.k c6,.k cd] rfl
theorem Qdn {a b c d:Crv} (ha:Sc a) (hb:Sc b) (hc:Sc c) (hd:Sc d):Ug 199 [.agg (cl a),.agg (cl b),.agg (cl c),.agg (cl d)] [pr (VS a b c d)]:=by
 have cd:=Qqh (by decide) (k:=4) (ds:=[2,2,4,0]) (by decide) rfl (by decide) (rP ha.n hb.n hc.n hd.n ha.c hb.c hc.c hd.c);exact Ud func199 rfl [.k (zO ha),.k (zO hb),.k (zO hc),.k (zO hd),.k cd] rfl
set_option maxHeartbeats 1000000 in
theorem Qlu {a b c d:Pt} {t:Tm} (ha:Sc a.c) (hb:Sc b.c) (hc:Sc c.c) (hd:Sc d.c) (ht:Va t):Ug 163 [.oi 4,.agg (ta t),.one (.row [Fa a,Fa b,Fa c,Fa d])] [.agg (Da (ON (Fq t) a b c d)),.oi 0]:=by
 have hp:=(dO ha hb hc hd).dp;have e:Da (ON (Fq t) a b c d)=[.int .i64 4,.int .i64 a.id,.int .i64 b.id,.int .i64 c.id,.int .i64 d.id,pl (VS a.c b.c c.c d.c),.int .i64 (Hg (Fq t) (VS a.c b.c c.c d.c))]:=by rw [ON]
 rw [e];have cg:=TM hp ht;have cf:=Qdn ha hb hc hd;generalize VS a.c b.c c.c d.c=F at *;refine Fw func163 rfl ?_;refine Ua [.k Qan,.f rfl] rfl ?_;refine Uf (S:=Nat) 3 (λL1 i=>(22,.v (.oi i))::L1) (λi=>[.blk 177 (ta t),.blk 120 zCt,.blk 120 [.int .i64 4,.int .i64 (if 1<=i then a.id else 0),.int .i64 (if 2<=i then b.id else 0),.int .i64 (if 3<=i then c.id else 0),.int .i64 (if 4<=i then d.id else 0),.nils,.int .i64 0]]) (λi=>4-i) (λi=>i<=4) 0 (Qh _) rfl rfl λi hi=>?_
 rcases (show i=0\/i=1\/i=2\/i=3\/i=4 by omega) with rfl | rfl | rfl | rfl | rfl
 ·refine Ua [.t rfl,.x (i:=0) (xs:=Fa a) rfl,.i 0] rfl ?_ (by simp [Uz]);exact rd 1 (by omega) (by omega) rfl
 ·refine Ua [.t rfl,.x (i:=1) (xs:=Fa b) rfl,.i 1] rfl ?_ (by simp [Uz]);exact rd 2 (by omega) (by omega) rfl
 ·refine Ua [.t rfl,.x (i:=2) (xs:=Fa c) rfl,.i 2] rfl ?_ (by simp [Uz]);exact rd 3 (by omega) (by omega) rfl
 ·refine Ua [.t rfl,.x (i:=3) (xs:=Fa d) rfl,.i 3] rfl ?_ (by simp [Uz]);exact rd 4 (by omega) (by omega) rfl
 ·exact Uc [.f rfl,.f rfl,.f rfl,.f rfl,.t rfl,.x (i:=0) (xs:=Fa a) rfl,.x (i:=1) (xs:=Fa b) rfl,.x (i:=2) (xs:=Fa c) rfl,.x (i:=3) (xs:=Fa d) rfl,.k cf,.k cg] rfl
def uZ (T:No) (s:Int) (n:Uj) (F:No) (k:Nat):No:=(List.range k).foldl (I0 T s n) F
theorem pC (T:No) (s:Int) (n:Uj) (F:No) (k:Nat):uZ T s n F (k+1)=I0 T s n (uZ T s n F k) k:=by unfold uZ; rw [List.range_succ,List.foldl_append]; rfl
theorem pB (T:No) (s:Int) (n:Uj) (F:No):uZ T s n F 4=IS T s n F:=rfl
set_option maxHeartbeats 4000000 in
theorem Qsr {F T:No} {s n0 n1 n2 n3:Int} (hT:vR T) (hs:-1<=s/\s<=1):U5 prog 171 [.one (.omap 0),.one (.omap 1),.oi s,.agg [.int .i64 n0,.int .i64 n1,.int .i64 n2,.int .i64 n3]] [.mpb F,.mpb T] [] [.mpb (IS T s [n0,n1,n2,n3] F),.mpb T]:=by
 have hm:Qkx T:=λk=>(hT k).1
 have hb:=λ(k:Uj) (x:Int) (hx:-1<=x/\x<=1)=>Qbn (hT k).2 hx
 rw [<-pB];obtain ⟨f,hf⟩:=nmE (uZ T s [n0,n1,n2,n3] F);have f0:F=f 0:=by rw [hf]; rfl
 have fs:∀ k,f (k+1)=I0 T s [n0,n1,n2,n3] (f k) k:=λk=>by rw [hf]; exact pC ..
 rw [<-hf];rw [f0];clear hf f0;refine Fw func171 rfl ?_;refine Ua [] rfl ?_;refine Uf (S:=Nat) 3 (λL1 k=>(14,.v (.oi k))::L1) (λk=>[.mpb (f k),.mpb T,.blk 116 [.int .i64 n0,.int .i64 n1,.int .i64 n2,.int .i64 n3]]) (λk=>4-k) (λk=>k<=4) 0 (by decide) rfl rfl λk hk=>?_
 rcases (show k=0\/k=1\/k=2\/k=3\/k=4 by omega) with rfl | rfl | rfl | rfl | rfl
 ·have e1:=fs 0;have e2:I0 T s [n0,n1,n2,n3] (f 0) 0=if ZW T [n1,n2,n3]*(-s)>0 then Lp (f 0) [n1,n2,n3] (.bool true) else f 0:=rfl
  rw [e2] at e1;refine Ua [.t rfl] rfl ?_;refine Uf (S:=Nat) 4 (λL1 i=>(18,.v (.oi i))::(10,.v (.oi (if i<=0 then (i:Int) else (i:Int)-1)))::L1) (λi=>[.mpb (f 0),.mpb T,.blk 116 [.int .i64 n0,.int .i64 n1,.int .i64 n2,.int .i64 n3],.blk 76 [.int .i64 (if 2<=i then n1 else 0),.int .i64 (if 3<=i then n2 else 0),.int .i64 (if 4<=i then n3 else 0)]]) (λi=>4-i) (λi=>i<=4) 0 (by decide) rfl rfl λi hi=>?_
  rcases (show i=0\/i=1\/i=2\/i=3\/i=4 by omega) with rfl | rfl | rfl | rfl | rfl
  ·refine Ua [.t rfl,.i 0,.f rfl] rfl ?_ (by simp [Uz]);exact rd 1 (by omega) (by omega) rfl
  ·refine Ua [.t rfl,.i 1,.t rfl,.i 0] rfl ?_ (by simp [Uz]);exact rd 2 (by omega) (by omega) rfl
  ·refine Ua [.t rfl,.i 2,.t rfl,.i 1] rfl ?_ (by simp [Uz]);exact rd 3 (by omega) (by omega) rfl
  ·refine Ua [.t rfl,.i 3,.t rfl,.i 2] rfl ?_ (by simp [Uz]);exact rd 4 (by omega) (by omega) rfl
  ·have hbb:=hb [n1,n2,n3] (-s) (by omega);by_cases hc:ZW T [n1,n2,n3]*(-s)>0
   ·rw [if_pos hc] at e1;refine go tt [.f rfl,.t rfl,.t (decide_eq_true hc)] rfl (by simp only [Uz]; first | exact ⟨⟨by omega,by omega⟩,hbb,hm,⟨by omega,by omega⟩,by decide,by omega,by omega⟩ | exact ⟨⟨by omega,by omega⟩,hbb,hm,by decide,by omega,by omega⟩) ?_;exact rd 1 (by omega) (by omega) (by rw [e1]; rfl)
   ·rw [if_neg hc] at e1;refine go tt [.f rfl,.t rfl,.f (decide_eq_false hc)] rfl (by simp only [Uz]; first | exact ⟨⟨by omega,by omega⟩,hbb,hm,⟨by omega,by omega⟩,by decide,by omega,by omega⟩ | exact ⟨⟨by omega,by omega⟩,hbb,hm,by decide,by omega,by omega⟩) ?_;exact rd 1 (by omega) (by omega) (by rw [e1]; rfl)
 ·have e1:=fs 1;have e2:I0 T s [n0,n1,n2,n3] (f 1) 1=if ZW T [n0,n2,n3]*s>0 then Lp (f 1) [n0,n2,n3] (.bool true) else f 1:=rfl
  rw [e2] at e1;refine Ua [.t rfl] rfl ?_;refine Uf (S:=Nat) 4 (λL1 i=>(18,.v (.oi i))::(10,.v (.oi (if i<=1 then (i:Int) else (i:Int)-1)))::L1) (λi=>[.mpb (f 1),.mpb T,.blk 116 [.int .i64 n0,.int .i64 n1,.int .i64 n2,.int .i64 n3],.blk 76 [.int .i64 (if 1<=i then n0 else 0),.int .i64 (if 3<=i then n2 else 0),.int .i64 (if 4<=i then n3 else 0)]]) (λi=>4-i) (λi=>i<=4) 0 (by decide) rfl rfl λi hi=>?_
  rcases (show i=0\/i=1\/i=2\/i=3\/i=4 by omega) with rfl | rfl | rfl | rfl | rfl
  ·refine Ua [.t rfl,.i 0,.t rfl,.i 0] rfl ?_ (by simp [Uz]);exact rd 1 (by omega) (by omega) rfl
  ·refine Ua [.t rfl,.i 1,.f rfl] rfl ?_ (by simp [Uz]);exact rd 2 (by omega) (by omega) rfl
  ·refine Ua [.t rfl,.i 2,.t rfl,.i 1] rfl ?_ (by simp [Uz]);exact rd 3 (by omega) (by omega) rfl
  ·refine Ua [.t rfl,.i 3,.t rfl,.i 2] rfl ?_ (by simp [Uz]);exact rd 4 (by omega) (by omega) rfl
  ·have hbb:=hb [n0,n2,n3] s (by omega);by_cases hc:ZW T [n0,n2,n3]*s>0
   ·rw [if_pos hc] at e1;refine go tt [.f rfl,.f rfl,.t (decide_eq_true hc)] rfl (by simp only [Uz]; first | exact ⟨⟨by omega,by omega⟩,hbb,hm,⟨by omega,by omega⟩,by decide,by omega,by omega⟩ | exact ⟨⟨by omega,by omega⟩,hbb,hm,by decide,by omega,by omega⟩) ?_;exact rd 2 (by omega) (by omega) (by rw [e1]; rfl)
   ·rw [if_neg hc] at e1;refine go tt [.f rfl,.f rfl,.f (decide_eq_false hc)] rfl (by simp only [Uz]; first | exact ⟨⟨by omega,by omega⟩,hbb,hm,⟨by omega,by omega⟩,by decide,by omega,by omega⟩ | exact ⟨⟨by omega,by omega⟩,hbb,hm,by decide,by omega,by omega⟩) ?_;exact rd 2 (by omega) (by omega) (by rw [e1]; rfl)
 ·have e1:=fs 2;have e2:I0 T s [n0,n1,n2,n3] (f 2) 2=if ZW T [n0,n1,n3]*(-s)>0 then Lp (f 2) [n0,n1,n3] (.bool true) else f 2:=rfl
  rw [e2] at e1;refine Ua [.t rfl] rfl ?_;refine Uf (S:=Nat) 4 (λL1 i=>(18,.v (.oi i))::(10,.v (.oi (if i<=2 then (i:Int) else (i:Int)-1)))::L1) (λi=>[.mpb (f 2),.mpb T,.blk 116 [.int .i64 n0,.int .i64 n1,.int .i64 n2,.int .i64 n3],.blk 76 [.int .i64 (if 1<=i then n0 else 0),.int .i64 (if 2<=i then n1 else 0),.int .i64 (if 4<=i then n3 else 0)]]) (λi=>4-i) (λi=>i<=4) 0 (by decide) rfl rfl λi hi=>?_
  rcases (show i=0\/i=1\/i=2\/i=3\/i=4 by omega) with rfl | rfl | rfl | rfl | rfl
  ·refine Ua [.t rfl,.i 0,.t rfl,.i 0] rfl ?_ (by simp [Uz]);exact rd 1 (by omega) (by omega) rfl
  ·refine Ua [.t rfl,.i 1,.t rfl,.i 1] rfl ?_ (by simp [Uz]);exact rd 2 (by omega) (by omega) rfl
  ·refine Ua [.t rfl,.i 2,.f rfl] rfl ?_ (by simp [Uz]);exact rd 3 (by omega) (by omega) rfl
  ·refine Ua [.t rfl,.i 3,.t rfl,.i 2] rfl ?_ (by simp [Uz]);exact rd 4 (by omega) (by omega) rfl
  ·have hbb:=hb [n0,n1,n3] (-s) (by omega);by_cases hc:ZW T [n0,n1,n3]*(-s)>0
   ·rw [if_pos hc] at e1;refine go tt [.f rfl,.t rfl,.t (decide_eq_true hc)] rfl (by simp only [Uz]; first | exact ⟨⟨by omega,by omega⟩,hbb,hm,⟨by omega,by omega⟩,by decide,by omega,by omega⟩ | exact ⟨⟨by omega,by omega⟩,hbb,hm,by decide,by omega,by omega⟩) ?_;exact rd 3 (by omega) (by omega) (by rw [e1]; rfl)
   ·rw [if_neg hc] at e1;refine go tt [.f rfl,.t rfl,.f (decide_eq_false hc)] rfl (by simp only [Uz]; first | exact ⟨⟨by omega,by omega⟩,hbb,hm,⟨by omega,by omega⟩,by decide,by omega,by omega⟩ | exact ⟨⟨by omega,by omega⟩,hbb,hm,by decide,by omega,by omega⟩) ?_;exact rd 3 (by omega) (by omega) (by rw [e1]; rfl)
 ·have e1:=fs 3;have e2:I0 T s [n0,n1,n2,n3] (f 3) 3=if ZW T [n0,n1,n2]*s>0 then Lp (f 3) [n0,n1,n2] (.bool true) else f 3:=rfl
  rw [e2] at e1;refine Ua [.t rfl] rfl ?_;refine Uf (S:=Nat) 4 (λL1 i=>(18,.v (.oi i))::(10,.v (.oi (if i<=3 then (i:Int) else (i:Int)-1)))::L1) (λi=>[.mpb (f 3),.mpb T,.blk 116 [.int .i64 n0,.int .i64 n1,.int .i64 n2,.int .i64 n3],.blk 76 [.int .i64 (if 1<=i then n0 else 0),.int .i64 (if 2<=i then n1 else 0),.int .i64 (if 3<=i then n2 else 0)]]) (λi=>4-i) (λi=>i<=4) 0 (by decide) rfl rfl λi hi=>?_
  rcases (show i=0\/i=1\/i=2\/i=3\/i=4 by omega) with rfl | rfl | rfl | rfl | rfl
  ·refine Ua [.t rfl,.i 0,.t rfl,.i 0] rfl ?_ (by simp [Uz]);exact rd 1 (by omega) (by omega) rfl
  ·refine Ua [.t rfl,.i 1,.t rfl,.i 1] rfl ?_ (by simp [Uz]);exact rd 2 (by omega) (by omega) rfl
  ·refine Ua [.t rfl,.i 2,.t rfl,.i 2] rfl ?_ (by simp [Uz]);exact rd 3 (by omega) (by omega) rfl
  ·refine Ua [.t rfl,.i 3,.f rfl] rfl ?_ (by simp [Uz]);exact rd 4 (by omega) (by omega) rfl
  ·have hbb:=hb [n0,n1,n2] s (by omega);by_cases hc:ZW T [n0,n1,n2]*s>0
   ·rw [if_pos hc] at e1;refine go tt [.f rfl,.f rfl,.t (decide_eq_true hc)] rfl (by simp only [Uz]; first | exact ⟨⟨by omega,by omega⟩,hbb,hm,⟨by omega,by omega⟩,by decide,by omega,by omega⟩ | exact ⟨⟨by omega,by omega⟩,hbb,hm,by decide,by omega,by omega⟩) ?_;exact rd 4 (by omega) (by omega) (by rw [e1]; rfl)
   ·rw [if_neg hc] at e1;refine go tt [.f rfl,.f rfl,.f (decide_eq_false hc)] rfl (by simp only [Uz]; first | exact ⟨⟨by omega,by omega⟩,hbb,hm,⟨by omega,by omega⟩,by decide,by omega,by omega⟩ | exact ⟨⟨by omega,by omega⟩,hbb,hm,by decide,by omega,by omega⟩) ?_;exact rd 4 (by omega) (by omega) (by rw [e1]; rfl)
 ·exact Ue [] [0,1] [.f rfl] rfl
end Orr
