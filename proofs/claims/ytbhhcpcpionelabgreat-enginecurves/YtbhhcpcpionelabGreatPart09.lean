/- TW1 TW2 R3 R4 RefPL R5 R6 RefGL R7 RatOkL R8 R9 RefCL R10 R11 R12 R13 R14 R15 R16 R17 R18 SC1 W1 W2 WR18 WS18 X19 MeshK H2 H3 MD1 MD2 -/
import Derived.Test.YtbhhcpcpionelabGreatPart08
import Derived.Test.YtbhhcpcpionelabGreatPart00
import Derived.Test.YtbhhcpcpionelabGreatPart07
import Derived.Test.YtbhhcpcpionelabGreatPart04
import Derived.Test.YtbhhcpcpionelabGreatPart05
set_option linter.all false
namespace Orr
open Go Go.Proofs Tryz Orq
set_option maxRecDepth 10000
def I6 (l:List (Pt×Pt)):Uq:=l.map Qbw
theorem Qm7 {l m:Uq} (h:l=m):TV.one (LV.row l)=.one (.row m):=h ▸ rfl
theorem oz {P:Program} [Mo P] {n:Nat} {Q:Exit->Sg->Ur->Prop} {L L':Sg} {B B':Ur} (d off T sz:Nat) {it:List It} (hs:H9 it=true) (h:nN (P:=P) d L B [.oc d off T sz]=some (L',B',[],[])) (k:AK P n Q it L' B'):AK P n Q it L B:=AK.sub (LZ h EqOk.nil) hs k
theorem Qlw {a b:Pt} {t:Tm} (ha:Sc a.c) (hb:Sc b.c) (ht:Va t):Uh 163 [.oi 2,.agg (ta t),.one (.row [U6 a,U6 b])] [.agg (C6 (Di (Fl t) a b)),.oi 0]:=by
 have h1:=Mv hb ha;have h2:=Mw hb ha;refine Ft func163 rfl ?_;refine Ub [.k Qap,.f rfl] rfl ?_;refine Ug (S:=Nat) 3 (λL1 i=>(22,.v (.oi i))::L1) (λi=>[.blk 189 (ta t),.blk 136 zCt,.blk 136 [.int .i64 2,.int .i64 (if 1<=i then a.id else 0),.int .i64 (if 2<=i then b.id else 0),.int .i64 0,.int .i64 0,.nils,.int .i64 0]]) (λi=>2-i) (λi=>i<=2) 0 (Qh _) rfl rfl λi hi=>?_
 rcases (show i=0\/i=1\/i=2 by omega) with rfl | rfl | rfl
 ·refine Ub [.t rfl,.x (i:=0) (xs:=U6 a) rfl,.i 0] rfl ?_ (by simp [Uw]);exact rd 1 (by omega) (by omega) rfl
 ·refine Ub [.t rfl,.x (i:=1) (xs:=U6 b) rfl,.i 1] rfl ?_ (by simp [Uw]);exact rd 2 (by omega) (by omega) rfl
 ·exact Ud [.f rfl,.f rfl,.t rfl,.x (i:=1) (xs:=U6 b) rfl,.x (i:=0) (xs:=U6 a) rfl,.k (WR hb.n ha.n hb.cb ha.cb),.x (i:=1) (xs:=U6 b) rfl,.x (i:=0) (xs:=U6 a) rfl,.k (WP hb.n ha.n hb.cb ha.cb),.k kG,.k (TU (JE h1 h2).dp ht)] rfl
theorem Qec {a:Tm} (ha:Va a) {c:Cr} {r0 r1:Uq}:∀ (k:Nat) (l:List Pt) (ms:List (Pt×Pt)),l.length≤k->l.length≤1000->ms.length+l.length≤1000000->(∀ p∈l,Sc p.c)->U0 prog 162 [.one (.ow 0 0),.agg (ta a),.one (pts l)] [.blk 199 [.bool true,pl c.now.p,sg c.now.lo.num,mg c.now.lo.num,sg (c.now.lo.den:Int),mg (c.now.lo.den:Int),sg c.now.hi.num,mg c.now.hi.num,sg (c.now.hi.den:Int),mg (c.now.hi.den:Int),.row (Bp c.l),.int .i64 c.ev,.row r0,.row r1,.orow 1 10 none],.row false 252 10 (I6 ms)] [.one (.row (Uv (Ns (Fl a) l).1))] [.blk 199 [.bool true,pl c.now.p,sg c.now.lo.num,mg c.now.lo.num,sg (c.now.lo.den:Int),mg (c.now.lo.den:Int),sg c.now.hi.num,mg c.now.hi.num,sg (c.now.hi.den:Int),mg (c.now.hi.den:Int),.row (Bp c.l),.int .i64 c.ev,.row r0,.row r1,.orow 1 10 none],.row false 252 10 (I6 (ms++(Ns (Fl a) l).2))]
 := by
  intro k
  induction k with
  | zero=>?_
  | succ k ih=>?_
  all_goals
   intro l ms hk hn hms hl;have hcl:=Gu l;show U0 prog 162 [.one (.ow 0 0),.agg (ta a),.one (.row (Uv l))] _ _ _;by_cases hs:l.length<2
   ·rw [Cc _ hs,Zx];refine Ft func162 rfl ?_;exact Uf [] [0,1] [.t (by simp [hcl]; omega)] rfl
   first
    | (exfalso; omega)
    |
     skip
     obtain ⟨k1,k2,k3,k4⟩:=Qgw hs hk;obtain ⟨h,hh⟩:=nmE ((l.length+1) / 2);obtain ⟨u,hu,hul,_⟩:=M7 (Fl a) k (l.take ((l.length+1) / 2)) k1 k3;obtain ⟨v,hv,hvl,_⟩:=M7 (Fl a) k (l.drop ((l.length+1) / 2)) k2 k4;have g1:=C9 (Fl a) _ (l.take ((l.length+1) / 2)) (Qm _);have g2:=C9 (Fl a) _ (l.drop ((l.length+1) / 2)) (Qm _);have hlt:(l.take ((l.length+1) / 2)).length+(l.drop ((l.length+1) / 2)).length=l.length:=by rw [Qq,Q8]; omega
     have c1:=ih (l.take ((l.length+1) / 2)) ms k1 (by omega) (by omega) λp hp=>hl p (Qo hp)
     have c2:=ih (l.drop ((l.length+1) / 2)) (ms++(Ns (Fl a) (l.take ((l.length+1) / 2))).2) k2 (by omega) (by rw [Qu]; omega) λp hp=>hl p (Qz hp)
     have hpl:=Oj (Fl a) hs hu hv;rw [hpl];rw [hu] at c1;rw [hv] at c2;generalize (Ns (Fl a) (l.take ((l.length+1) / 2))).2=G1 at *;generalize (Ns (Fl a) (l.drop ((l.length+1) / 2))).2=G2 at *;have hsu:=hl u (Qo hul);have hsv:=hl v (Qz hvl);have cb:=Qlj (t:=a) hsu hsv ha;have htd:((l.length:Int)+1).tdiv 2=(((l.length+1) / 2:Nat):Int):=rfl;have hg:∀ m,I6 (ms++(G1++G2++[m]))=I6 ((ms++G1)++G2)++[Qbw m]:=λm=>by simp [I6]
     have hml:(I6 ((ms++G1)++G2)).length=ms.length+G1.length+G2.length:=by simp [I6]; omega
     have hml2:(I6 (ms++(G1++G2))).length=ms.length+G1.length+G2.length:=by simp [I6]; omega
     have h5:=eq_true (p:=∀ z,z∈Uv l->z.length=ti38.sz) (YU l);have e1:(Uv l).take ((l.length+1) / 2)=Uv (l.take ((l.length+1) / 2)):=by simp [Uv,Jt]
     have e2:(Uv l).drop ((l.length+1) / 2)=Uv (l.drop ((l.length+1) / 2)):=by simp [Uv,Vh]
     unfold SD;refine Ft func162 rfl ?_;by_cases hb:Bt (Fl a) u v=true
     ·rw [if_pos hb,hg];exact Uf [] [0,1] [.f (by simp [hcl]; omega),.r 17 (eI (b:=(((l.length+1) / 2:Nat):Int)) (by rw [hcl]; rfl)),.i ((l.length+1) / 2),.r 22 (Qm7 e1),.c [0,1] c1,.i ((l.length+1) / 2),.r 28 (Qm7 e2),.c [0,1] c2,.x (i:=0) (l:=Uv [u]) (xs:=U6 u) rfl,.x (i:=0) (l:=Uv [v]) (xs:=U6 v) rfl,.k cb,.f (by rw [hb]; rfl),.x (i:=0) (l:=Uv [u]) (xs:=U6 u) rfl,.x (i:=0) (l:=Uv [v]) (xs:=U6 v) rfl,.s (sz:=10) (l:=[Qbw (u,v)]) (λc hc=>by rw [Qk.1 hc]; rfl),.i 1] rfl (by simp [Uw,Gu,hml2,h5]; omega)
     ·have hb:Bt (Fl a) u v=false:=by simpa using hb
      rw [if_neg (by simp [hb]),hg];exact Uf [] [0,1] [.f (by simp [hcl]; omega),.r 17 (eI (b:=(((l.length+1) / 2:Nat):Int)) (by rw [hcl]; rfl)),.i ((l.length+1) / 2),.r 22 (Qm7 e1),.c [0,1] c1,.i ((l.length+1) / 2),.r 28 (Qm7 e2),.c [0,1] c2,.x (i:=0) (l:=Uv [u]) (xs:=U6 u) rfl,.x (i:=0) (l:=Uv [v]) (xs:=U6 v) rfl,.k cb,.t (by rw [hb]; rfl),.x (i:=0) (l:=Uv [v]) (xs:=U6 v) rfl,.x (i:=0) (l:=Uv [u]) (xs:=U6 u) rfl,.s (sz:=10) (l:=[Qbw (v,u)]) (λc hc=>by rw [Qk.1 hc]; rfl),.i 1] rfl (by simp [Uw,Gu,hml2,h5]; omega)
theorem AP {l:List Pt} {a:Tm} {c:Cr} {r1:Uq×Uq} (hl:∀ p∈l,Sc p.c) (hn:l.length≤1000) (ha:Va a):U0 prog 128 [.one (.ow 0 0),.agg (ta a)] [.blk 199 (Tl c (Uv l) r1)] [.one (.row (U3 (AY l a)))] [.blk 199 (Tl c (Uv l) (brT l a))]:=by
 have cp:=Qec (r0:=Uv l) (c:=c) (r1:=r1.1) ha l.length l [] (Qm _) hn (by show 0+l.length≤1000000; omega) hl;have hms:=C9 (Fl a) l.length l (Qm _);unfold AY brT;obtain ⟨M,hM⟩:=nmE ((Ns (Fl a) l).2);have hmm:∀ m∈M,Sc m.1.c/\Sc m.2.c:=λm hm=>by
  rw [hM] at hm;exact ⟨hl _ (XL m hm).1,hl _ (XL m hm).2⟩
 rw [<-hM] at cp hms ⊢;rw [Yg] at cp;have hgl:(I6 M).length=M.length:=by simp [I6]
 refine Ft func128 rfl ?_;refine Ub [] rfl ?_;refine oz 0 14 252 10 rfl rfl ?_;refine Ub [.k Ig,.c [0,2] cp,.o 5 136 7] rfl ?_;refine Ug (S:=Nat) 4 (λL1 i=>(29,.v (.oi i))::(5,.v (.one (.orow 3 7 none)))::L1) (λi=>[.blk 199 [.bool true,pl c.now.p,sg c.now.lo.num,mg c.now.lo.num,sg (c.now.lo.den:Int),mg (c.now.lo.den:Int),sg c.now.hi.num,mg c.now.hi.num,sg (c.now.hi.den:Int),mg (c.now.hi.den:Int),.row (Bp c.l),.int .i64 c.ev,.row (Uv l),.row (Uv (Ns (Fl a) l).1),.orow 2 10 none],.blk 189 (ta a),.row false 252 10 (I6 M),.row false 136 7 (U3 ((M.map λm=>Di (Fl a) m.1 m.2).take i))]) (λi=>M.length-i) (λi=>i<=M.length) 0 (Qh _) rfl rfl λi hi=>?_
 by_cases hlt:i<M.length
 ·obtain ⟨m,hm⟩:=gxE (l:=M) (i:=i) hlt;obtain ⟨s1,s2⟩:=hmm m (Qa hm);have hg:(I6 M)[i]? = some (Qbw m):=Gn hm;have hq:∀ y∈[C6 (Di (Fl a) m.1 m.2)],y.length=7:=λy hy=>by rw [Qk.1 hy]; rfl
  have ht:(M.map λm=>Di (Fl a) m.1 m.2).take (i+1)=(M.map λm=>Di (Fl a) m.1 m.2).take i++[Di (Fl a) m.1 m.2]:=by
   rw [Zw,Zd,hm]; rfl
  refine go tt [.T,.i i,.x hg,.i 0,.i 1,.k (Qlw s1 s2 ha),.s (sz:=7) hq] rfl (by simp [Uw,hgl,S8]; omega) ?_;exact rd (i+1) (by omega) hlt (by rw [ht]; simp [U3]; rfl)
 ·obtain rfl:i=M.length:=by omega
  rw [Qn (by simp)];exact Uf [2,3] [0] [.F] rfl
def Qwb (l:List Pt) (a:Tm):Cr:=⟨a,(Fg (AY l a)).map fresh,0⟩
theorem Qmc {t:Rat} {l:List Pt} {K:Nat} {c c':Cr} {r1 r1':Uq×Uq} {n:Int} (ht:Qs 1640000 t) (hl:∀ p∈l,Sc p.c) (hn:l.length≤1000) (hc:CrOk c) (hev:0≤c.ev/\c.ev+K≤1000000000000000000) (h:Fh c.now t≤0) (hg:WV (AY l) (brT l) t K c r1 0=some (c',r1',n)) :
 U0 prog 388 [.one (.ow 0 0),.agg (rl t)] [.blk 199 (Tl c (Uv l) r1)] [.oi n,.oi 0] [.blk 199 (Tl c' (Uv l) r1')]:=by
 have cg:=Qwn (T:=199) (r0:=Uv l) ht (sU hl hn) (λa c r1 ha _=>AP (c:=c) (r1:=r1) hl hn ha) hc hev h hg;refine Ft func388 rfl ?_;exact Uf [] [0] [.k (Bw (ht.mono (by decide))),.c [0] cg] rfl
theorem Qme {c:Cr} {r0 r2:Uq} {w:Pt}:U0 prog 66 [.one (.ow 0 0)] [.blk 199 (Tl c r0 ([U6 w],r2))] [.oi w.id,.one (.bool true)] [.blk 199 (Tl c r0 ([U6 w],r2))]:=by
 refine Ft func66 rfl ?_;exact Uf [] [0] [.f rfl,.x (i:=0) (xs:=U6 w) rfl] rfl
theorem Qef {c:Cr} {r0 r2:Uq}:U0 prog 66 [.one (.ow 0 0)] [.blk 199 (Tl c r0 ([],r2))] [.oi 0,.one (.bool false)] [.blk 199 (Tl c r0 ([],r2))]:=by
 refine Ft func66 rfl ?_;exact Uf [] [0] [.t rfl] rfl
end Orr
namespace Orr
open Go Go.Proofs Tryz
set_option maxRecDepth 10000
theorem UQ (x:Nat):(Bn (Ga x)).length=(Ga x).length:=Tk _
theorem Qbx (z:Int):∀ c∈[[LV.int .i64 z]],c.length=1:=λc hc=>by rw [Qk.1 hc]; rfl
theorem Qww {x:Nat} (h:x<=1000000000):(Ga x).length<=3:=Qa3 (by omega)
theorem tdn (n:Nat):((n:Nat):Int).tdiv 10000=((n / 10000:Nat):Int):=rfl
theorem KO (n:Nat):((n:Nat):Int).tdiv 2=((n / 2:Nat):Int):=rfl
theorem kM {x mu c0:Nat} (hx:sz x<=100000000) (hmu:mu<=65536) (hc:c0<=1000000000):Uh 119 [.one (nd x),.oi mu,.oi c0] [.one (nd (x*mu+c0))]:=by
 have hxl:=Qc (Ma x) hx;have hll:=UQ x;show Uh 119 [.one (.row (Bn (Ga x))),.oi mu,.oi c0] _;refine Ft func119 rfl ?_;refine Uc [.r 11 (eI (b:=(((Ga x).length+2:Nat):Int)) (by rw [hll]; omega)),.i 0,.i ((Ga x).length+2)] rfl ?_;refine Ug (S:=Nat×Nat×Um) 1 (λL1 s=>(8,.v (.oi (s.1:Int)))::(7,.v (.one (.orow 0 1 none)))::(2,.v (.oi (s.2.1:Int)))::L1.filter (λx=>x.1 != 12)) (λs=>[.row false 3 1 (Bn s.2.2)]) (λs=>((Ga x).length-s.1)*4+(Ga s.2.1).length) (λs=>Dg s.2.2/\s.2.2.length=s.1/\Rw s.2.2+s.2.1*10000^s.1=Rw ((Ga x).take s.1)*mu+c0/\(s.1<=(Ga x).length\/s.1+(Ga s.2.1).length<=(Ga x).length+3)/\s.2.1<=1000000000) (0,c0,[]) ⟨Dg.nil,rfl,by simp [Rw],.inl (Qh _),hc⟩ rfl rfl λs hs=>?_
 obtain ⟨i,c,o⟩:=s;obtain ⟨hp0,hp1,hp2,hp3,hp4⟩:=hs;dsimp only at hp0 hp1 hp2 hp3 hp4 ⊢;have hcl:=Qww (x:=c) hp4;by_cases h1:i<(Ga x).length
 ·obtain ⟨d,hd⟩:=gxE (l:=(Ga x)) (i:=i) h1;have hd9:=Bz x d (Qa hd);have hdm:d*mu<=9999*65536:=Zh (by omega) hmu;have hc3:=Qww (x:=(c+d*mu) / 10000) (by omega);have hol:(Bn o).length=i:=by rw [Tk,hp1]
  refine go tt [.g 17 true Uj,.t rfl,.T,.x (Gs hd),.r 33 (eI (b:=((d*mu:Nat):Int)) (by simp)),.r 34 (eI (b:=((c+d*mu:Nat):Int)) (by omega)),.r 37 (eI (b:=(((c+d*mu) % 10000:Nat):Int)) (by rfl)),.s (sz:=1) (Qbx _),.r 41 (eI (b:=(((c+d*mu) / 10000:Nat):Int)) (by rfl))] rfl (by simp [Uw,hol,tdn,KO,-Int.natCast_add,-Int.natCast_mul]; omega) ?_;exact rd (i+1,(c+d*mu) / 10000,o++[(c+d*mu) % 10000]) (by dsimp only; omega) ⟨hp0.snoc (Nat.mod_lt _ (by decide)),by dsimp only; rw [List.length_append]; show o.length+1=_; omega,by
   dsimp only;rw [S9,Ti hd,hp1,Nat.pow_succ]; simp only [Rw,Nat.mul_zero,Nat.add_zero]; have:=IQ (d:=d) (m:=mu) rfl hp2; rw [this]; grind,.inl (by dsimp only; omega),by dsimp only; omega⟩ (by rw [A6]; rfl)
 ·by_cases h2:0<c
  ·have hdc:=A4 (x:=c) (by omega);have hol:(Bn o).length=i:=by rw [Tk,hp1]
   refine go tt [.g 17 false Ui,.T,.F,.r 37 (eI (b:=((c % 10000:Nat):Int)) (by rfl)),.s (sz:=1) (Qbx _),.r 41 (eI (b:=((c / 10000:Nat):Int)) (by rfl))] rfl (by simp [Uw,hol,tdn,KO,-Int.natCast_add]; omega) ?_;exact rd (i+1,c / 10000,o++[c % 10000]) (by dsimp only; omega) ⟨hp0.snoc (Nat.mod_lt _ (by decide)),by dsimp only; rw [List.length_append]; show o.length+1=_; omega,by
    dsimp only;rw [S9,hp1,Nat.pow_succ]; simp only [Rw,Nat.mul_zero,Nat.add_zero]; have:=IQ (d:=0) (m:=mu) rfl hp2; simp only [Nat.zero_mul,Nat.mul_zero,Nat.add_zero] at this; rw [this,List.take_of_length_le (by omega),List.take_of_length_le (by omega)],.inr (by dsimp only; omega),by dsimp only; omega⟩ (by rw [A6]; rfl)
  ·have cc:=GL hp0;rw [show Rw o=x*mu+c0 from by
    have h:=hp2; rw [Qn (by omega),H5,show c=0 by omega] at h; omega] at cc
   exact Ud [.g 17 false Ui,.F,.k cc] rfl
theorem sN {x y:Nat} (hx:sz x<=200000000) (hy:sz y<=200000000):Uh 122 [.one (nd x),.one (nd y)] [.oi (ZY x y)]:=by
 have hxl:=Qc (Ma x) hx;have hyl:=Qc (Ma y) hy;have lx:=UQ x;have ly:=UQ y;show Uh 122 [.one (.row (Bn (Ga x))),.one (.row (Bn (Ga y)))] _;refine Ft func122 rfl ?_;by_cases hl:(Ga x).length=(Ga y).length
 ·refine Uc [.f (by simp; omega),.r 18 (eI (b:=((Ga x).length:Int)-1) (by rw [lx]))] rfl ?_;refine Ug (S:=Nat) 0 (λL1 j=>(5,.v (.oi ((j:Int)-1)))::L1) (λ_=>[]) (λj=>j) (λj=>j<=(Ga x).length/\(Ga x).drop j=(Ga y).drop j) (Ga x).length ⟨Qm _,by rw [Yt (Qm _),Yt (by omega)]⟩ rfl rfl λj hs=>?_
  obtain ⟨hj,hp⟩:=hs;cases j with
  |
   zero =>
   have hxy:x=y:=by rw [X5,X5] at hp; rw [<-H5 x,<-H5 y,hp]
   exact Ud [.f (by simp)] rfl (by rw [lX hxy]) trivial
  |
   succ j =>
   obtain ⟨d,hd⟩:=gxE (l:=(Ga x)) (i:=j) (by omega);obtain ⟨e,he⟩:=gxE (l:=(Ga y)) (i:=j) (by omega);have ej:((j+1:Nat):Int)-1=(j:Int):=by omega
   rw [ej];by_cases h2:d=e
   ·refine Uc [.T,.x (Gs hd),.x (Gs he),.f (by simp [h2])] rfl ?_;exact rd j (by omega) ⟨by omega,by rw [Zv (by omega:j<(Ga x).length),Zv (by omega:j<(Ga y).length),hp,(Qf.1 hd).2,(Qf.1 he).2,h2]⟩ rfl
   ·by_cases h3:d<e
    ·have hxy:=BU (Bz x) hd he hp h3;rw [H5,H5] at hxy;exact Ud [.T,.x (Gs hd),.x (Gs he),.t (by simp; omega),.x (Gs hd),.x (Gs he),.T] rfl (by rw [PN hxy]) trivial
    ·have hxy:=BU (Bz y) he hd hp.symm (by omega);rw [H5,H5] at hxy;exact Ud [.T,.x (Gs hd),.x (Gs he),.t (by simp; omega),.x (Gs hd),.x (Gs he),.F] rfl (by rw [PM hxy]) trivial
 ·by_cases hlt:(Ga x).length<(Ga y).length
  ·exact Ud [.t (by simp; omega),.T] rfl (by rw [PN (wG hlt)]) trivial
  ·exact Ud [.t (by simp; omega),.F] rfl (by rw [PM (wG (by omega))]) trivial
theorem JD {o c s P V:Nat} (h:o+c*P=V):o+P*((c+s) % 10000)+(c+s) / 10000*(P*10000)=V+P*s:=by
 have e:=Xc (c+s) 10000;generalize (c+s) / 10000=q at *;generalize (c+s) % 10000=r at *;have e2:P*(c+s)=P*(10000*q+r):=by rw [e]
 grind
theorem I0 {l:Um} {i:Nat} (h:l.length<=i):Rw (l.take (i+1))=Rw (l.take i):=by rw [Qn (by omega),Qn h]
theorem lT {l:Um} {p v u:Nat} (h:l[p]? = some v):Rw (l.set p u)+10000^p*v=Rw l+10000^p*u:=by
 have hp:=(Qf.1 h).1;rw [PE (l.set p u) p (by rw [Jp]; omega),PE l p (by omega),ZL h,HQ hp,List.take_set_of_le (Qm _)];simp only [Rw];generalize 10000^p=P;grind
theorem A7 {l:Um} {p u:Nat} (h:p<l.length):Rw ((l.set p u).take (p+1))=Rw (l.take p)+10000^p*u:=by
 rw [Ti (l:=l.set p u) (i:=p) (x:=u) (by simp [h]),List.take_set_of_le (Qm _)]
structure AddI (x y:Nat) (s:Nat×Nat×List Nat):Prop where
 d:Dg s.2.2
 l:s.2.2.length=s.1
 v:Rw s.2.2+s.2.1*10000^s.1=Rw ((Ga x).take s.1)+Rw ((Ga y).take s.1)
 c:s.2.1<=1
 b:s.1<=max (Ga x).length (Ga y).length\/s.1=max (Ga x).length (Ga y).length+1/\10000^(max (Ga x).length (Ga y).length)<=x+y/\s.2.1=0
theorem Qr0 {x y:Nat} (hx:sz x<=200000000) (hy:sz y<=200000000):Uh 121 [.one (nd x),.one (nd y)] [.one (nd (x+y))]:=by
 have hxl:=Qc (Ma x) hx;have hyl:=Qc (Ma y) hy;have lx:=UQ x;have ly:=UQ y;show Uh 121 [.one (.row (Bn (Ga x))),.one (.row (Bn (Ga y)))] _;refine Ft func121 rfl ?_;refine Ub [.o 5 3 1] rfl ?_;refine Ug (S:=Nat×Nat×Um) 1 (λL1 s=>(7,.v (.oi (s.1:Int)))::(6,.v (.oi (s.2.1:Int)))::(5,.v (.one (.orow 0 1 none)))::L1) (λs=>[.row false 3 1 (Bn s.2.2)]) (λs=>(max (Ga x).length (Ga y).length-s.1)*2+s.2.1) (AddI x y) (0,0,[]) ⟨Dg.nil,rfl,by simp [Rw],by decide,.inl (Qh _)⟩ rfl rfl λs hs=>?_
 obtain ⟨i,c,o⟩:=s;obtain ⟨hp0,hp1,hp2,hp3,hp4⟩:=hs;dsimp only at hp0 hp1 hp2 hp3 hp4 ⊢;have hol:(Bn o).length=i:=by rw [Tk,hp1]
 by_cases h1:i<(Ga x).length
 ·obtain ⟨d,hd⟩:=gxE (l:=(Ga x)) (i:=i) h1;have hd9:=Bz x d (Qa hd);by_cases h2:i<(Ga y).length
  ·obtain ⟨e,he⟩:=gxE (l:=(Ga y)) (i:=i) h2;have he9:=Bz y e (Qa he);refine go tt [.g 12 true Uj,.g 18 true rfl,.t rfl,.T,.x (Gs hd),.r 33 (eI (b:=((c+d:Nat):Int)) (by omega)),.T,.x (Gs he),.r 43 (eI (b:=((c+(d+e):Nat):Int)) (by omega)),.r 46 (eI (b:=(((c+(d+e)) % 10000:Nat):Int)) (by rfl)),.s (sz:=1) (Qbx _),.r 50 (eI (b:=(((c+(d+e)) / 10000:Nat):Int)) (by rfl))] rfl (by simp [Uw,hol,tdn,KO,-Int.natCast_add]; omega) ?_;exact rd (i+1,(c+(d+e)) / 10000,o++[(c+(d+e)) % 10000]) (by dsimp only; omega) ⟨hp0.snoc (Nat.mod_lt _ (by decide)),by dsimp only; rw [List.length_append]; show o.length+1=_; omega,by
    dsimp only;rw [S9,hp1,Nat.pow_succ]; simp only [Rw,Nat.mul_zero,Nat.add_zero]; have:=JD (s:=d+e) hp2; rw [this,Ti hd,Ti he]; grind,by dsimp only; omega,.inl (by dsimp only; omega)⟩ (by rw [A6]; rfl)
  ·refine go tt [.g 12 true Uj,.g 18 true rfl,.t rfl,.T,.x (Gs hd),.r 33 (eI (b:=((c+d:Nat):Int)) (by omega)),.F,.r 46 (eI (b:=(((c+d) % 10000:Nat):Int)) (by rfl)),.s (sz:=1) (Qbx _),.r 50 (eI (b:=(((c+d) / 10000:Nat):Int)) (by rfl))] rfl (by simp [Uw,hol,tdn,KO,-Int.natCast_add]; omega) ?_;exact rd (i+1,(c+d) / 10000,o++[(c+d) % 10000]) (by dsimp only; omega) ⟨hp0.snoc (Nat.mod_lt _ (by decide)),by dsimp only; rw [List.length_append]; show o.length+1=_; omega,by
    dsimp only;rw [S9,hp1,Nat.pow_succ]; simp only [Rw,Nat.mul_zero,Nat.add_zero]; have:=JD (s:=d) hp2; rw [this,Ti hd,I0 (l:=Ga y) (by omega)]; grind,by dsimp only; omega,.inl (by dsimp only; omega)⟩ (by rw [A6]; rfl)
 ·by_cases h2:i<(Ga y).length
  ·obtain ⟨e,he⟩:=gxE (l:=(Ga y)) (i:=i) h2;have he9:=Bz y e (Qa he);refine go tt [.g 12 false Ui,.g 18 true Uj,.t rfl,.F,.T,.x (Gs he),.r 43 (eI (b:=((c+e:Nat):Int)) (by omega)),.r 46 (eI (b:=(((c+e) % 10000:Nat):Int)) (by rfl)),.s (sz:=1) (Qbx _),.r 50 (eI (b:=(((c+e) / 10000:Nat):Int)) (by rfl))] rfl (by simp [Uw,hol,tdn,KO,-Int.natCast_add]; omega) ?_;exact rd (i+1,(c+e) / 10000,o++[(c+e) % 10000]) (by dsimp only; omega) ⟨hp0.snoc (Nat.mod_lt _ (by decide)),by dsimp only; rw [List.length_append]; show o.length+1=_; omega,by
    dsimp only;rw [S9,hp1,Nat.pow_succ]; simp only [Rw,Nat.mul_zero,Nat.add_zero]; have:=JD (s:=e) hp2; rw [this,Ti he,I0 (l:=Ga x) (by omega)]; grind,by dsimp only; omega,.inl (by dsimp only; omega)⟩ (by rw [A6]; rfl)
  ·by_cases h3:0<c
   ·refine go tt [.g 12 false Ui,.g 18 false Ui,.T,.F,.F,.r 46 (eI (b:=((c % 10000:Nat):Int)) (by rfl)),.s (sz:=1) (Qbx _),.r 50 (eI (b:=((c / 10000:Nat):Int)) (by rfl))] rfl (by simp [Uw,hol,tdn,KO,-Int.natCast_add]; omega) ?_;exact rd (i+1,c / 10000,o++[c % 10000]) (by dsimp only; omega) ⟨hp0.snoc (Nat.mod_lt _ (by decide)),by dsimp only; rw [List.length_append]; show o.length+1=_; omega,by
     dsimp only;rw [S9,hp1,Nat.pow_succ]; simp only [Rw,Nat.mul_zero,Nat.add_zero]; have:=JD (s:=0) hp2; rw [Nat.add_zero,Nat.mul_zero,Nat.add_zero] at this; rw [this,I0 (l:=Ga y) (by omega),I0 (l:=Ga x) (by omega)],by dsimp only; omega,.inr ⟨by dsimp only; omega,by
      have h:=hp2; rw [List.take_of_length_le (by omega),List.take_of_length_le (by omega),H5,H5,show c=1 by omega,Nat.one_mul,show i=(max (Ga x).length (Ga y).length) by omega] at h; omega,by dsimp only; omega⟩⟩ (by rw [A6]; rfl)
   ·have hv:Rw o=x+y:=by
     have h:=hp2;rw [Qn (by omega),Qn (by omega),H5,H5,show c=0 by omega] at h;omega
    have hfin:o=Ga (x+y):=by
     have h:=Qfm (o:=o) hp0;rw [hv] at h;refine h ?_;have m1:=ZB (x:=x) (y:=x+y) (by omega);have m2:=ZB (x:=y) (y:=x+y) (by omega);rcases hp4 with hb | ⟨_,hb,_⟩
     ·omega
     ·have:=Qa2 hb; omega
    exact Ud [.g 12 false Ui,.g 18 false Ui,.F] rfl (by rw [hfin]; rfl) trivial
theorem JA {o b a c P u d e c':Nat} (h:o+b=a+c*P) (hs:u+e+c=d+10000*c'):(o+P*u)+(b+P*e)=(a+P*d)+c'*(P*10000):=by
 have e2:P*(u+e+c)=P*(d+10000*c'):=by rw [hs]
 grind
theorem QV (o:Um) (i u:Nat):Bn (o.set i u)=(Bn o).set i [.int .i64 (u:Int)]:=by simp [Bn,Vu]
theorem pQ {x y:Nat} (hx:sz x<=200000000) (hy:sz y<=200000000) (hyx:y<=x):Uh 123 [.one (nd x),.one (nd y)] [.one (nd (x-y))]:=by
 have hxl:=Qc (Ma x) hx;have hyl:=Qc (Ma y) hy;have lx:=UQ x;have ly:=UQ y;have hmy:=ZB hyx;show Uh 123 [.one (.row (Bn (Ga x))),.one (.row (Bn (Ga y)))] _;refine Ft func123 rfl ?_;refine Uc [.i (Bn (Ga x)).length,.i (Bn (Ga x)).length] rfl ?_;rw [lx,show List.replicate (Ga x).length [LV.int .i64 0]=Bn (List.replicate (Ga x).length 0) from by simp [Bn]];refine Ug (S:=Nat×Nat×Um) 1 (λL1 s=>(14,.v (.oi (s.1:Int)))::(6,.v (.oi (s.2.1:Int)))::L1) (λs=>[.row false 3 1 (Bn s.2.2)]) (λs=>(Ga x).length-s.1) (λs=>s.1<=(Ga x).length/\s.2.2.length=(Ga x).length/\Dg s.2.2/\Rw (s.2.2.take s.1)+Rw ((Ga y).take s.1)=Rw ((Ga x).take s.1)+s.2.1*10000^s.1/\s.2.1<=1) (0,0,List.replicate (Ga x).length 0) ⟨Qh _,Je ..,Dg.zeros _,by simp [Rw],Qh _⟩ rfl rfl λs hs=>?_
 obtain ⟨i,c,o⟩:=s;obtain ⟨hp0,hp1,hp2,hp3,hp4⟩:=hs;dsimp only at hp0 hp1 hp2 hp3 hp4 ⊢;have hol:(Bn o).length=(Ga x).length:=by rw [Tk,hp1]
 by_cases h1:i<(Ga x).length
 ·obtain ⟨d,hd⟩:=gxE (l:=(Ga x)) (i:=i) h1;have hd9:=Bz x d (Qa hd);by_cases h2:i<(Ga y).length
  ·obtain ⟨e,he⟩:=gxE (l:=(Ga y)) (i:=i) h2;have he9:=Bz y e (Qa he);by_cases h3:d<c+e
   ·refine go tt [.T,.x (Gs hd),.T,.x (Gs he),.T,.r 36 (eI (b:=((d+10000-c-e:Nat):Int)) (by omega)),.i i] rfl (by simp [Uw,hol,tdn,KO,-Int.natCast_add]; omega) ?_;exact rd (i+1,1,o.set i (d+10000-c-e)) (by dsimp only; omega) ⟨by dsimp only; omega,by dsimp only; rw [List.length_set]; exact hp1,hp2.set (by omega),by
     dsimp only;rw [A7 (by omega),Ti hd,Ti he,Nat.pow_succ]; exact JA hp3 (u:=d+10000-c-e) (d:=d) (e:=e) (c':=1) (by omega),by dsimp only; omega⟩ (by rw [QV]; rfl)
   ·refine go tt [.T,.x (Gs hd),.T,.x (Gs he),.r 32 (eI (b:=((d-c-e:Nat):Int)) (by omega)),.F,.i i] rfl (by simp [Uw,hol,tdn,KO,-Int.natCast_add]; omega) ?_;exact rd (i+1,0,o.set i (d-c-e)) (by dsimp only; omega) ⟨by dsimp only; omega,by dsimp only; rw [List.length_set]; exact hp1,hp2.set (by omega),by
     dsimp only;rw [A7 (by omega),Ti hd,Ti he,Nat.pow_succ]; exact JA hp3 (u:=d-c-e) (d:=d) (e:=e) (c':=0) (by omega),by dsimp only; omega⟩ (by rw [QV]; rfl)
  ·have hy0:Rw ((Ga y).take (i+1))=Rw ((Ga y).take i)+10000^i*0:=by rw [I0 (by omega),Yy,Xk]
   by_cases h3:d<c
   ·refine go tt [.T,.x (Gs hd),.F,.T,.r 36 (eI (b:=((d+10000-c:Nat):Int)) (by omega)),.i i] rfl (by simp [Uw,hol,tdn,KO,-Int.natCast_add]; omega) ?_;exact rd (i+1,1,o.set i (d+10000-c)) (by dsimp only; omega) ⟨by dsimp only; omega,by dsimp only; rw [List.length_set]; exact hp1,hp2.set (by omega),by
     dsimp only;rw [A7 (by omega),Ti hd,hy0,Nat.pow_succ]; exact JA hp3 (u:=d+10000-c) (d:=d) (e:=0) (c':=1) (by omega),by dsimp only; omega⟩ (by rw [QV]; rfl)
   ·refine go tt [.T,.x (Gs hd),.r 22 (eI (b:=((d-c:Nat):Int)) (by omega)),.F,.F,.i i] rfl (by simp [Uw,hol,tdn,KO,-Int.natCast_add]; omega) ?_;exact rd (i+1,0,o.set i (d-c)) (by dsimp only; omega) ⟨by dsimp only; omega,by dsimp only; rw [List.length_set]; exact hp1,hp2.set (by omega),by
     dsimp only;rw [A7 (by omega),Ti hd,hy0,Nat.pow_succ]; exact JA hp3 (u:=d-c) (d:=d) (e:=0) (c':=0) (by omega),by dsimp only; omega⟩ (by rw [QV]; rfl)
 ·have hi:i=(Ga x).length:=by omega
  have hv:Rw o=x-y:=by
   have h:=hp3;rw [Qn (by omega),Qn (by omega),Qn (by omega),H5,H5] at h;have hlt:=BS hp2;rw [hp1,<-hi] at hlt;have hc0:c=0:=by
    rcases Q3 c with h0 | h0
    ·exact h0
    ·exfalso;have:c=1:=by omega
     rw [this,Wm] at h; omega
   rw [hc0] at h; omega
  have cc:=GL hp2;rw [hv] at cc;exact Ud [.F,.k cc] rfl
theorem BH {o o2 c P u v s V:Nat} (h:o+c*P=V) (hs:o2+P*v=o+P*u) {q:Nat} (hu:u+10000*q=v+c+s):o2+q*(P*10000)=V+P*s:=by
 have e2:P*(u+10000*q)=P*(v+c+s):=by rw [hu]
 grind
theorem Qwx (S:Nat):S % 10000+10000*(S / 10000)=S:=W6 S 10000
structure MulI (x y i d:Nat) (s:Nat×Nat×List Nat):Prop where
 l:s.2.2.length=(Ga x).length+(Ga y).length
 dg:Dg s.2.2
 v:Rw s.2.2+s.2.1*10000^(i+s.1)=Rw ((Ga x).take i)*y+10000^i*d*Rw ((Ga y).take s.1)
 c:s.2.1<10000
 b:s.1<=(Ga y).length/\(∀ j v,i+(Ga y).length<=j->s.2.2[j]? = some v->v=0)\/s.1=(Ga y).length+1/\s.2.1=0/\∀ j v,i+(Ga y).length+1<=j->s.2.2[j]? = some v->v=0
theorem Qsb {x y:Nat} (hx:sz x<=200000000) (hy:sz y<=200000000):Uh 113 [.one (nd x),.one (nd y)] [.one (nd (x*y))]:=by
 have hxl:=Qc (Ma x) hx;have hyl:=Qc (Ma y) hy;have lx:=UQ x;have ly:=UQ y;show Uh 113 [.one (.row (Bn (Ga x))),.one (.row (Bn (Ga y)))] _;refine Ft func113 rfl ?_;refine Uc [.r 14 (eI (b:=(((Ga x).length+(Ga y).length:Nat):Int)) (by rw [lx,ly]; omega)),.i ((Ga x).length+(Ga y).length),.i ((Ga x).length+(Ga y).length)] rfl ?_;rw [show List.replicate ((Ga x).length+(Ga y).length) [LV.int .i64 0]=Bn (List.replicate ((Ga x).length+(Ga y).length) 0) from by simp [Bn]];refine Ug (S:=Nat×Um) 1 (λL1 s=>(18,.v (.oi (s.1:Int)))::L1) (λs=>[.row false 3 1 (Bn s.2)]) (λs=>(Ga x).length-s.1) (λs=>s.1<=(Ga x).length/\s.2.length=(Ga x).length+(Ga y).length/\Dg s.2/\Rw s.2=Rw ((Ga x).take s.1)*y/\∀ j v,s.1+(Ga y).length<=j->s.2[j]? = some v->v=0) (0,List.replicate ((Ga x).length+(Ga y).length) 0) ⟨Qh _,Je ..,Dg.zeros _,by rw [BP (λx hx=>Zy hx)]; simp [Rw],λj v _ hv=>Zy (Qa hv)⟩ rfl rfl λs hs=>?_
 obtain ⟨i,o⟩:=s;obtain ⟨hp0,hp1,hp2,hp3,hp4⟩:=hs;dsimp only at hp0 hp1 hp2 hp3 hp4 ⊢;by_cases h1:i<(Ga x).length
 ·obtain ⟨d,hd⟩:=gxE (l:=(Ga x)) (i:=i) h1;have hd9:=Bz x d (Qa hd);refine Ub [.T] rfl ?_;refine Ug (S:=Nat×Nat×Um) 1 (λL1 s=>(8,.v (.oi (s.1:Int)))::(7,.v (.oi (s.2.1:Int)))::L1) (λs=>[.row false 3 1 (Bn s.2.2)]) (λs=>((Ga y).length-s.1)*2+min s.2.1 1) (MulI x y i d) (0,0,o) ⟨hp1,hp2,by dsimp only; rw [hp3]; simp [Rw],by show 0<10000; decide,.inl ⟨Nat.zero_le _,hp4⟩⟩ rfl rfl λs hs=>?_
  obtain ⟨k,c,o2⟩:=s;obtain ⟨hq0,hq1,hq2,hq3,hq4⟩:=hs;dsimp only at hq0 hq1 hq2 hq3 hq4 ⊢;have hol:(Bn o2).length=(Ga x).length+(Ga y).length:=by rw [Tk,hq0]
  by_cases h2:k<(Ga y).length
  ·obtain ⟨e,he⟩:=gxE (l:=(Ga y)) (i:=k) h2;have he9:=Bz y e (Qa he);have hde:d*e<=9999*9999:=Zh (by omega) (by omega);obtain ⟨v,hoi⟩:=gxE (l:=o2) (i:=i+k) (by omega);have hv9:=hq1 v (Qa hoi);refine go tt [.g 25 true Uj,.t rfl,.r 34 (eI (b:=((i+k:Nat):Int)) (by omega)),.i (i+k),.x (Gs hoi),.r 38 (eI (b:=((v+c:Nat):Int)) (by omega)),.T,.x (Gs hd),.x (Gs he),.r 52 (eI (b:=((d*e:Nat):Int)) (by simp)),.r 53 (eI (b:=((v+c+d*e:Nat):Int)) (by omega)),.r 57 (eI (b:=((i+k:Nat):Int)) (by omega)),.r 59 (eI (b:=(((v+c+d*e) % 10000:Nat):Int)) (by rfl)),.i (i+k),.r 62 (eI (b:=(((v+c+d*e) / 10000:Nat):Int)) (by rfl))] rfl (by simp [Uw,hol,tdn,KO,-Int.natCast_add,-Int.natCast_mul]; omega) ?_;exact rd (k+1,(v+c+d*e) / 10000,o2.set (i+k) ((v+c+d*e) % 10000)) (by dsimp only; omega) ⟨by dsimp only; rw [List.length_set]; exact hq0,hq1.set (Nat.mod_lt _ (by decide)),by
    dsimp only;rw [<-Nat.add_assoc i k 1,Nat.pow_succ]; have:=BH hq2 (lT hoi (u:=((v+c)+(d*e)) % 10000)) (s:=d*e) (q:=((v+c)+(d*e)) / 10000) (by rw [Qwx]); rw [this,Ti he,Nat.pow_add]; grind,by dsimp only; omega,.inl ⟨by dsimp only; omega,λj w hj hw=>(by
     dsimp only at hw;rcases hq4 with ⟨_,h⟩ | ⟨_,_,h⟩ <;> (rw [Yd (by omega)] at hw; exact h j w (by omega) hw))⟩⟩ (by rw [QV]; rfl)
  ·by_cases h3:0<c
   ·have hk:k=(Ga y).length:=by omega
    have hz:∀ j v,i+(Ga y).length<=j->o2[j]? = some v->v=0:=by
     rcases hq4 with ⟨_,h⟩ | ⟨_,h,_⟩
     ·exact h
     ·omega
    obtain ⟨v,hoi⟩:=gxE (l:=o2) (i:=i+k) (by omega);have hv0:v=0:=hz (i+k) v (by omega) hoi;have hv9:=hq1 v (Qa hoi);refine go tt [.g 25 false Ui,.T,.r 34 (eI (b:=((i+k:Nat):Int)) (by omega)),.i (i+k),.x (Gs hoi),.r 38 (eI (b:=((v+c:Nat):Int)) (by omega)),.F,.r 57 (eI (b:=((i+k:Nat):Int)) (by omega)),.r 59 (eI (b:=(((v+c) % 10000:Nat):Int)) (by rfl)),.i (i+k),.r 62 (eI (b:=(((v+c) / 10000:Nat):Int)) (by rfl))] rfl (by simp [Uw,hol,tdn,KO,-Int.natCast_add]; omega) ?_;exact rd (k+1,(v+c) / 10000,o2.set (i+k) ((v+c) % 10000)) (by dsimp only; omega) ⟨by dsimp only; rw [List.length_set]; exact hq0,hq1.set (Nat.mod_lt _ (by decide)),by
     dsimp only;rw [<-Nat.add_assoc i k 1,Nat.pow_succ]; have:=BH hq2 (lT hoi (u:=(v+c) % 10000)) (s:=0) (q:=(v+c) / 10000) (by rw [Qwx]; rfl); rw [this,Nat.mul_zero,Nat.add_zero,I0 (by omega)],by dsimp only; omega,.inr ⟨by dsimp only; omega,by dsimp only; omega,λj w hj hw=>(by
      dsimp only at hw;rw [Yd (by omega)] at hw; exact hz j w (by omega) hw)⟩⟩ (by rw [QV]; rfl)
   ·refine Uc [.g 25 false Ui,.F] rfl ?_;exact rd (i+1,o2) (by dsimp only; omega) ⟨by dsimp only; omega,hq0,hq1,by
     dsimp only;rw [Ti hd,X2]; have h:=hq2; rw [show c=0 by omega,Qn (l:=Ga y) (i:=k) (by omega),H5] at h; rw [Yi,Xk] at h; exact h,by
     dsimp only;rcases hq4 with ⟨_,h⟩ | ⟨_,_,h⟩
     ·exact λj w hj hw=>h j w (by omega) hw
     ·exact λj w hj hw=>h j w (by omega) hw⟩ rfl
 ·have hv:Rw o=x*y:=by rw [hp3,Qn (by omega),H5]
  have cc:=GL hp2;rw [hv] at cc;exact Ud [.F,.k cc] rfl
theorem lY {x y:Nat}:ZY x y<=0↔x<=y:=by
 unfold ZY;constructor
 ·intro h; split at h
  ·omega
  ·split at h <;> omega
 ·intro h; split
  ·omega
  ·split <;> omega
theorem Qa5 {R y lo:Nat} (h1:y*lo<=R) (h2:R<y*(lo+1)):R / y=lo/\R % y=R-y*lo:=by
 have hy:0<y:=by
  rcases Q3 y with h | h
  ·subst h; simp at h2
  ·exact h
 have e:R / y=lo:=Nat.div_eq_of_lt_le (by rw [Zp]; exact h1) (by rw [Zp]; exact h2);refine ⟨e,?_⟩;have:=Xc R y;rw [e] at this; omega
theorem Qjw {R y:Nat} (h:R<y*10000):sz R<=sz y+14:=by
 refine Bh.2 (Z6 h ?_);have:=UN y;rw [Xd];have e:(2:Nat)^14=16384:=by decide
 rw [e]; exact Zh (by omega) (by decide)
theorem Qcg (y:Nat):sz (y*10000)<=sz y+14:=by
 refine Bh.2 ?_;have:=UN y;rw [Xd];have e:(2:Nat)^14=16384:=by decide
 rw [e]; omega
theorem Qdm {x y:Nat} (hx:sz x<=90000000) (hy:sz y<=90000000) (hy0:0<y):Uh 143 [.one (nd x),.one (nd y)] [.one (nd (x / y)),.one (nd (x % y))]:=by
 have hxl:=Qc (Ma x) hx;have hyl:=Qc (Ma y) hy;have lx:=UQ x;show Uh 143 [.one (.row (Bn (Ga x))),.one (nd y)] _;refine Ft func143 rfl ?_;refine Uc [.i (Bn (Ga x)).length,.i (Bn (Ga x)).length,.z 7,.r 17 (eI (b:=((Ga x).length:Int)-1) (by rw [lx]))] rfl ?_;rw [lx,show List.replicate (Ga x).length [LV.int .i64 0]=Bn (List.replicate (Ga x).length 0) from by simp [Bn]];refine Ug (S:=Nat×Um×Um) 1 (λL1 s=>(8,.v (.oi ((s.1:Int)-1)))::(7,.v (.one (.row (Bn s.2.1))))::L1) (λs=>[.row false 3 1 (Bn s.2.2)]) (λs=>s.1) (λs=>s.1<=(Ga x).length/\s.2.2.length=(Ga x).length/\Dg s.2.2/\Rw (s.2.2.drop s.1)=Rw ((Ga x).drop s.1) / y/\s.2.1=Ga (Rw ((Ga x).drop s.1) % y)) ((Ga x).length,[],List.replicate (Ga x).length 0) ⟨Nat.le_refl _,List.length_replicate ..,Dg.zeros _,by dsimp only; rw [List.drop_eq_nil_of_le (by simp),List.drop_eq_nil_of_le (Nat.le_refl _)]; simp [Rw],by dsimp only; rw [List.drop_eq_nil_of_le (Nat.le_refl _)]; simp [Rw,Hu]⟩ rfl rfl λs hs=>?_
 obtain ⟨j,R,o⟩:=s;obtain ⟨hp0,hp1,hp2,hp3,hp4⟩:=hs;dsimp only at hp0 hp1 hp2 hp3 hp4 ⊢;cases j with
 |
  zero =>
  have cc:=GL hp2;rw [X5,X5,H5] at hp3;rw [X5,H5] at hp4;rw [hp3] at cc;exact Ud [.f (by simp),.k cc] rfl (by rw [hp4]; rfl) trivial
 |
  succ j =>
  obtain ⟨d,hd⟩:=gxE (l:=(Ga x)) (i:=j) (by omega);have hd9:=Bz x d (Qa hd);have hdd:=ZL hd;obtain ⟨hq1,hq2,hq3⟩:=wS (V:=Rw ((Ga x).drop (j+1))) (kd:=y) (d:=d) hy0;rw [<-hdd] at hq1 hq2;have hq3:=hq3 hd9;obtain ⟨rr,hrr0⟩:=nmE (Rw ((Ga x).drop (j+1)) % y);have hrr:rr<y:=by rw [hrr0]; exact Z5 _ hy0
  rw [<-hrr0] at hp4 hq1 hq2 hq3;subst hp4;have hrl:(Ga rr).length<=(Ga y).length:=ZB (by omega);have hR:rr*10000+d<y*10000:=by omega
  have hRs:=Qjw hR;have hdv:Dg (d::Ga rr):=λz hz=>by
   rcases Ql.1 hz with rfl | hz
   ·exact hd9
   ·exact Bz rr z hz
  have cc:=GL hdv;rw [show Rw (d::Ga rr)=rr*10000+d from by simp only [Rw]; rw [H5]; omega] at cc;have hol:(Bn o).length=(Ga x).length:=by rw [Tk,hp1]
  have hrrl:=Tk (Ga rr);have ej:((j+1:Nat):Int)-1=(j:Int):=by omega
  rw [ej];refine go tt [.T,.x (Gs hd),.lo,.s (sz:=1) (Qs8 (Ga rr)),.k cc] rfl (by simp [Uw,UQ]; omega) ?_;refine Ug (S:=Nat×Nat) 2 (λL1 s=>(9,.v (.oi (s.1:Int)))::(10,.v (.oi (s.2:Int)))::L1) (λ_=>[.row false 3 1 (Bn o),.gone]) (λs=>s.2-s.1) (λs=>s.1<=s.2/\s.2<=9999/\y*s.1<=rr*10000+d/\rr*10000+d<y*(s.2+1)) (0,9999) ⟨by decide,by decide,by dsimp only; omega,by dsimp only; omega⟩ rfl rfl λs hs=>?_
  obtain ⟨lo,hi⟩:=s;obtain ⟨hb0,hb1,hb2,hb3⟩:=hs;dsimp only at hb0 hb1 hb2 hb3 ⊢;by_cases h2:lo<hi
  ·obtain ⟨m,hm⟩:=nmE ((lo+hi+1) / 2);have hym:y*m<=y*10000:=Zt y (by omega);have c1:=kM (x:=y) (mu:=m) (c0:=0) (by omega) (by omega) (by omega);have c2:=sN (x:=y*m+0) (y:=rr*10000+d) (Qc (Sr (show _<=y*10000 by omega)) (Qc (Qcg y) (by omega))) (by omega);by_cases h3:y*m+0<=rr*10000+d
   ·refine go tt [.T,.r 35 (eI (b:=((lo+hi:Nat):Int)) (by omega)),.r 36 (eI (b:=((lo+hi+1:Nat):Int)) (by omega)),.r 37 (eI (b:=(m:Int)) (by rw [hm]; rfl)),.k c1,.k c2,.t (decide_eq_true (lY.2 h3))] rfl (by simp [Uw,KO,-Int.natCast_add]; omega) ?_;exact rd (m,hi) (by dsimp only; omega) ⟨by dsimp only; omega,hb1,by dsimp only; omega,hb3⟩ rfl
   ·refine go tt [.T,.r 35 (eI (b:=((lo+hi:Nat):Int)) (by omega)),.r 36 (eI (b:=((lo+hi+1:Nat):Int)) (by omega)),.r 37 (eI (b:=(m:Int)) (by rw [hm]; rfl)),.k c1,.k c2,.f (decide_eq_false λh=>h3 (lY.1 h)),.r 46 (eI (b:=((m-1:Nat):Int)) (by omega))] rfl (by simp [Uw,KO,-Int.natCast_add]; omega) ?_;exact rd (lo,m-1) (by dsimp only; omega) ⟨by dsimp only; omega,by dsimp only; omega,hb2,by dsimp only; rw [show m-1+1=m by omega]; omega⟩ rfl
  ·have hlh:lo=hi:=by omega
   have hfd:=Qa5 hb2 (by rw [hlh]; exact hb3);have c1:=kM (x:=y) (mu:=lo) (c0:=0) (by omega) (by omega) (by omega);have c2:=pQ (x:=rr*10000+d) (y:=y*lo+0) (by omega) (Qc (Sr (show _<=rr*10000+d by omega)) (by omega)) (by omega);rw [show rr*10000+d-(y*lo+0)=Rw ((Ga x).drop j) % y from by rw [hq2,hfd.2]; omega] at c2;refine go tt [.F,.i j,.k c1,.k c2] rfl (by simp [Uw,hol,tdn,KO,-Int.natCast_add]; omega) ?_;exact rd (j,Ga (Rw ((Ga x).drop j) % y),o.set j lo) (by dsimp only; omega) ⟨by dsimp only; omega,by dsimp only; rw [List.length_set]; exact hp1,hp2.set (by omega),by
    dsimp only;rw [HQ (by omega)]; simp only [Rw]; rw [hp3,hq1,hfd.1],rfl⟩ (by rw [QV]; rfl)
theorem Qo9 {a b:Int} (h:(decide (a<0) == decide (b<0))=true):U8 (decide (a<0)) (a.natAbs+b.natAbs)=a+b:=by
 unfold U8;by_cases h1:a<0 <;> by_cases h2:b<0 <;> simp [h1,h2] at h ⊢ <;> omega
theorem Qpc {a b:Int} (h:¬(decide (a<0) == decide (b<0))=true) (hl:b.natAbs<=a.natAbs):U8 (decide (a<0)) (a.natAbs-b.natAbs)=a+b:=by
 unfold U8;by_cases h1:a<0 <;> by_cases h2:b<0 <;> simp [h1,h2] at h ⊢ <;> omega
theorem Qjd {a b:Int} (h:¬(decide (a<0) == decide (b<0))=true) (hl:¬b.natAbs<=a.natAbs):U8 (decide (b<0)) (b.natAbs-a.natAbs)=a+b:=by
 unfold U8;by_cases h1:a<0 <;> by_cases h2:b<0 <;> simp [h1,h2] at h ⊢ <;> omega
theorem YF (a:Int):(∃ m:Nat,a=(m:Int))\/∃ m:Nat,a=-(m:Int)/\0<m:=by
 rcases K8 a 0 with h | h
 ·exact .inr ⟨a.natAbs,by omega,by omega⟩
 ·exact .inl ⟨a.natAbs,by omega⟩
theorem Qpb (a b:Int):U8 (!(decide (a<0) == decide (b<0))) (a.natAbs*b.natAbs)=a*b:=by
 rcases YF a with ⟨m,rfl⟩ | ⟨m,rfl,hm⟩ <;> rcases YF b with ⟨n,rfl⟩ | ⟨n,rfl,hn⟩
 ·simp [U8,show ¬((m:Int)<0) by omega,show ¬((n:Int)<0) by omega]
 ·simp [U8,show ¬((m:Int)<0) by omega,show (-(n:Int)<0) by omega,hn,Kn]
 ·simp [U8,show (-(m:Int)<0) by omega,show ¬((n:Int)<0) by omega,hm,Ko]
 ·simp [U8,show (-(m:Int)<0) by omega,show (-(n:Int)<0) by omega,hm,hn,W5]
theorem Qpa {a b:Int} (h:a % b=0):U8 (!(decide (a<0) == decide (b<0))) (a.natAbs / b.natAbs)=a / b:=by
 by_cases hb:b=0
 ·subst hb; simp [U8]
 obtain ⟨c,rfl⟩:=Vf h;rw [Jd _ hb,J7,Nat.mul_div_cancel_left _ (by omega)];rcases YF b with ⟨n,rfl⟩ | ⟨n,rfl,hn⟩ <;> rcases YF c with ⟨m,rfl⟩ | ⟨m,rfl,hm⟩
 ·have:¬((n:Int)*(m:Int)<0):=by rw [<-Vj]; omega
  simp [U8,this,show ¬((n:Int)<0) by omega]
 ·have h1:0<n*m:=J3 (by omega) hm;have:((n:Int)*-(m:Int)<0):=by rw [Kn,<-Vj]; omega
  simp only [this,show ¬((n:Int)<0) by omega];simp [U8]
 ·by_cases h0:m=0
  ·subst h0; simp [U8]
  ·have h1:0<n*m:=J3 hn (by omega);have:(-(n:Int)*(m:Int)<0):=by rw [Ko,<-Vj]; omega
   simp only [this,show (-(n:Int)<0) by omega];simp [U8]
 ·have:¬(-(n:Int)*-(m:Int)<0):=by rw [W5,<-Vj]; omega
  simp only [this,show (-(n:Int)<0) by omega];simp [U8]
theorem lJ {x y:Nat}:0<=ZY x y↔y<=x:=by
 unfold ZY;constructor
 ·intro h; split at h
  ·omega
  ·omega
 ·intro h; split
  ·omega
  ·split <;> omega
theorem BK {x e:Nat} (h:(Ga x).length=1) (he:(Ga x)[0]? = some e):x=e:=by
 rcases hd:Ga x with _ | ⟨u,l⟩
 ·rw [hd] at h; cases h
 ·rcases l with _ | ⟨w,l⟩
  ·rw [hd] at he; simp at he;have:=H5 x;rw [hd] at this; simp [Rw] at this; omega
  ·rw [hd] at h; simp at h
theorem mZ {a b:Int} (hb:0<b):ri (a / ((Int.gcd a b:Nat):Int))++ri (b / ((Int.gcd a b:Nat):Int))=fr (Rat.divInt a b):=by
 obtain ⟨h1,h2⟩:=aJ (n:=a) hb;rw [Dv,Int.gcd_comm] at h1 h2;rw [h1,h2]
theorem mX (a:Int):ri a++ri 1=fr (Rat.divInt a 1):=by
 have h:=mZ (a:=a) (b:=1) (by decide);rw [show ((Int.gcd a 1:Nat):Int)=1 by simp] at h;simpa using h
theorem IA {a b:Int} (hb:b≠0) (ha2:Fa a<=90000000) (hb2:Fa b<=90000000):Fa ((Int.gcd a b:Nat):Int)<=90000000/\((Int.gcd a b:Nat):Int)≠0/\a % ((Int.gcd a b:Nat):Int)=0/\b % ((Int.gcd a b:Nat):Int)=0:=by
 have h1:=eG (n:=a) hb hb2;have h2:=uF (n:=a) hb;have h3:=CJ a b;have h4:=CY a b;rw [Dv,Int.gcd_comm] at h1 h2 h3 h4;exact ⟨h1,by omega,h3,h4⟩
theorem qK {a b:Int} (h:b<0):Gx a b=Rat.divInt (-a) (-b):=by
 unfold Gx; rw [if_neg (by omega)];exact (Rat.neg_divInt_neg a b).symm
theorem Et {a b:Int} (h:0<b):Gx a b=Rat.divInt a b:=by
 unfold Gx; rw [if_neg (by omega)]
theorem oS (a b:Rat):Gx (a.num*(b.den:Int)+b.num*(a.den:Int)) ((a.den:Int)*(b.den:Int))=a+b:=by
 unfold Gx;rw [if_neg (Jn (E4 a) (E4 b)),<-Rat.divInt_add_divInt _ _ (E4 a) (E4 b),Z4,Z4]
theorem OT (a b:Rat):Gx (a.num*b.num) ((a.den:Int)*(b.den:Int))=a*b:=by
 unfold Gx;rw [if_neg (Jn (E4 a) (E4 b)),<-Kz,Z4,Z4]
theorem qV {a b:Rat} (h:b≠0):Gx (a.num*(b.den:Int)) ((a.den:Int)*b.num)=a / b:=by
 have hn:b.num≠0:=λe=>h (Rat.num_eq_zero.1 e)
 unfold Gx;rw [if_neg (Jn (E4 a) hn),<-Kz,Z4,X3];congr 1
 conv=>rhs; rw [<-Z4 b,Rat.inv_divInt]
theorem Qem {a b:Int} (ha:Fa a<=200000000) (hb:Fa b<=200000000):Uh 84 [.agg (ri a),.agg (ri b)] [.agg (ri (a+b))]:=by
 by_cases hs:(decide (a<0) == decide (b<0))=true
 ·have cm:=O8 (decide (a<0)) (a.natAbs+b.natAbs);rw [Qo9 hs] at cm;exact Ue func84 rfl [.t hs,.k (Qr0 ha hb),.k cm] rfl
 ·have hs':(decide (a<0) == decide (b<0))=false:=by simpa using hs
  by_cases hl:b.natAbs<=a.natAbs
  ·have cm:=O8 (decide (a<0)) (a.natAbs-b.natAbs);rw [Qpc hs hl] at cm;exact Ue func84 rfl [.f hs',.k (sN ha hb),.t (decide_eq_true (lJ.2 hl)),.k (pQ ha hb hl),.k cm] rfl
  ·have cm:=O8 (decide (b<0)) (b.natAbs-a.natAbs);rw [Qjd hs hl] at cm;exact Ue func84 rfl [.f hs',.k (sN ha hb),.f (decide_eq_false λh=>hl (lJ.1 h)),.k (pQ hb ha (by omega)),.k cm] rfl
theorem Qso {a b:Int} (ha:Fa a<=200000000) (hb:Fa b<=200000000):Uh 144 [.agg (ri a),.agg (ri b)] [.agg (ri (a-b))]:=by
 have ca:=Qem (a:=a) (b:=-b) ha (by rw [Hq]; exact hb);rw [show a+-b=a-b from by omega] at ca;exact Ue func144 rfl [.k (O7 (z:=b)),.k ca] rfl
theorem Ex {a b:Int} (ha:Fa a<=200000000) (hb:Fa b<=200000000):Uh 72 [.agg (ri a),.agg (ri b)] [.agg (ri (a*b))]:=by
 have cm:=O8 (!(decide (a<0) == decide (b<0))) (a.natAbs*b.natAbs);rw [Qpb] at cm;exact Ue func72 rfl [.k (Qsb ha hb),.k cm] rfl
theorem NS {a b:Int} (ha:Fa a<=90000000) (hb:Fa b<=90000000) (h0:b≠0) (hd:a % b=0):Uh 105 [.agg (ri a),.agg (ri b)] [.agg (ri (a / b))]:=by
 have cm:=O8 (!(decide (a<0) == decide (b<0))) (a.natAbs / b.natAbs);rw [Qpa hd] at cm;exact Ue func105 rfl [.k (Qdm ha hb (by omega)),.k cm] rfl
theorem Quu (x:Nat):ri ((x:Nat):Int)=[nd x,.bool false]:=by
 unfold ri sg;rw [Xf,decide_eq_false (by omega)]
theorem zD {a b:Int} (ha:Fa a<=90000000) (hb:Fa b<=90000000):Uh 104 [.agg (ri a),.agg (ri b)] [.agg (ri ((Int.gcd a b:Nat):Int))]:=by
 rw [Quu];refine Ft func104 rfl ?_;refine Ub [] rfl ?_;refine Ug (S:=Nat×Nat) 3 (λL1 s=>(5,.v (.one (nd s.1)))::(6,.v (.one (nd s.2)))::L1) (λ_=>[.blk 52 (ri a),.blk 52 (ri b),.blk 52 [.nils,.bool false]]) (λs=>s.2) (λs=>Nat.gcd s.1 s.2=Int.gcd a b/\sz s.1<=90000000/\sz s.2<=90000000) (a.natAbs,b.natAbs) ⟨rfl,ha,hb⟩ rfl rfl λs hs=>?_
 obtain ⟨x,y⟩:=s;obtain ⟨hp0,hp1,hp2⟩:=hs;dsimp only at hp0 hp1 hp2 ⊢;have hyn:=PL (x:=y);have hyl:=UQ y;by_cases h1:y=0
 ·have e:Int.gcd a b=x:=by rw [<-hp0,h1,Nat.gcd_zero_right]
  rw [e];exact Ud [.f (by simp only [Tk]; exact decide_eq_false (by omega))] rfl
 ·have hlt:=Z5 x (show 0<y by omega);refine Ub [.t (by simp only [Tk]; exact decide_eq_true (by omega)),.k (Qdm hp1 hp2 (by omega))] rfl ?_;exact rd (y,x % y) (by dsimp only; omega) ⟨by dsimp only; rw [<-hp0,Nat.gcd_comm x y,Nat.gcd_rec y x,Nat.gcd_comm],hp2,Nat.le_trans (Sr (by dsimp only; omega)) hp2⟩ rfl
theorem PR {a b:Int} (ha:Fa a<=90000000) (hb:Fa b<=90000000):Uh 52 [.agg (ri a),.agg (ri b)] [.agg (fr (Gx a b))]:=by
 rcases Kl b 0 with hs | hs | hs
 ·skip
  by_cases h1:-b=1
  ·have h0:(Bn (Ga (-b).natAbs))[0]? = some [LV.int .i64 1]:=by rw [h1,show (1:Int).natAbs=1 from rfl,A5]; rfl
   have hl1:decide (((Bn (Ga (-b).natAbs)).length:Int)=1)=true:=by rw [h1,show (1:Int).natAbs=1 from rfl,A5]; rfl
   have e:fr (Gx a b)=ri (-a)++ri (-b):=by rw [qK hs,h1]; exact (mX _).symm
   rw [e];exact Ue func52 rfl [.k (Dc (z:=b)),.F,.t (decide_eq_true hs),.k (O7 (z:=a)),.k (O7 (z:=b)),.g 19 true hl1,.x h0,.t rfl] rfl
  ·have hgf:=IA (a:=-a) (b:=-b) (by omega) (by first | exact ha | (rw [Hq]; exact ha)) (by first | exact hb | (rw [Hq]; exact hb));have cg:=zD (a:=-a) (b:=-b) (by first | exact ha | (rw [Hq]; exact ha)) (by first | exact hb | (rw [Hq]; exact hb));have q1:=NS (a:=-a) (b:=((Int.gcd (-a) (-b):Nat):Int)) (by first | exact ha | (rw [Hq]; exact ha)) hgf.1 hgf.2.1 hgf.2.2.1;have q2:=NS (a:=-b) (b:=((Int.gcd (-a) (-b):Nat):Int)) (by first | exact hb | (rw [Hq]; exact hb)) hgf.1 hgf.2.1 hgf.2.2.2;have e:fr (Gx a b)=ri ((-a) / ((Int.gcd (-a) (-b):Nat):Int))++ri ((-b) / ((Int.gcd (-a) (-b):Nat):Int)):=by rw [qK hs]; exact (mZ (by omega)).symm
   rw [e];have hl:=UQ (-b).natAbs;by_cases hl1:(Ga (-b).natAbs).length=1
   ·obtain ⟨u,hu⟩:=gxE (l:=(Ga (-b).natAbs)) (i:=0) (by omega);have hue:=BK hl1 hu;exact Ue func52 rfl [.k (Dc (z:=b)),.F,.t (decide_eq_true hs),.k (O7 (z:=a)),.k (O7 (z:=b)),.g 19 true (by simp only [Tk]; exact decide_eq_true (by omega)),.x (Gs hu),.F,.k cg,.k q1,.k q2] rfl
   ·exact Ue func52 rfl [.k (Dc (z:=b)),.F,.t (decide_eq_true hs),.k (O7 (z:=a)),.k (O7 (z:=b)),.g 19 false (by simp only [Tk]; exact decide_eq_false (by omega)),.f rfl,.k cg,.k q1,.k q2] rfl
 ·subst hs;have h0:(Bn (Ga (1:Int).natAbs))[0]? = some [LV.int .i64 1]:=by rw [show (1:Int).natAbs=1 from rfl,A5]; rfl
  have h1:decide (((Bn (Ga (1:Int).natAbs)).length:Int)=1)=true:=by rw [show (1:Int).natAbs=1 from rfl,A5]; rfl
  have e:fr (Gx a 0)=ri a++ri 1:=(mX a).symm;rw [e];exact Ue func52 rfl [.k (Dc (z:=0)),.t rfl,.k (VK (n:=1) (by decide)),.f rfl,.g 19 true h1,.x h0,.t rfl] rfl
 ·skip
  by_cases h1:b=1
  ·have h0:(Bn (Ga (b).natAbs))[0]? = some [LV.int .i64 1]:=by rw [h1,show (1:Int).natAbs=1 from rfl,A5]; rfl
   have hl1:decide (((Bn (Ga (b).natAbs)).length:Int)=1)=true:=by rw [h1,show (1:Int).natAbs=1 from rfl,A5]; rfl
   have e:fr (Gx a b)=ri (a)++ri (b):=by rw [Et hs,h1]; exact (mX _).symm
   rw [e];exact Ue func52 rfl [.k (Dc (z:=b)),.F,.F,.g 19 true hl1,.x h0,.t rfl] rfl
  ·have hgf:=IA (a:=a) (b:=b) (by omega) (by first | exact ha | (rw [Hq]; exact ha)) (by first | exact hb | (rw [Hq]; exact hb));have cg:=zD (a:=a) (b:=b) (by first | exact ha | (rw [Hq]; exact ha)) (by first | exact hb | (rw [Hq]; exact hb));have q1:=NS (a:=a) (b:=((Int.gcd (a) (b):Nat):Int)) (by first | exact ha | (rw [Hq]; exact ha)) hgf.1 hgf.2.1 hgf.2.2.1;have q2:=NS (a:=b) (b:=((Int.gcd (a) (b):Nat):Int)) (by first | exact hb | (rw [Hq]; exact hb)) hgf.1 hgf.2.1 hgf.2.2.2;have e:fr (Gx a b)=ri ((a) / ((Int.gcd (a) (b):Nat):Int))++ri ((b) / ((Int.gcd (a) (b):Nat):Int)):=by rw [Et hs]; exact (mZ (by omega)).symm
   rw [e];have hl:=UQ (b).natAbs;by_cases hl1:(Ga (b).natAbs).length=1
   ·obtain ⟨u,hu⟩:=gxE (l:=(Ga (b).natAbs)) (i:=0) (by omega);have hue:=BK hl1 hu;exact Ue func52 rfl [.k (Dc (z:=b)),.F,.F,.g 19 true (by simp only [Tk]; exact decide_eq_true (by omega)),.x (Gs hu),.F,.k cg,.k q1,.k q2] rfl
   ·exact Ue func52 rfl [.k (Dc (z:=b)),.F,.F,.g 19 false (by simp only [Tk]; exact decide_eq_false (by omega)),.f rfl,.k cg,.k q1,.k q2] rfl
theorem Qqf {n d:Int} (hn:-1000000000<=n/\n<=1000000000) (hd:-1000000000<=d/\d<=1000000000):Uh 15 [.oi n,.oi d] [.agg (fr (Gx n d))]:=by
 have b1:Fa n<=90000000:=Qc (Tz.2 (show n.natAbs<2^40 by omega)) (by decide);have b2:Fa d<=90000000:=Qc (Tz.2 (show d.natAbs<2^40 by omega)) (by decide);exact Ue func15 rfl [.k (VK (by omega)),.k (VK (by omega)),.k (PR b1 b2)] rfl
theorem Qsd {a:Rat}:Uh 69 [.agg (fr a)] [.agg (fr (-a))]:=by
 have e:fr (-a)=ri (-a.num)++ri (a.den:Int):=rfl;rw [e];exact Ue func69 rfl [.k (O7 (z:=a.num))] rfl
theorem Qdf {a b:Rat} (ha:Qs 20000000 a) (hb:Qs 20000000 b):Uh 39 [.agg (fr a),.agg (fr b)] [.agg (fr (a+b))]:=by
 have k1:=Ge a.num (b.den:Int);have k2:=Ge b.num (a.den:Int);have k3:=Ge (a.den:Int) (b.den:Int);have k4:=YQ (a.num*(b.den:Int)) (b.num*(a.den:Int));have h1:=ha.1; have h2:=ha.2; have h3:=hb.1; have h4:=hb.2;have cm:=PR (a:=a.num*(b.den:Int)+b.num*(a.den:Int)) (b:=(a.den:Int)*(b.den:Int)) (by omega) (by omega);rw [oS] at cm;exact Ue func39 rfl [.k (Ex (a:=a.num) (b:=(b.den:Int)) (by omega) (by omega)),.k (Ex (a:=b.num) (b:=(a.den:Int)) (by omega) (by omega)),.k (Qem (by omega) (by omega)),.k (Ex (a:=(a.den:Int)) (b:=(b.den:Int)) (by omega) (by omega)),.k cm] rfl
theorem sL {a b:Rat} (ha:Qs 40000000 a) (hb:Qs 40000000 b):Uh 29 [.agg (fr a),.agg (fr b)] [.agg (fr (a*b))]:=by
 have k1:=Ge a.num b.num;have k3:=Ge (a.den:Int) (b.den:Int);have h1:=ha.1; have h2:=ha.2; have h3:=hb.1; have h4:=hb.2;have cm:=PR (a:=a.num*b.num) (b:=(a.den:Int)*(b.den:Int)) (by omega) (by omega);rw [OT] at cm;exact Ue func29 rfl [.k (Ex (a:=a.num) (b:=b.num) (by omega) (by omega)),.k (Ex (a:=(a.den:Int)) (b:=(b.den:Int)) (by omega) (by omega)),.k cm] rfl
theorem sE {a b:Rat} (ha:Qs 40000000 a) (hb:Qs 40000000 b) (h0:b≠0):Uh 280 [.agg (fr a),.agg (fr b)] [.agg (fr (a / b))]:=by
 have k1:=Ge a.num (b.den:Int);have k3:=Ge (a.den:Int) b.num;have h1:=ha.1; have h2:=ha.2; have h3:=hb.1; have h4:=hb.2;have cm:=PR (a:=a.num*(b.den:Int)) (b:=(a.den:Int)*b.num) (by omega) (by omega);rw [qV h0] at cm;exact Ue func280 rfl [.k (Ex (a:=a.num) (b:=(b.den:Int)) (by omega) (by omega)),.k (Ex (a:=(a.den:Int)) (b:=b.num) (by omega) (by omega)),.k cm] rfl
end Orr
namespace Orr
def Cw:Un->Un
 | []=>[]
 |
  x::l=>match Cw l with
  | []=>if x=0 then [] else [x]
  | y::k=>x::y::k
theorem JZ:∀ {l:Un},(∀ x∈l,x=0)->Cw l=[]
 | [],_=>rfl
 |
  x::l,h=>by
  have ih:=JZ (l:=l) (λy hy=>h y (Qg _ hy));simp [Cw,ih,h x (Qy ..)]
theorem LH:∀ {l:Un} {m:Nat} {y:Rat},(∀ j x,m<j->l[j]? = some x->x=0)->l[m]? = some y->y≠0->Cw l=l.take (m+1)
 | [],m,y,_,h,_=>by simp at h
 |
  x::l,0,y,h1,h2,h3=>by
  have h0:Cw l=[]:=JZ λz hz=>by
   obtain ⟨j,hj⟩:=Zj.1 hz;exact h1 (j+1) z (by omega) (by simpa using hj)
  simp at h2;subst h2;simp [Cw,h0,h3]
 |
  x::l,m+1,y,h1,h2,h3=>by
  have ih:=LH (l:=l) (m:=m) (y:=y) (λj z hj hz=>h1 (j+1) z (by omega) (by simpa using hz)) (by simpa using h2) h3;cases hl:l with
  | nil=>subst hl; simp at h2
  |
   cons u k =>
   subst hl;rw [Ve] at ih;simp only [Cw] at ih ⊢;rw [ih];simp
theorem qR {l:Un} {m:Nat} (hm:m<=l.length) (h1:∀ j x,m<=j->l[j]? = some x->x=0) (h2:0<m->∃ y,l[m-1]? = some y/\y≠0):Cw l=l.take m:=by
 rcases Q3 m with h0 | h0
 ·subst h0;rw [JZ λz hz=>?_]; rfl;obtain ⟨j,hj⟩:=Zj.1 hz;exact h1 j z (by omega) hj
 ·obtain ⟨y,hy,hy0⟩:=h2 h0;have:=LH (l:=l) (m:=m-1) (y:=y) (λj x hj hx=>h1 j x (by omega) hx) hy hy0;rwa [show m-1+1=m from by omega] at this
theorem qS:∀ (l:Un),∀ z∈Cw l,z∈l
 | [],z,h=>h
 |
  x::l,z,h=>by
  simp only [Cw] at h;have ih:=qS l
  split at h
  ·split at h
   ·cases h
   ·simp at h; simp [h]
  ·rename_i y k e;rw [e] at ih;rcases Ql.1 h with h | h
   ·simp [h]
   ·exact Qg _ (ih z h)
theorem qT:∀ (l:Un),(Cw l).length<=l.length
 | []=>Qm _
 |
  x::l=>by
  have ih:=qT l;simp only [Cw]
  split
  ·split <;> simp
  ·rename_i y k e;rw [e] at ih;simp at ih ⊢; omega
def zp (p:Uk):Un:=p.map λ(z:Int)=>(z:Rat)
theorem Eg:∀ (p:Uk),Cw (zp p)=zp (trim p)
 | []=>rfl
 |
  x::l=>by
  have ih:=Eg l;unfold zp at ih ⊢;simp only [Z1,Cw,trim,ih];cases h:trim l with
  |
   nil =>
   simp only [X7];by_cases hx:x=0
   ·subst hx; simp
   ·have:(x:Rat)≠0:=λe=>hx (by exact_mod_cast e)
    simp [hx,this]
  | cons y k=>simp
theorem As (p:Uk):(zp p).length=p.length:=Q7 _
theorem Qvw {p:Uk} {i:Nat} {z:Int} (h:p[i]? = some z):(zp p)[i]? = some (z:Rat):=by simp [zp,h]
theorem ML (p:Uk) (i:Nat):(zp p).getD i 0=((p.getD i 0:Int):Rat):=by
 simp only [Qi,zp,Zd];cases p[i]? <;> rfl
def Rb (s:Nat) (p:Un):Prop:=∀ q∈p,Qs s q
theorem Rb.mono {s t:Nat} {p:Un} (h:Rb s p) (ht:s<=t):Rb t p:=λq hq=>(h q hq).mono ht
theorem Rb.get {s:Nat} {p:Un} (h:Rb s p) {i:Nat} {q:Rat} (hq:p[i]? = some q):Qs s q:=h q (Qa hq)
theorem Am {s:Nat} {z:Int} (h:Fa z<=s) (h1:1<=s):Qs s (z:Rat):=⟨by simpa using h,Qc (show Fa ((1:Nat):Int)<=1 by decide) h1⟩
theorem qW {s:Nat} {p:Uk} (h:Bd s p) (h1:1<=s):Rb s (zp p):=λq hq=>by
 obtain ⟨z,hz,rfl⟩:=Za.1 hq;exact Am (h z hz) h1
theorem Qor {s:Nat} (h1:1<=s):Qs s 0:=Am (z:=0) (by simp [My]) h1
theorem Rb.getD {s:Nat} {p:Un} (h:Rb s p) (h1:1<=s) (i:Nat):Qs s (p.getD i 0):=by
 rw [Qi];cases e:p[i]? with
 | none=>exact Qor h1
 | some q=>exact h.get e
theorem Rb.trim {s:Nat} {p:Un} (h:Rb s p):Rb s (Cw p):=λq hq=>h q (qS p q hq)
def VQ (f:Nat->Rat) (n:Nat):Un:=(List.range n).map f
theorem LO (f:Nat->Rat) (n:Nat):(VQ f n).length=n:=by simp [VQ]
theorem qD (f:Nat->Rat) (n:Nat):VQ f (n+1)=VQ f n++[f n]:=by simp [VQ,Wc]
theorem Qpk {s n:Nat} {f:Nat->Rat} (h:∀ i,i<n->Qs s (f i)):Rb s (VQ f n):=λq hq=>by
 obtain ⟨i,hi,rfl⟩:=Za.1 hq;exact h i (Kh.1 hi)
theorem yS {f:Nat->Rat} {g:Nat->Int} (n:Nat) (h:∀ i,i<n->f i=(g i:Rat)):VQ f n=zp ((List.range n).map g):=by
 simp only [VQ,zp,List.map_map];exact Xp λi hi=>h i (Kh.1 hi)
def Qb6 (p q:Un):Un:=Cw (VQ (λi=>p.getD i 0+q.getD i 0) (max p.length q.length))
def QN (p:Un) (c:Rat):Un:=Cw (VQ (λi=>p.getD i 0*c) p.length)
def yW (p:Un):Un:=QN p (-1)
def Qrd (p q:Un):Un:=Qb6 p (yW q)
theorem Qot (p q:Uk):Qb6 (zp p) (zp q)=zp (ZU p q):=by
 unfold Qb6 ZU Au;rw [yS (g:=λk=>p.getD k 0+q.getD k 0) _ λi _=>by rw [ML,ML,Kb],Eg,As,As]
theorem qG (p:Uk) (c:Int):QN (zp p) (c:Rat)=zp (Fo p c):=by
 unfold QN Fo Au;rw [yS (g:=λk=>p.getD k 0*c) _ λi _=>by rw [ML,Xm],Eg,As]
theorem nM (p:Uk):Fo p (-1)=Me p:=by
 unfold Fo Me Au;congr 2;funext k;omega
theorem iG (p:Uk):yW (zp p)=zp (Me p):=by
 rw [<-nM,<-qG]; rfl
theorem uQ {p q:Uk} (hp:U7 p) (hq:U7 q) (h:∀ k,p.getD k 0=q.getD k 0):p=q:=by
 have key:∀ {p q:Uk},U7 q->(∀ k,p.getD k 0=q.getD k 0)->q.length<=p.length:=by
  intro p q hq h;rcases Zb p.length q.length with h1 | h1
  ·have h2:=Hx hq (by omega);rw [<-h,Qi,Qw (by omega)] at h2;exact (h2 rfl).elim
  ·exact h1
 exact BB (Ka (key hp λk=>(h k).symm) (key hq h)) λj _=>h j
theorem pD {n m:Nat} {f g:Nat->Int} (hn:n<=m) (h:∀ k,k<n->f k=g k) (h0:∀ k,n<=k->k<m->g k=0):Au n f=Au m g:=by
 refine uQ (Fq _ _) (Fq _ _) λk=>?_
 rw [Sv,Sv];by_cases h1:k<n
 ·rw [if_pos h1,if_pos (by omega),h k h1]
 ·rw [if_neg h1];by_cases h2:k<m
  ·rw [if_pos h2,h0 k (by omega) h2]
  ·rw [if_neg h2]
theorem Qo2 (p q:Uk):Qrd (zp p) (zp q)=zp (Mq p q):=by
 unfold Qrd;rw [iG,Qot];congr 1;have hl:=XF q;unfold ZU Mq;refine pD (by omega) (λk _=>?_) λk h1 h2=>?_
 ·unfold Me;rw [Sv]
  split
  ·omega
  ·rename_i h;have:q.getD k 0=0:=by rw [Qi,Qw (by omega)]; rfl
   omega
 ·have h3:p.getD k 0=0:=by rw [Qi,Qw (by omega)]; rfl
  have h4:(Me q).getD k 0=0:=by rw [Qi,Qw (by omega)]; rfl
  unfold Me at h4;rw [Sv] at h4
  split at h4
  ·omega
  ·have:q.getD k 0=0:=by rw [Qi,Qw (by omega)]; rfl
   omega
end Orr
namespace Orr
open Go Go.Proofs Tryz
set_option maxRecDepth 10000
def frow (p:Un):Uq:=p.map fr
theorem B5 (p:Un):(frow p).length=p.length:=by simp [frow]
theorem ZI {p:Un} {i:Nat} {q:Rat} (h:p[i]? = some q):(frow p)[i]? = some (fr q):=Gn h
theorem IL (p:Un) (q:Rat):frow (p++[q])=frow p++[fr q]:=by simp [frow]
theorem Qbe (p:Un):∀ c∈frow p,c.length=4:=λc hc=>by obtain ⟨x,_,rfl⟩:=Za.1 hc; rfl
abbrev rp (p:Un):LV:=.row (frow p)
theorem Qby (q:Rat):∀ c∈[fr q],c.length=4:=λc hc=>by rw [Qk.1 hc]; rfl
theorem Qel:Uh 279 [] [.agg (fr 0)]:=Ue func279 rfl [.k (VC (n:=0) (by decide))] rfl
theorem VL {p:Un}:Uh 251 [.one (rp p)] [.one (rp (Cw p))]:=by
 refine Ft func251 rfl (ln 0 rfl rfl λhl=>?_);rw [B5] at hl;have hpl:=B5 p;refine Ub [] rfl ?_;refine lp (S:=Nat) 0 (λL1 n=>(3,.v (.oi n))::L1) (λ_=>[]) id (λn=>n<=p.length/\∀ j x,n<=j->p[j]? = some x->x=0) (frow p).length ⟨by rw [hpl]; exact Qm _,λj x h1 h2=>by
  have:=(Qf.1 h2).1; rw [hpl] at h1; omega⟩ rfl (λ_ _=>rfl) rfl λn hs=>?_
 obtain ⟨h1,h2⟩:=hs;cases n with
 |
  zero =>
  have e:=qR h1 (λj x h=>h2 j x h) (λh=>absurd h (by decide));exact Ud [.g 8 false (by simp),.f rfl,.i 0] rfl (by rw [e]; rfl) (by simp [Uw])
 |
  succ n =>
  obtain ⟨x,hx⟩:=gxE (l:=p) (i:=n) (by omega);have hn:=Rat.num_eq_zero (q:=x);by_cases h0:x=0
  ·refine Uc [.g 8 true (by simp),.r 11 (eI (b:=(n:Int)) (by simp)),.x (ZI hx),.k (Dc (z:=x.num)),.t (decide_eq_true (hn.2 h0)),.r 18 (eI (b:=(n:Int)) (by simp))] rfl ?_;exact rd n (by simp) ⟨by omega,λj y h3 h4=>by
    rcases Vl h3 with rfl | h3
    ·rw [hx] at h4; injection h4 with h4; rw [<-h4,h0]
    ·exact h2 j y h3 h4⟩ rfl
  ·have e:=qR h1 (λj x h=>h2 j x h) (λ_=>⟨x,hx,h0⟩);exact Ud [.g 8 true (by simp),.r 11 (eI (b:=(n:Int)) (by simp)),.x (ZI hx),.k (Dc (z:=x.num)),.f (decide_eq_false λh=>h0 (hn.1 h)),.i (n+1)] rfl (by rw [e]; simp [rp,frow,Jt]) (by simp [Uw,hpl] <;> omega)
theorem Qqk {p:Un} {i:Nat} (hi:i<1099511627776):Uh 253 [.one (rp p),.oi i] [.agg (fr (p.getD i 0))]:=by
 have hpl:=B5 p;by_cases h:i<p.length
 ·have e:p.getD i 0=p[i]:=by rw [Qi,Qe h]; rfl
  rw [e];exact Ue func253 rfl [.g 7 false Ui,.F,.x (ZI (Qe h))] rfl
 ·have e:p.getD i 0=0:=by rw [Qi,Qw (by omega)]; rfl
  rw [e];exact Ue func253 rfl [.g 7 false Ui,.T,.k Qel] rfl
theorem Qez:Uh 247 [.one (ids [1])] [.one (rp (zp [1]))]:=by
 have cc:=VL (p:=zp [1]);rw [Eg,show trim [1]=[1] from rfl] at cc;refine Ft func247 rfl ?_;refine Ub [.o 3 54 4] rfl ?_;refine Ug (S:=Nat) 1 (λL1 i=>(7,.v (.oi i))::(3,.v (.one (.orow 0 4 none)))::L1) (λi=>[.row false 54 4 (frow ((zp [1]).take i))]) (λi=>1-i) (λi=>i<=1) 0 (by decide) rfl rfl λi hi=>?_
 rcases (show i=0\/i=1 by omega) with rfl | rfl
 ·refine go tt [.t rfl,.x (l:=idl [1]) (i:=0) (xs:=[.int .i64 1]) rfl,.k (VC (n:=1) (by decide)),.s (sz:=4) (Qby _)] rfl (by simp [Uw,frow]) ?_;exact rd 1 (by omega) (by omega) rfl
 ·exact Ud [.f rfl,.k cc] rfl
theorem Qst {p q:Un} (hp:Rb 20000000 p) (hq:Rb 20000000 q) (hlp:p.length<=1000000) (hlq:q.length<=1000000):Uh 212 [.one (rp p),.one (rp q)] [.one (rp (Qb6 p q))]:=by
 have h1:=B5 p;have h2:=B5 q;obtain ⟨M,hM⟩:=nmE (max p.length q.length);have cc:=VL (p:=VQ (λi=>p.getD i 0+q.getD i 0) M);unfold Qb6;rw [<-hM];refine Ft func212 rfl ?_;refine Ub [.o 5 54 4] rfl ?_;refine Ug (S:=Nat) 1 (λL1 i=>(6,.v (.oi i))::(5,.v (.one (.orow 0 4 none)))::L1) (λi=>[.row false 54 4 (frow (VQ (λi=>p.getD i 0+q.getD i 0) i))]) (λi=>M-i) (λi=>i<=M) 0 (Qh _) rfl rfl λi hi=>?_
 have hol:(frow (VQ (λi=>p.getD i 0+q.getD i 0) i)).length=i:=by rw [B5,LO]
 by_cases h:i<M
 ·refine go tt [.r 12 (eI (b:=(M:Int)) (by omega)),.T,.k (Qqk (p:=p) (i:=i) (by omega)),.k (Qqk (p:=q) (i:=i) (by omega)),.k (Qdf (hp.getD (by decide) i) (hq.getD (by decide) i)),.s (sz:=4) (Qby _)] rfl (by simp [Uw,hol,-List.getD_eq_getElem?_getD]; omega) ?_;exact rd (i+1) (by omega) h (by rw [qD,IL]; rfl)
 ·have e:i=M:=by omega
  rw [e];exact Ud [.r 12 (eI (b:=(M:Int)) (by omega)),.F,.k cc] rfl
theorem NB {p:Un} {c:Rat} (hp:Rb 40000000 p) (hc:Qs 40000000 c) (hlp:p.length<=1000000):Uh 252 [.one (rp p),.agg (fr c)] [.one (rp (QN p c))]:=by
 have h1:=B5 p;have cc:=VL (p:=VQ (λi=>p.getD i 0*c) p.length);unfold QN;refine Ft func252 rfl ?_;refine Ub [.o 5 54 4] rfl ?_;refine Ug (S:=Nat) 2 (λL1 i=>(9,.v (.oi i))::(5,.v (.one (.orow 1 4 none)))::L1) (λi=>[.blk 54 (fr c),.row false 54 4 (frow (VQ (λi=>p.getD i 0*c) i))]) (λi=>p.length-i) (λi=>i<=p.length) 0 (Qh _) rfl rfl λi hi=>?_
 have hol:(frow (VQ (λi=>p.getD i 0*c) i)).length=i:=by rw [B5,LO]
 by_cases h:i<p.length
 ·have hg:p[i]? = some (p.getD i 0):=by rw [Qi,Qe h]; rfl
  refine go tt [.T,.x (ZI hg),.k (sL (hp.getD (by decide) i) hc),.s (sz:=4) (Qby _)] rfl (by simp [Uw,hol,-List.getD_eq_getElem?_getD]; omega) ?_;exact rd (i+1) (by omega) h (by rw [qD,IL]; rfl)
 ·have e:i=p.length:=by omega
  rw [e];exact Ud [.F,.k cc] rfl
theorem Qey {p:Un} (hp:Rb 40000000 p) (hlp:p.length<=1000000):Uh 210 [.one (rp p)] [.one (rp (yW p))]:=by
 have cs:=NB (p:=p) (c:=-1) hp ⟨by decide,by decide⟩ hlp;have co:=VC (n:=-1) (by decide);rw [show ((-1:Int):Rat)=-1 from rfl] at co;exact Ue func210 rfl [.k co,.k cs] rfl
theorem Qop {s t:Nat} {a b:Rat} (ha:Qs s a) (hb:Qs t b):Qs (s+t+1) (a*b):=by
 rw [<-OT];unfold Gx;rw [if_neg (Jn (E4 a) (E4 b))];have h1:=Ge a.num b.num;have h2:=Ge (a.den:Int) (b.den:Int);have:=ha.1; have:=ha.2; have:=hb.1; have:=hb.2;exact Qs.divInt (by omega) (by omega) (by omega)
theorem Qut {s:Nat} {p:Un} (hp:Rb s p):Rb (s+2) (yW p):=by
 unfold yW QN;refine Rb.trim (Qpk λi hi=>?_);have h1:Qs (s+0) (p.getD i 0):=by
  have hi:i<p.length:=hi;rw [Qi,Qe hi];exact hp _ (Xs hi)
 have:=Qop h1 (show Qs 1 (-1:Rat) from ⟨by decide,by decide⟩);exact this.mono (by omega)
theorem Qiy (p:Un):(yW p).length<=p.length:=by
 unfold yW QN;exact Qc (qT _) (by rw [LO]; exact Qm _)
theorem Qdv {a b:Int} (ha:Fa a<=40000000) (hb:Fa b<=40000000):Uh 29 [.agg (fr (a:Rat)),.agg (fr (b:Rat))] [.agg (fr ((a*b:Int):Rat))]:=by
 have h:=sL (Am ha (by decide)) (Am hb (by decide));rw [<-Xm] at h; exact h
theorem Qr1 {a b:Int} (ha:Fa a<=20000000) (hb:Fa b<=20000000):Uh 39 [.agg (fr (a:Rat)),.agg (fr (b:Rat))] [.agg (fr ((a+b:Int):Rat))]:=by
 have h:=Qdf (Am ha (by decide)) (Am hb (by decide));rw [<-Kb] at h; exact h
theorem uW (l:Uk) (i:Nat) (z:Int):(frow (zp l)).set i (fr (z:Rat))=frow (zp (l.set i z)):=by simp [frow,zp,Vu]
theorem Qkp {p:Uk} {i:Nat} (h:i<p.length):(zp p)[i]? = some ((p.getD i 0:Int):Rat):=Qvw (H7 h)
theorem Tu {p:Uk} {i:Nat} (h:i<p.length):(frow (zp p))[i]? = some (fr ((p.getD i 0:Int):Rat)):=ZI (Qkp h)
theorem IE (p:Uk):(frow (zp p)).length=p.length:=by rw [B5,As]
abbrev zR:Up:=[.nils,.bool false,.nils,.bool false]
theorem xF {n i:Nat} (h:i<n):(List.replicate i (fr 0)++List.replicate (n-i) zR).set i (fr 0)=List.replicate (i+1) (fr 0)++List.replicate (n-(i+1)) zR:=by
 rw [List.set_append_right _ _ (by simp),Je,Kg,show n-i=n-(i+1)+1 by omega,J1 (n:=n-(i+1)),List.set_cons_zero,List.replicate_succ' (n:=i),Zc]; rfl
theorem EV (n:Nat):List.replicate n (fr 0)++List.replicate (n-n) zR=frow (zp (List.replicate n 0)):=by simp [zp,frow]
theorem Qsv {p q:Uk} {s t:Nat} (hlp:p.length<=1000000) (hlq:q.length<=1000000) (hp:Bd s p) (hq:Bd t q) (hst:s+t<=19000000):Uh 249 [.one (rp (zp p)),.one (rp (zp q))] [.one (rp (zp (Gh p q)))]:=by
 have hpl:=IE p;have hql:=IE q;rcases Q3 p.length with h0 | h0
 ·have e:Gh p q=[]:=by unfold Gh; rw [if_pos (.inl h0)]
  rw [e];exact Ue func249 rfl [.g 12 true Uj,.t rfl] rfl
 rcases Q3 q.length with h1 | h1
 ·have e:Gh p q=[]:=by unfold Gh; rw [if_pos (.inr h1)]
  rw [e];exact Ue func249 rfl [.g 12 false Ui,.T] rfl
 have e:Gh p q=trim (Ak p q (List.replicate (p.length+q.length-1) 0) p.length):=by unfold Gh; rw [if_neg (by omega)]
 rw [e];obtain ⟨N,hN⟩:=nmE (p.length+q.length-1);rw [<-hN];obtain ⟨o,ho⟩:=nmE (List.replicate N (0:Int));rw [<-ho];have hol:o.length=N:=by rw [ho]; simp
 have ho0:∀ m,o.getD m 0=0:=λm=>by rw [ho]; exact B6 N m
 have cc:=VL (p:=zp (Ak p q o p.length));rw [Eg] at cc;refine Ft func249 rfl ?_;refine Uc [.g 12 false Ui,.F,.r 22 (eI (b:=(N:Int)) (by omega)),.i N,.i N,.r 25 (eI (b:=(N:Int)) (by simp))] rfl ?_;refine Ug (S:=Nat) 1 (λL1 i=>(26,.v (.oi i))::L1) (λi=>[.row false 54 4 (List.replicate i (fr 0)++List.replicate (N-i) zR)]) (λi=>N-i) (λi=>i<=N) 0 (Qh _) rfl rfl λi hi=>?_
 by_cases hlt:i<N
 ·refine Uc [.T,.k Qel,.i i] rfl ?_;rw [xF hlt];exact rd (i+1) (by omega) hlt rfl
 have hiN:i=N:=by omega
 rw [hiN,EV,<-ho];clear hiN hlt hi;refine Ub [.F] rfl ?_;refine Ug (S:=Nat) 1 (λL1 i=>(36,.v (.oi i))::L1) (λi=>[.row false 54 4 (frow (zp (Ak p q o i)))]) (λi=>p.length-i) (λi=>i<=p.length) 0 (Qh _) rfl rfl λi hi=>?_
 by_cases hlt:i<p.length
 ·refine Ub [.T] rfl ?_;refine Ug (S:=Nat) 1 (λL1 k=>(41,.v (.oi k))::L1) (λk=>[.row false 54 4 (frow (zp (Oa (p.getD i 0) q i (Ak p q o i) k)))]) (λk=>q.length-k) (λk=>k<=q.length) 0 (Qh _) rfl rfl λk hk=>?_
  by_cases hk2:k<q.length
  ·have hm1:Fa ((Oa (p.getD i 0) q i (Ak p q o i) k).getD (i+k) 0)<=20000000:=Qc (Ik (t:=39) (jK (by rw [Dz]; omega) (jV (λj hj=>by omega) ho0 (λi j=>M4 (Fj hp i) (Fj hq j))) (λj=>M4 (Fj hp i) (Fj hq j)) (i+k)) (Kf (show i+1<549755813888 by omega) (by decide))) (by omega);have hm2:Fa (p.getD i 0*q.getD k 0)<=20000000:=Qc (Ge _ _) (by have:=Fj hp i; have:=Fj hq k; omega);have hml:(Oa (p.getD i 0) q i (Ak p q o i) k).length=N:=by rw [Ob,Dz,hol]
   have cm:=Qdv (a:=p.getD i 0) (b:=q.getD k 0) (Qc (Fj hp i) (by omega)) (Qc (Fj hq k) (by omega));have hfl:=IE (Oa (p.getD i 0) q i (Ak p q o i) k);refine go tt [.T,.i (i+k),.x (Tu (p:=Oa (p.getD i 0) q i (Ak p q o i) k) (i:=i+k) (by omega)),.x (Tu hlt),.x (Tu hk2),.k cm,.k (Qr1 hm1 hm2),.i (i+k)] rfl (by simp [Uw,hfl,-List.getD_eq_getElem?_getD] <;> omega) ?_;rw [uW];exact rd (k+1) (by omega) hk2 rfl
  ·obtain rfl:k=q.length:=by omega
   exact go tt [.F] rfl (by simp [Uw]; omega) (rd (i+1) (by omega) hlt rfl)
 ·obtain rfl:i=p.length:=by omega
  exact Ud [.F,.k cc] rfl
def wN (p:Uk) (n:Nat):Uk:=(List.range n).map λk=>p.getD (k+1) 0*((k+1:Nat):Int)
theorem Qfv (p:Uk) (n:Nat):(wN p n).length=n:=by simp [wN]
theorem Qa7 (p:Uk) (n:Nat):wN p (n+1)=wN p n++[p.getD (n+1) 0*((n+1:Nat):Int)]:=by simp [wN,Wc]
theorem vV (p:Uk) (z:Int):frow (zp (p++[z]))=frow (zp p)++[fr (z:Rat)]:=by simp [frow,zp]
theorem Qex {p:Uk} (hp:Bd 40000000 p) (hl:p.length<=1000000):Uh 209 [.one (rp (zp p))] [.one (rp (zp (Gp p)))]:=by
 have hpl:=IE p;have cc:=VL (p:=zp (wN p (p.length-1)));rw [Eg] at cc;refine Ft func209 rfl ?_;refine Ub [.o 3 54 4] rfl ?_;refine Ug (S:=Nat) 1 (λL1 j=>(4,.v (.oi ((j+1:Nat):Int)))::(3,.v (.one (.orow 0 4 none)))::L1) (λj=>[.row false 54 4 (frow (zp (wN p j)))]) (λj=>p.length-j) (λj=>j<=p.length-1) 0 (Qh _) rfl rfl λj hj=>?_
 have hfl:=IE (wN p j);rw [Qfv] at hfl;by_cases h:j+1<p.length
 ·have hk:Fa ((j+1:Nat):Int)<=40000000:=Qc (xB (t:=38) (k:=j+1) (Kf (show j+1<274877906944 by omega) (by decide))) (by decide);refine go tt [.T,.x (Tu h),.k (VC (n:=((j+1:Nat):Int)) (by omega)),.k (Qdv (Fj hp (j+1)) hk),.s (sz:=4) (Qby _)] rfl (by simp [Uw,hfl,-List.getD_eq_getElem?_getD] <;> omega) ?_;exact rd (j+1) (by omega) (by omega) (by rw [Qa7,vV]; rfl)
 ·have e:j=p.length-1:=by omega
  rw [e];exact Ud [.F,.k cc] rfl
theorem Qox:[LV.nils,LV.bool false].map UC=ri 0:=by
 show _=[nd 0,sg 0];unfold nd dl;rw [Hu]; rfl
end Orr
namespace Orr
def G9 (p:Uk):Int:=p.getD (p.length-1) 0
def LG (a b:Uk):Int:=if G9 b<0 then -(G9 a) else G9 a
def KA (a b:Uk) (i:Nat):Int:=a.getD i 0*((G9 b).natAbs:Int)-(if a.length-b.length<=i then LG a b*b.getD (i-(a.length-b.length)) 0 else 0)
def rH (a b:Uk):Uk:=Au a.length (KA a b)
inductive RRun (b:List Int):Nat->List Int->List Int->Prop
 | stop {a:List Int}:a.length<b.length->RRun b 0 a a
 | step {k:Nat} {a r:List Int}:b.length<=a.length->a.length<=1000->Bd 9000000 a->Bd 9000000 b->RRun b k (rH a b) r->RRun b (k+1) a r
def Ix (p:Uk):Nat->Nat
 | 0=>0
 | i+1=>Int.gcd (Ix p i:Nat) (p.getD i 0)
def WA (p:Uk):Nat:=Ix p p.length
theorem GI (p:Uk):∀ {i j:Nat},j<i->((Ix p i:Nat):Int)∣p.getD j 0
 | 0,_,h=>absurd h (We _)
 |
  i+1,j,h=>by
  simp only [Ix];rcases Zb j i with h1 | h1
  ·exact V5 (Int.gcd_dvd_left ..) (GI p h1)
  ·rw [show j=i by omega]; exact Wv ..
theorem wJ (p:Uk) (j:Nat):((WA p:Nat):Int)∣p.getD j 0:=by
 rcases Zb j p.length with h | h
 ·exact GI p h
 ·rw [Qi,Qw h]; exact Int.dvd_zero _
theorem ZM {s:Nat} {p:Uk} (h:Bd s p):∀ i,Fa ((Ix p i:Nat):Int)<=s
 | 0=>by simp [Ix,My]
 |
  i+1=>by
  simp only [Ix];by_cases h0:p.getD i 0=0
  ·rw [h0,Int.gcd_zero_right]; exact ZM h i
  ·have h1:=Wv (Ix p i:Nat) (p.getD i 0);have h2:(Int.gcd (Ix p i:Nat) (p.getD i 0))<=(p.getD i 0).natAbs:=Ku (by omega) (by simpa using X1.2 h1);have h3:=Fj h i;rw [Tz] at h3 ⊢;simp only [Xf];omega
theorem Qay {p:Uk} {j i:Nat} (hj:j<i) (h:p.getD j 0≠0):0<Ix p i:=by
 have:=GI p hj;rcases Q3 (Ix p i) with h0 | h0
 ·rw [h0] at this;exact absurd (Int.zero_dvd.1 this) h
 ·exact h0
theorem wY {p:Uk} (ht:U7 p) (h:0<p.length):0<WA p:=Qay (j:=p.length-1) (by omega) (Hx ht h)
def Ls (p:Uk):Int:=if G9 p<0 then -((WA p:Nat):Int) else ((WA p:Nat):Int)
def Rz (p:Uk):Uk:=Au p.length λi=>p.getD i 0 / Ls p
def Nt (p:Uk):Uk:=if G9 p<0 then Me (Rz p) else Rz p
theorem Qbc (p:Uk) (j:Nat):Ls p∣p.getD j 0:=by
 unfold Ls
 split
 ·exact Ua.2 (wJ p j)
 ·exact wJ p j
theorem Qga {p:Uk} (ht:U7 p) (h:0<p.length):Ls p≠0:=by
 have:=wY ht h;unfold Ls
 split <;> omega
theorem IU {s:Nat} {p:Uk} (h:Bd s p):Fa (Ls p)<=s:=by
 unfold Ls
 split
 ·rw [Hq]; exact ZM h _
 ·exact ZM h _
theorem bU {p:Uk} {c:Int} (hc:c≠0) (hd:∀ j,c∣p.getD j 0):QN (zp p) (1 / (c:Rat))=zp (Au p.length λi=>p.getD i 0 / c):=by
 unfold QN Au;rw [yS (g:=λi=>p.getD i 0 / c) _ λi _=>?_,Eg,As];obtain ⟨k,hk⟩:=hd i;have hc':(c:Rat)≠0:=λe=>hc (by exact_mod_cast e)
 rw [ML,hk,Jd _ hc,Xm];grind
theorem NY {s:Nat} {p:Uk} (h:Bd s p):Bd s (Rz p):=JH λi _=>Qc (XV _ _) (Fj h i)
theorem HB (p:Uk):(Rz p).length<=p.length:=I1 _ _
theorem oN {s:Nat} {p:Uk} (h:Bd s p):Bd s (Nt p):=by
 unfold Nt
 split
 ·exact PU (NY h)
 ·exact NY h
theorem mP (p:Uk):(Nt p).length<=p.length:=by
 unfold Nt
 split
 ·exact Qc (XF _) (HB p)
 ·exact HB p
inductive GRun:Nat->List Int->List Int->List Int->Prop
 | stop (a:List Int):GRun 0 a [] a
 | step {k m:Nat} {a b r g:List Int}:0<b.length->b.length<=1000->Bd 9000000 b->RRun b m a r->r.length<=1000->Bd 9000000 r->U7 r->GRun k b (Rz r) g->GRun (k+1) a b g
theorem GRun.inv {k:Nat} {a b g:Uk} (h:GRun k a b g):(k=0/\b.length=0/\a=g)\/∃ j m r,k=j+1/\0<b.length/\b.length<=1000/\Bd 9000000 b/\RRun b m a r/\r.length<=1000/\Bd 9000000 r/\U7 r/\GRun j b (Rz r) g:=by
 cases h with
 | stop=>exact .inl ⟨rfl,rfl,rfl⟩
 | step h1 h2 h3 h4 h5 h6 h7 h8=>exact .inr ⟨_,_,_,rfl,h1,h2,h3,h4,h5,h6,h7,h8⟩
def QB (k:Nat) (p:Uk):Uk:=List.replicate k 0++p
theorem bL (k:Nat) (p:Uk):(QB k p).length=k+p.length:=by simp [QB]
theorem oC {s k:Nat} {p:Uk} (h:Bd s p):Bd s (QB k p):=λz hz=>by
 rcases Qr.1 hz with h1 | h1
 ·rw [Zy h1,My]; exact Qh _
 ·exact h z h1
inductive DRun (b:List Int):Nat->List Int->List Int->List Int->List Int->Prop
 | stop {a q:List Int}:a.length<b.length->DRun b 0 a q q a
 | step {k:Nat} {a q qf r:List Int}:b.length<=a.length->a.length<=1000->Bd 9000000 a->G9 b≠0->G9 b∣G9 a->a.length-b.length<q.length ->
  DRun b k (Mq a (QB (a.length-b.length) (Fo b (G9 a / G9 b)))) (q.set (a.length-b.length) (G9 a / G9 b)) qf r->DRun b (k+1) a q qf r
theorem DRun.inv {b a q qf r:Uk} {k:Nat} (h:DRun b k a q qf r):(k=0/\q=qf/\a=r/\a.length<b.length)\/∃ j,k=j+1/\b.length<=a.length/\a.length<=1000/\Bd 9000000 a/\G9 b≠0/\G9 b∣G9 a/\a.length-b.length<q.length /\
 DRun b j (Mq a (QB (a.length-b.length) (Fo b (G9 a / G9 b)))) (q.set (a.length-b.length) (G9 a / G9 b)) qf r:=by
 cases h with
 | stop h=>exact .inl ⟨rfl,rfl,rfl,h⟩
 | step h1 h2 h3 h4 h5 h6 h7=>exact .inr ⟨_,rfl,h1,h2,h3,h4,h5,h6,h7⟩
def Mm (l:Ul):Uk:=l.getD (l.length-1) []
inductive LRun:Nat->List (List Int)->List (List Int)->Prop
 | stop {l:List (List Int)}:(Mm l).length<=1->LRun 0 l l
 | step {k m:Nat} {l f:List (List Int)} {g:List Int}:1<(Mm l).length->(Mm l).length<=1000->U7 (Mm l)->Bd 9000000 (Mm l)->Bd 9000000 (Gp (Mm l))->GRun m (Rz (Mm l)) (Rz (Gp (Mm l))) g->l.length<=1000->LRun k (l++[g]) f->LRun (k+1) l f
theorem LRun.inv {k:Nat} {l f:Ul} (h:LRun k l f):(k=0/\l=f/\(Mm l).length<=1)\/∃ j m g,k=j+1/\1<(Mm l).length/\(Mm l).length<=1000/\U7 (Mm l)/\Bd 9000000 (Mm l)/\Bd 9000000 (Gp (Mm l))/\GRun m (Rz (Mm l)) (Rz (Gp (Mm l))) g/\l.length<=1000/\LRun j (l++[g]) f:=by
 cases h with
 | stop h=>exact .inl ⟨rfl,rfl,h⟩
 | step h1 h2 h3 h4 h5 h6 h7 h8=>exact .inr ⟨_,_,_,rfl,h1,h2,h3,h4,h5,h6,h7,h8⟩
def DOk (a b q:Uk):Prop:=0<b.length/\b.length<=1000/\a.length<=1000/\Bd 9000000 b/\∃ qf r n,Bd 9000000 qf/\qf.length<=1000/\DRun b n a (List.replicate (a.length+1-b.length) 0) qf r/\q=trim qf
theorem DOk.bd {a b q:Uk} (h:DOk a b q):Bd 9000000 q:=by
 obtain ⟨_,_,_,_,qf,r,n,h1,_,_,rfl⟩:=h;exact Sp h1
theorem DOk.len {a b q:Uk} (h:DOk a b q):q.length<=1000:=by
 obtain ⟨_,_,_,_,qf,r,n,_,h1,_,rfl⟩:=h;exact Qc (Rm _) h1
theorem DOk.trim {a b q:Uk} (h:DOk a b q):U7 q:=by
 obtain ⟨_,_,_,_,qf,r,n,_,_,_,rfl⟩:=h;exact Tf _
def Qv3 (a b c f:Uk):Prop:=∃ x y z,DOk a b x/\DOk b c y/\DOk (Rz x) (Rz y) z/\f=Rz z
structure FRun (a:List Int) (m:Nat) (f:Nat->List Int):Prop where
 run:∃ n l,LRun n [Rz a] l/\l.length=m+1/\∀ k,k<m->Qv3 ((l++[[1]]).getD k []) ((l++[[1]]).getD (k+1) []) ((l++[[1]]).getD (k+2) []) (f k)
 small:m<=1000
def LI (f:Nat->Uk) (n:Nat):Ul:=(List.range n).map f
theorem rI (f:Nat->Uk) (n:Nat):(LI f n).length=n:=by simp [LI]
theorem Qch (f:Nat->Uk) (n:Nat):LI f (n+1)=LI f n++[f n]:=by simp [LI,Wc]
theorem Qjy {f:Nat->Uk} {n i:Nat} (h:i<n):(LI f n)[i]? = some (f i):=by simp [LI,Xz h]
theorem mV {l:Ul} {i:Nat} (h:i<l.length):l[i]? = some (l.getD i []):=by
 rw [Qi,Qe h]; rfl
def Ol (f:Nat->Uk):Nat->Uk
 | 0=>[1]
 | i+1=>Gh (Ol f i) (f i)
def Qv1 (m:Nat) (f:Nat->Uk):Prop:=∀ i,i<m->Bd 9000000 (Ol f i)/\(Ol f i).length<=1000/\Bd 9000000 (f i)/\(f i).length<=1000
inductive CRun:Nat->List (List Int)->List Int->List (List Int)->Prop
 | stop {l:List (List Int)} {g:List Int}:g.length=0->CRun 0 l g l
 | step {k m:Nat} {l f:List (List Int)} {g r:List Int}:0<g.length->g.length<=1000->Bd 9000000 g->RRun g m (Mm l) r->U7 r->Bd 9000000 r->r.length<=1000->0<l.length->l.length<=1000->CRun k (l++[g]) (Me (Nt r)) f->CRun (k+1) l g f
theorem CRun.inv {k:Nat} {l f:Ul} {g:Uk} (h:CRun k l g f):(k=0/\l=f/\g.length=0)\/∃ j m r,k=j+1/\0<g.length/\g.length<=1000/\Bd 9000000 g/\RRun g m (Mm l) r/\U7 r/\Bd 9000000 r/\r.length<=1000/\0<l.length/\l.length<=1000/\CRun j (l++[g]) (Me (Nt r)) f:=by
 cases h with
 | stop h=>exact .inl ⟨rfl,rfl,h⟩
 | step h1 h2 h3 h4 h5 h6 h7 h8 h9 h10=>exact .inr ⟨_,_,_,rfl,h1,h2,h3,h4,h5,h6,h7,h8,h9,h10⟩
structure ChRun (a:List Int) (sq:List Int) (c:List (List Int)):Prop where
 fac:∃ m f,FRun a m f/\Qv1 m f/\sq=Ol f m
 Lq:∃ n,CRun n [sq] (Nt (Gp sq)) c
 bd:Bd 8000000 sq
 len:sq.length<=1000
 small:c.length<=1000
def Qc1 (q:Rat) (c:Ul):Prop:=∃ sq,ChRun [-q.num,(q.den:Int)] sq c
end Orr
namespace Orr
open Go Go.Proofs Tryz
set_option maxRecDepth 10000
theorem RRun.inv {b a r:Uk} {k:Nat} (h:RRun b k a r):(k=0/\a=r/\a.length<b.length)\/(∃ j,k=j+1/\b.length<=a.length/\a.length<=1000/\Bd 9000000 a/\Bd 9000000 b/\RRun b j (rH a b) r):=by
 cases h with
 | stop h=>exact .inl ⟨rfl,rfl,h⟩
 | step h1 h2 h3 h4 h5=>exact .inr ⟨_,rfl,h1,h2,h3,h4,h5⟩
theorem Qo3 {a b:Uk} (ha:Bd 9000000 a):Fa (LG a b)<=9000000:=by
 unfold LG; split
 ·rw [Hq]; exact Fj ha _
 ·exact Fj ha _
theorem Qow (n:Nat):ri (n:Int)=[nd n,.bool false]:=by
 show [nd n,sg (n:Int)]=_;unfold sg;rw [decide_eq_false (by omega)]
def yF (a b:Uk) (n:Nat):Uk:=(List.range n).map (KA a b)
theorem Qi5 (a b:Uk) (n:Nat):(yF a b n).length=n:=by simp [yF]
theorem qH (a b:Uk) (n:Nat):yF a b (n+1)=yF a b n++[KA a b n]:=by simp [yF,Wc]
theorem dC {a0 b res:Uk} {n:Nat} (hb0:0<b.length) (hb1:b.length<=1000) (hbb0:Bd 9000000 b) (hrun:RRun b n a0 res):Uh 211 [.one (rp (zp a0)),.one (rp (zp b))] [.one (rp (zp res))]:=by
 have hbl:=IE b;have hle:Fa (((G9 b).natAbs:Nat):Int)<=9000000:=Fj hbb0 _;refine Ft func211 rfl ?_;refine Uc [.r 15 (eI (b:=((b.length-1:Nat):Int)) (by omega)),.x (Tu (p:=b) (i:=b.length-1) (by omega))] rfl ?_;refine sb [(0,.v (.one (rp (zp a0)))),(1,.v (.one (rp (zp b)))),(5,.v (.one (.ow 0 0))),(6,.v (.one (.ow 1 0)))] [.blk 52 (ri (G9 b)),.blk 52 [nd (G9 b).natAbs,.bool false]] rfl rfl ?_;refine Ug (S:=Nat×Uk) 2 (λL1 s=>(0,.v (.one (rp (zp s.2))))::L1) (λ_=>[.blk 52 (ri (G9 b)),.blk 52 [nd (G9 b).natAbs,.bool false]]) (λs=>s.1) (λs=>RRun b s.1 s.2 res) (n,a0) hrun rfl rfl λ⟨k,a⟩ hs=>?_
 have hal:=IE a;have hs:RRun b k a res:=hs;rcases RRun.inv hs with ⟨rfl,rfl,h1⟩ | ⟨j,rfl,h1,h2,ha,hb,hr⟩
 ·exact Ud [.f (decide_eq_false (by dsimp only; omega))] rfl
 obtain ⟨K,hK⟩:=nmE (a.length-b.length);have htb:=Qo3 (b:=b) ha;have cc:=VL (p:=zp (yF a b a.length));rw [Eg,show trim (yF a b a.length)=rH a b from rfl] at cc;refine Uc [.t (decide_eq_true (by dsimp only; omega)),.r 30 (eI (b:=(K:Int)) (by dsimp only; omega)),.r 34 (eI (b:=((a.length-1:Nat):Int)) (by dsimp only; omega)),.x (Tu (p:=a) (i:=a.length-1) (by omega))] rfl ?_;refine ct 1 (S:=Unit) (λ_=>[(0,.v (.one (rp (zp a)))),(1,.v (.one (rp (zp b)))),(5,.v (.one (.ow 0 0))),(6,.v (.one (.ow 1 0))),(7,.v (.oi K)),(8,.v (.one (.ow 2 0)))]) (λ_=>[.blk 52 (ri (G9 b)),.blk 52 [nd (G9 b).natAbs,.bool false],.blk 52 (ri (LG a b))]) (λ_=>True) rfl ?_ (λ_ _=>?_)
 ·by_cases hn:G9 b<0
  ·have e:LG a b=-(G9 a):=if_pos hn;rw [e];exact go tt [.t (decide_eq_true hn),.k (O7 (z:=G9 a))] rfl trivial (rc () trivial rfl)
  ·have e:LG a b=G9 a:=if_neg hn;rw [e];exact go tt [.f (decide_eq_false hn)] rfl trivial (rc () trivial rfl)
 refine Ub [.o 9 54 4] rfl ?_;refine Ug (S:=Nat) 4 (λL1 i=>(44,.v (.oi i))::(9,.v (.one (.orow 3 4 none)))::L1) (λi=>[.blk 52 (ri (G9 b)),.blk 52 [nd (G9 b).natAbs,.bool false],.blk 52 (ri (LG a b)),.row false 54 4 (frow (zp (yF a b i)))]) (λi=>a.length-i) (λi=>i<=a.length) 0 (Qh _) rfl rfl λi hi=>?_
 have hfl:=IE (yF a b i);rw [Qi5] at hfl;by_cases h:i<a.length
 ·have cm:=Ex (a:=a.getD i 0) (b:=(((G9 b).natAbs:Nat):Int)) (Qc (Fj ha i) (by decide)) (by omega);have hm:=Ge (a.getD i 0) (((G9 b).natAbs:Nat):Int);have hai:=Fj ha i;rw [Qow (G9 b).natAbs] at cm;by_cases hk:K<=i
  ·have hbi:=Fj hb (i-K);have hm2:=Ge (LG a b) (b.getD (i-K) 0);have e:KA a b i=a.getD i 0*(((G9 b).natAbs:Nat):Int)-LG a b*b.getD (i-K) 0:=by unfold KA; rw [if_pos (by omega),hK]
   refine go tt [.T,.x (Tu h),.k cm,.T,.r 62 (eI (b:=((i-K:Nat):Int)) (by omega)),.x (Tu (p:=b) (i:=i-K) (by omega)),.k (Ex (a:=LG a b) (b:=b.getD (i-K) 0) (by omega) (by omega)),.k (Qso (by omega) (by omega)),.k (VK (n:=1) (by decide)),.k (Ew (n:=a.getD i 0*(((G9 b).natAbs:Nat):Int)-LG a b*b.getD (i-K) 0)),.s (sz:=4) (Qby _)] rfl (by simp [Uw,hfl,-List.getD_eq_getElem?_getD] <;> omega) ?_;exact rd (i+1) (by omega) h (by rw [qH,vV,e]; rfl)
  ·have e:KA a b i=a.getD i 0*(((G9 b).natAbs:Nat):Int):=by unfold KA; rw [if_neg (by omega),Int.sub_zero]
   refine go tt [.T,.x (Tu h),.k cm,.F,.k (VK (n:=1) (by decide)),.k (Ew (n:=a.getD i 0*(((G9 b).natAbs:Nat):Int))),.s (sz:=4) (Qby _)] rfl (by simp [Uw,hfl,-List.getD_eq_getElem?_getD] <;> omega) ?_;exact rd (i+1) (by omega) h (by rw [qH,vV,e]; rfl)
 ·have e:i=a.length:=by omega
  rw [e];exact go tt [.F,.k cc] rfl trivial (rd (j,rH a b) (by omega) hr rfl)
theorem Qss:Uh 72 [.agg (ri 1),.agg (ri 1)] [.agg (ri 1)]:=Ex (a:=1) (b:=1) (by decide) (by decide)
theorem Qmi:Uh 104 [.agg (ri 1),.agg (ri 1)] [.agg (ri 1)]:=zD (a:=1) (b:=1) (by decide) (by decide)
theorem Qlx {z:Int} (hz:Fa z<=90000000):Uh 72 [.agg (ri z),.agg (ri 1)] [.agg (ri z)]:=by
 have h:=Ex (a:=z) (b:=1) (by omega) (by decide);rwa [W9] at h
theorem dF {z:Int} (hz:Fa z<=90000000):Uh 105 [.agg (ri z),.agg (ri 1)] [.agg (ri z)]:=by
 have h:=NS (a:=z) (b:=1) hz (by decide) (by decide) (Int.emod_one z);rwa [Int.ediv_one] at h
theorem Qdw {z:Int}:Uh 69 [.agg (fr (z:Rat))] [.agg (fr ((-z:Int):Rat))]:=by
 have h:=Qsd (a:=(z:Rat));rwa [<-Vn] at h
theorem Qur {c:Int} (hc:c≠0) (hs:Fa c<=9000000):Qs 40000000 (((1:Int):Rat) / (c:Rat)):=by
 have h0:(c:Rat)≠0:=λe=>hc (by exact_mod_cast e)
 rw [<-qV h0];unfold Gx;rw [if_neg (Jn (E4 _) (λe=>hc (by simpa using e)))];refine Qs.divInt (by show Fa (1*1)<=_; decide) ?_ (by decide);show Fa (1*c)<=_;rw [Kq]; omega
theorem sO {p:Uk} {c:Int} (hc:c≠0) (hs:Fa c<=9000000) (hd:∀ j,c∣p.getD j 0) (hp:Bd 9000000 p) (hl:p.length<=1000):Uh 252 [.one (rp (zp p)),.agg (fr (((1:Int):Rat) / (c:Rat)))] [.one (rp (zp (Au p.length λi=>p.getD i 0 / c)))]:=by
 have h:=NB ((qW hp (by omega)).mono (by omega)) (Qur hc hs) (by rw [As]; omega);rwa [show ((1:Int):Rat)=1 from rfl,bU hc hd] at h
theorem QQ {p:Uk} (tp:U7 p) (hp:Bd 9000000 p) (hl:p.length<=1000):Uh 250 [.one (rp (zp p))] [.agg (fr ((Ls p:Int):Rat)),.one (rp (zp (Rz p)))]:=by
 have hpl:=IE p;rcases Q3 p.length with h0 | h0
 ·have e:=Qj h0;subst e;exact Ue func250 rfl [.t rfl,.k Qel] rfl
 have hc:=Qga tp h0;refine Ft func250 rfl ?_;refine Ub [.F,.k (VK (n:=1) (by decide))] rfl ?_;refine Ug (S:=Nat) 2 (λL1 i=>(16,.v (.oi i))::L1) (λi=>[.blk 54 [.nils,.bool false,.nils,.bool false],.blk 52 (ri 1)]) (λi=>p.length-i) (λi=>i<=p.length) 0 (Qh _) rfl rfl λi hi=>?_
 by_cases h:i<p.length
 ·refine Uc [.T,.x (Tu h),.k Qss,.x (Tu h),.k Qmi,.k (dF (z:=1) (by decide))] rfl ?_;exact rd (i+1) (by omega) h rfl
 refine Ub [.F] rfl ?_;clear h hi;refine nlb 2 rfl rfl rfl ?_;rw [Qox];refine Ug (S:=Nat) 3 (λL1 i=>(37,.v (.oi i))::L1) (λi=>[.blk 54 [.nils,.bool false,.nils,.bool false],.blk 52 (ri 1),.blk 52 (ri ((Ix p i:Nat):Int))]) (λi=>p.length-i) (λi=>i<=p.length) 0 (Qh _) rfl rfl λi hi=>?_
 by_cases h:i<p.length
 ·have hb:=Fj hp i;have hg:=ZM hp i;refine Uc [.T,.x (Tu h),.k (Qlx (z:=p.getD i 0) (by omega)),.x (Tu h),.k (dF (z:=p.getD i 0) (by omega)),.k (zD (a:=((Ix p i:Nat):Int)) (b:=p.getD i 0) (by omega) (by omega))] rfl ?_;exact rd (i+1) (by omega) h rfl
 have e:i=p.length:=by omega
 rw [e];have co:=VC (n:=1) (by decide);have cs:=sO hc (IU hp) (Qbc p) hp hl;by_cases hn:G9 p<0
 ·have e2:Ls p=-((WA p:Nat):Int):=if_pos hn;rw [show (λi=>p.getD i 0 / Ls p)=λi=>p.getD i 0 / Ls p from rfl] at cs;have cn:=Qdw (z:=((WA p:Nat):Int));rw [<-e2] at cn;exact Ud [.F,.k (Ew (n:=((WA p:Nat):Int))),.r 62 (eI (b:=((p.length-1:Nat):Int)) (by omega)),.x (Tu (p:=p) (i:=p.length-1) (by omega)),.t (decide_eq_true hn),.k cn,.k co,.k (sE (a:=((1:Int):Rat)) (b:=((Ls p:Int):Rat)) ⟨by decide,by decide⟩ (Am (by have:=IU hp; omega) (by decide)) (λe=>hc (by exact_mod_cast e))),.k cs] rfl rfl (by simp [Uw]; omega)
 ·have e2:Ls p=((WA p:Nat):Int):=if_neg hn;have cm:=Ew (n:=Ls p);rw [e2] at cm cs hc ⊢;exact Ud [.F,.k cm,.r 62 (eI (b:=((p.length-1:Nat):Int)) (by omega)),.x (Tu (p:=p) (i:=p.length-1) (by omega)),.f (decide_eq_false hn),.k co,.k (sE (a:=((1:Int):Rat)) (b:=((((WA p:Nat):Int):Int):Rat)) ⟨by decide,by decide⟩ (Am (by have:=ZM hp p.length; unfold WA; omega) (by decide)) (λe=>hc (by exact_mod_cast e))),.k cs] rfl (by unfold Rz; rw [e2]; rfl) (by simp [Uw]; omega)
theorem O9 {p:Uk} (tp:U7 p) (hp:Bd 9000000 p) (hl:p.length<=1000):Uh 276 [.one (rp (zp p))] [.one (rp (zp (Rz p)))] :=
 Ue func276 rfl [.k (QQ tp hp hl)] rfl
theorem IF {p:Uk} (tp:U7 p):Ls p<0↔G9 p<0:=by
 unfold Ls;rcases Q3 p.length with h0 | h0
 ·have:=Qj h0; subst this; decide
 ·have:=wY tp h0
  split <;> omega
theorem Qeu {p:Uk} (hp:Bd 9000000 p) (hl:p.length<=1000000):Uh 210 [.one (rp (zp p))] [.one (rp (zp (Me p)))]:=by
 have h:=Qey ((qW hp (by decide)).mono (by decide)) (by rw [As]; exact hl);rwa [iG] at h
theorem kL {p:Uk} (tp:U7 p) (hp:Bd 9000000 p) (hl:p.length<=1000):Uh 208 [.one (rp (zp p))] [.one (rp (zp (Nt p)))]:=by
 by_cases hn:G9 p<0
 ·have e:Nt p=Me (Rz p):=if_pos hn;rw [e];exact Ue func208 rfl [.k (QQ tp hp hl),.t (decide_eq_true ((IF tp).2 hn)),.k (Qeu (NY hp) (Qc (HB p) (by omega)))] rfl
 ·have e:Nt p=Rz p:=if_neg hn;rw [e];exact Ue func208 rfl [.k (QQ tp hp hl),.f (decide_eq_false λh=>hn ((IF tp).1 h))] rfl
end Orr
namespace Orr
section
variable {x d:Int} (hd:0<d) (hg:Int.gcd x d=1) (hx:Fa x<=2000000) (hs:Fa d<=2000000)
include hd in
include hd in
include hd in
include hd hx hs in
include hd hx hs in
include hd hx hs in
include hd hg hx hs in
include hd hg hx hs in
end
end Orr
namespace Orr
open Go Go.Proofs Tryz
set_option maxRecDepth 10000
theorem Qsu {a b g:Uk} {n:Nat} (ta:U7 a) (tb:U7 b) (ha:Bd 9000000 a) (hb:Bd 9000000 b) (la:a.length<=1000) (lb:b.length<=1000) (hrun:GRun n (Rz a) (Rz b) g):Uh 277 [.one (rp (zp a)),.one (rp (zp b))] [.one (rp (zp g))]:=by
 refine Ft func277 rfl ?_;refine Ub [.k (O9 ta ha la),.k (O9 tb hb lb)] rfl ?_;refine sb [(0,.v (.one (rp (zp (Rz a))))),(1,.v (.one (rp (zp (Rz b)))))] [] rfl rfl ?_;refine Ug (S:=Nat×Uk×Uk) 0 (λL1 s=>(0,.v (.one (rp (zp s.2.1))))::(1,.v (.one (rp (zp s.2.2))))::L1) (λ_=>[]) (λs=>s.1) (λs=>GRun s.1 s.2.1 s.2.2 g) (n,Rz a,Rz b) hrun rfl rfl λ⟨k,x,y⟩ hs=>?_
 have hs:GRun k x y g:=hs;have hyl:=IE y;rcases hs.inv with ⟨hk,hy0,hxg⟩ | ⟨j,m2,r,hk,hy0,hy1,hyb,hrr,hrl,hrb,hrt,hgr⟩
 ·rw [<-hxg];exact Ud [.f (decide_eq_false (by dsimp only; omega))] rfl
 ·subst hk;refine Ub [.t (decide_eq_true (by dsimp only; omega)),.k (dC (a0:=x) (b:=y) (res:=r) hy0 hy1 hyb hrr),.k (O9 (p:=r) hrt hrb hrl)] rfl ?_;exact rd (j,y,Rz r) (by dsimp only; omega) hgr rfl
theorem Ql0 {x y:Int} (hx:Fa x<=9000000) (hy:Fa y<=9000000) (h0:y≠0) (hd:y∣x):Uh 280 [.agg (fr (x:Rat)),.agg (fr (y:Rat))] [.agg (fr ((x / y:Int):Rat))]:=by
 have hy0:(y:Rat)≠0:=λe=>h0 (by exact_mod_cast e)
 have h:=sE (Am (s:=40000000) (z:=x) (by omega) (by omega)) (Am (s:=40000000) (z:=y) (by omega) (by omega)) hy0;obtain ⟨k,rfl⟩:=hd;rw [Jd _ h0];rwa [show (((y*k:Int):Rat)) / (y:Rat)=(k:Rat) by rw [Xm]; grind] at h
theorem Qat {p:Uk} {c:Int} (hp:Bd 40000000 p) (hc:Fa c<=40000000) (hl:p.length<=1000000):Uh 252 [.one (rp (zp p)),.agg (fr (c:Rat))] [.one (rp (zp (Fo p c)))]:=by
 have h:=NB (qW hp (by omega)) (Am hc (by omega)) (by rw [As]; exact hl);rwa [qG] at h
theorem Qpd (k:Nat) (p:Uk):frow (zp (List.replicate k 0))++frow (zp p)=frow (zp (QB k p)):=by simp [zp,QB,frow]
theorem Qbf (l:Uk) (i:Nat) (z:Int):(frow (zp l)).set i [nd ((z:Rat)).num.natAbs,sg ((z:Rat)).num,nd (((z:Rat)).den:Int).natAbs,sg (((z:Rat)).den:Int)]=frow (zp (l.set i z)):=uW l i z
theorem Qmn {p q:Uk} (hp:Bd 18000000 p) (hq:Bd 18000000 q) (hlp:p.length<=1000000) (hlq:q.length<=1000000):U0 prog 173 [.one (rp (zp p)),.one (.orow 0 4 none)] [.row false 54 4 (frow (zp q))] [.one (rp (zp (Mq p q)))] [.gone]:=by
 have hn:=Qey ((qW hq (by decide)).mono (by decide)) (by rw [As]; exact hlq);have ha:=Qst (p:=zp p) (q:=yW (zp q)) ((qW hp (by decide)).mono (by decide)) ((Qut (qW hq (by decide))).mono (by decide)) (by rw [As]; exact hlp) (Qc (Qiy _) (by rw [As]; exact hlq));have e:Qb6 (zp p) (yW (zp q))=zp (Mq p q):=Qo2 p q;rw [e] at ha;refine Ft func173 rfl ?_;exact Uf [] [0] [.k hn,.k ha] rfl
theorem Qau {a0 b qf rem:Uk} {n:Nat} (hb0:0<b.length) (hb1:b.length<=1000) (hl0:a0.length<=1000) (hbb:Bd 9000000 b) (hqb:Bd 9000000 qf) (hrun:DRun b n a0 (List.replicate (a0.length+1-b.length) 0) qf rem):Uh 278 [.one (rp (zp a0)),.one (rp (zp b))] [.one (rp (zp (trim qf))),.one (rp (zp rem))]:=by
 have h0l:=IE a0;have hbl:=IE b;obtain ⟨N,hN⟩:=nmE (a0.length+1-b.length);rw [<-hN] at hrun;have cc:=VL (p:=zp qf);rw [Eg] at cc;refine Ft func278 rfl ?_;refine Uc [.r 18 (eI (b:=(N:Int)) (by omega)),.i N,.i N,.r 21 (eI (b:=(N:Int)) (by simp))] rfl ?_;refine Ug (S:=Nat) 1 (λL1 i=>(22,.v (.oi i))::L1) (λi=>[.row false 54 4 (List.replicate i (fr 0)++List.replicate (N-i) zR)]) (λi=>N-i) (λi=>i<=N) 0 (Qh _) rfl rfl λi hi=>?_
 by_cases hlt:i<N
 ·refine Uc [.T,.k Qel,.i i] rfl ?_;rw [xF hlt];exact rd (i+1) (by omega) hlt rfl
 have hiN:i=N:=by omega
 rw [hiN,EV];clear hiN hlt hi;refine Ub [.F] rfl ?_;refine sb [(0,.v (.one (rp (zp a0)))),(1,.v (.one (rp (zp b)))),(6,.v (.one (.orow 0 4 none)))] [.row false 54 4 (frow (zp (List.replicate N 0)))] rfl rfl ?_;refine Ug (S:=Nat×Uk×Uk) 1 (λL1 s=>(0,.v (.one (rp (zp s.2.1))))::L1) (λs=>[.row false 54 4 (frow (zp s.2.2))]) (λs=>s.1) (λs=>DRun b s.1 s.2.1 s.2.2 qf rem/\s.2.2.length=N) (n,a0,List.replicate N 0) ⟨hrun,Je⟩ rfl rfl λ⟨k,a,q⟩ ⟨hr0,hr1⟩=>?_
 have hr0:DRun b k a q qf rem:=hr0;have hr1:q.length=N:=hr1;have hal:=IE a;have hql:=IE q;rcases hr0.inv with ⟨hk,hqf,har,hlt⟩ | ⟨j,hk,hba,hal2,hab,hpb,hpd,hkq,hrj⟩
 ·subst hqf; subst har;exact Ud [.f (decide_eq_false (by dsimp only; omega)),.k cc] rfl
 subst hk;obtain ⟨K,hK⟩:=nmE (a.length-b.length);rw [<-hK] at hrj hkq;have hla:Fa (G9 a)<=9000000:=Fj hab _;have hlb:Fa (G9 b)<=9000000:=Fj hbb _;obtain ⟨c,hc⟩:=nmE (G9 a / G9 b);have cq:=Ql0 hla hlb hpb hpd;have hcs:Fa (G9 a / G9 b)<=9000000:=Qc (XV _ _) hla;rw [<-hc] at cq hcs hrj;have hsl:=Fu b c;have hqs:∀ x,(q.set K x).length=N:=λx=>by rw [Jp]; exact hr1
 dsimp only;refine go tt [.T,.r 39 (eI (b:=(K:Int)) (by omega)),.r 43 (eI (b:=((a.length-1:Nat):Int)) (by omega)),.x (Tu (p:=a) (i:=a.length-1) (by omega)),.r 49 (eI (b:=((b.length-1:Nat):Int)) (by omega)),.x (Tu (p:=b) (i:=b.length-1) (by omega)),.k cq,.i K,.i K,.i K,.r 60 (eI (b:=(K:Int)) (by simp))] rfl (by simp [Uw,hql] <;> omega) ?_;rw [Qbf];refine Ug (S:=Nat) 3 (λL1 i=>(61,.v (.oi i))::L1) (λi=>[.row false 54 4 (frow (zp (q.set K c))),.blk 54 (fr (c:Rat)),.row false 54 4 (List.replicate i (fr 0)++List.replicate (K-i) zR)]) (λi=>K-i) (λi=>i<=K) 0 (Qh _) rfl rfl λi hi=>?_
 by_cases hlt:i<K
 ·refine Uc [.T,.k Qel,.i i] rfl ?_;rw [xF hlt];exact rd (i+1) (by omega) hlt rfl
 have hiK:i=K:=by omega
 rw [hiK,EV];clear hiK hlt hi;have hzl:=IE (List.replicate K 0);rw [Je] at hzl;have hpl:=IE (Fo b c);refine Ub [.F] rfl ?_;refine sb [(10,.v (.one (.orow 2 4 none))),(9,.v (.one (.ow 1 0))),(0,.v (.one (rp (zp a)))),(1,.v (.one (rp (zp b)))),(6,.v (.one (.orow 0 4 none)))] [.row false 54 4 (frow (zp (q.set K c))),.blk 54 (fr (c:Rat)),.row false 54 4 (frow (zp (List.replicate K 0)))] rfl rfl ?_;have p2:=Qmn (p:=a) (q:=QB K (Fo b c)) (Ux hab (by decide)) (Ux (oC (Fz hbb hcs)) (by decide)) (by omega) (by rw [bL]; omega);rw [<-Qpd] at p2;refine go tt [.k (Qat (c:=c) (Ux hbb (by decide)) (by omega) (by omega)),.s (sz:=4) (Qbe (zp (Fo b c))),.c [2] p2] rfl (by simp [Uw,hzl,hpl]; omega) ?_;exact rd (j,Mq a (QB K (Fo b c)),q.set K c) (by dsimp only; omega) ⟨hrj,hqs c⟩ rfl
def tC (l:Ul):Uq:=l.map λp=>[rp (zp p)]
theorem YL (l:Ul):(tC l).length=l.length:=by simp [tC]
theorem GV (l:Ul) (g:Uk):tC l++[[rp (zp g)]]=tC (l++[g]):=by simp [tC]
theorem YD {l:Ul} {i:Nat} (h:i<l.length):(tC l)[i]? = some [rp (zp (l.getD i []))]:=Gn (mV h)
theorem Qn7 (x:LV):∀ c∈[[x]],c.length=1:=λc hc=>by rw [Qk.1 hc]; rfl
theorem NN {a b q:Uk} (h:DOk a b q):∃ r,Uh 278 [.one (rp (zp a)),.one (rp (zp b))] [.one (rp (zp q)),.one (rp (zp r))]:=by
 obtain ⟨h1,h2,h3,h4,qf,r,n,h5,h6,h7,rfl⟩:=h;exact ⟨r,Qau h1 h2 h3 h4 h5 h7⟩
theorem pV {a:Uk} {mf:Nat} {f:Nat->Uk} (ta:U7 a) (ha:Bd 9000000 a) (la:a.length<=1000) (h2:2<=a.length) (hF:FRun a mf f):Uh 248 [.one (rp (zp a))] [.one (.row (tC (LI f mf)))]:=by
 obtain ⟨⟨n,ls,hrun,hlen,hq⟩,hms⟩:=hF;have hal:=IE a;refine Ft func248 rfl ?_;refine Ub [.F,.k (O9 ta ha la),.o 3 163 1,.lo] rfl ?_;refine sb [(3,.v (.one (.orow 0 1 none))),(4,.v (.one (.orow 1 1 none)))] [.row false 163 1 [],.row false 163 1 (tC [Rz a])] rfl rfl ?_;refine Ug (S:=Nat×Ul) 2 (λL1 s=>(4,.v (.one (.orow 1 1 none)))::L1) (λs=>[.row false 163 1 [],.row false 163 1 (tC s.2)]) (λs=>s.1) (λs=>LRun s.1 s.2 ls/\0<s.2.length/\s.2.length<=1001) (n,[Rz a]) ⟨hrun,by show 0<1; decide,by show 1<=1001; decide⟩ rfl rfl λ⟨k,l⟩ ⟨hs1,hs2,hs3⟩=>?_
 have hs1:LRun k l ls:=hs1;have hs2:0<l.length:=hs2;have hs3:l.length<=1001:=hs3;have hll:=YL l;have hlast:(tC l)[l.length-1]? = some [rp (zp (Mm l))]:=YD (by omega);have hpl:=IE (Mm l);dsimp only;rcases hs1.inv with ⟨hk,hlf,hl1⟩ | ⟨j,m2,g,hk,hg1,hg2,hg3,hg4,hg5,hg6,hg7,hlr⟩
 ·have hlm:l.length=mf+1:=by rw [hlf]; exact hlen
  rw [<-hlf] at hq;have hl2:=YL (l++[[1]]);have hl3:(l++[[1]]).length=mf+2:=by simp [hlm]
  refine go tt [.r 23 (eI (b:=((l.length-1:Nat):Int)) (by omega)),.i (l.length-1),.x hlast,.F,.k Qez,.s (sz:=1) (Qn7 _)] rfl (by simp [Uw,hll]; omega) ?_;rw [GV];refine Ug (S:=Nat) 2 (λL1 i=>(6,.v (.oi i))::(3,.v (.one (.orow 0 1 none)))::L1) (λi=>[.row false 163 1 (tC (LI f i)),.row false 163 1 (tC (l++[[1]]))]) (λi=>mf-i) (λi=>i<=mf) 0 (Qh _) rfl rfl λi hi=>?_
  have htl:=YL (LI f i);rw [rI] at htl;by_cases h:i<mf
  ·obtain ⟨x,y,z,hx,hy,hz,hf⟩:=hq i h;obtain ⟨rx,hdx⟩:=NN hx;obtain ⟨ry,hdy⟩:=NN hy;obtain ⟨rz,hdz⟩:=NN hz;refine go tt [.T,.i i,.x (YD (by omega)),.i (i+1),.x (YD (by omega)),.k hdx,.i (i+1),.x (YD (by omega)),.i (i+2),.x (YD (by omega)),.k hdy,.k (O9 hx.trim hx.bd hx.len),.k (O9 hy.trim hy.bd hy.len),.k hdz,.k (O9 hz.trim hz.bd hz.len),.s (sz:=1) (Qn7 _)] rfl (by simp [Uw,hl2,htl]; omega) ?_;exact rd (i+1) (by omega) h (by rw [GV,Qch,hf]; rfl)
  ·have e:i=mf:=by omega
   rw [e];exact Ud [.F] rfl rfl (by simp [Uw]; omega)
 ·subst hk;refine go tt [.r 23 (eI (b:=((l.length-1:Nat):Int)) (by omega)),.i (l.length-1),.x hlast,.T,.r 31 (eI (b:=((l.length-1:Nat):Int)) (by omega)),.i (l.length-1),.x hlast,.k (Qex (Ux hg4 (by decide)) (by omega)),.k (Qsu hg3 (Fq _ _) hg4 hg5 hg2 (Qc (Mz _) (by omega)) hg6),.s (sz:=1) (Qn7 _)] rfl (by simp [Uw,hll]; omega) ?_;exact rd (j,l++[g]) (by dsimp only; omega) ⟨hlr,by simp,by simp; omega⟩ (by rw [GV]; rfl)
theorem Qav {a:Uk} {mf:Nat} {f:Nat->Uk} (ta:U7 a) (ha:Bd 9000000 a) (la:a.length<=1000) (h2:2<=a.length) (hF:FRun a mf f) (hP:Qv1 mf f):Uh 207 [.one (rp (zp a))] [.one (rp (zp (Ol f mf)))]:=by
 have hms:=hF.small;have hal:=IE a;have htl:=YL (LI f mf);rw [rI] at htl;refine Ft func207 rfl ?_;refine Ub [.F,.k Qez,.k (pV ta ha la h2 hF)] rfl ?_;refine Ug (S:=Nat) 0 (λL1 i=>(15,.v (.oi i))::(3,.v (.one (rp (zp (Ol f i)))))::L1) (λ_=>[]) (λi=>mf-i) (λi=>i<=mf) 0 (Qh _) rfl rfl λi hi=>?_
 by_cases h:i<mf
 ·obtain ⟨g1,g2,g3,g4⟩:=hP i h;refine Uc [.T,.x (Gn (f:=λp=>[rp (zp p)]) (Qjy h)),.k (Qsv (p:=Ol f i) (q:=f i) (by omega) (by omega) g1 g3 (by decide))] rfl ?_;exact rd (i+1) (by omega) h rfl
 ·have e:i=mf:=by omega
  rw [e];exact Ud [.F] rfl
theorem Qbo {l:Ul} (g:Uk) (h:0<l.length):(tC l++[[rp (zp g)]])[l.length-1]? = some [rp (zp (Mm l))]:=by
 rw [Zm (by rw [YL]; omega)];exact YD (by omega)
theorem Qew {a sq:Uk} {c:Ul} (ta:U7 a) (ha:Bd 9000000 a) (la:a.length<=1000) (h2:2<=a.length) (hC:ChRun a sq c):Uh 172 [.one (rp (zp a))] [.one (.row (tC c))]:=by
 obtain ⟨⟨mf,f,hF,hP,rfl⟩,⟨n,hcr⟩,hbd,hle,hsm⟩:=hC;refine Ft func172 rfl ?_;refine Ub [.k (Qav ta ha la h2 hF hP),.lo,.k (Qex (p:=Ol f mf) (Ux hbd (by decide)) (by omega)),.k (kL (p:=Gp (Ol f mf)) (Fq _ _) (Ux (zW (t:=10) hbd (by omega)) (by decide)) (Qc (Mz _) (by omega)))] rfl ?_;refine sb [(5,.v (.one (rp (zp (Nt (Gp (Ol f mf))))))),(4,.v (.one (.orow 0 1 none)))] [.row false 163 1 (tC [Ol f mf])] rfl rfl ?_;refine Ug (S:=Nat×Ul×Uk) 1 (λL1 s=>(5,.v (.one (rp (zp s.2.2))))::(4,.v (.one (.orow 0 1 none)))::L1) (λs=>[.row false 163 1 (tC s.2.1)]) (λs=>s.1) (λs=>CRun s.1 s.2.1 s.2.2 c/\0<s.2.1.length/\s.2.1.length<=1001) (n,[Ol f mf],Nt (Gp (Ol f mf))) ⟨hcr,by show 0<1; decide,by show 1<=1001; decide⟩ rfl rfl λ⟨k,l,g⟩ ⟨hs1,hs2,hs3⟩=>?_
 have hs1:CRun k l g c:=hs1;have hs2:0<l.length:=hs2;have hs3:l.length<=1001:=hs3;have hll:=YL l;have hgl:=IE g;dsimp only;rcases hs1.inv with ⟨hk,hlf,hg0⟩ | ⟨j,m2,r,hk,hg1,hg2,hg3,hrr,hrt,hrb,hrl,hl0,hl1,hcj⟩
 ·subst hlf;exact Ud [.F] rfl
 ·subst hk;refine go tt [.T,.s (sz:=1) (Qn7 _),.r 23 (eI (b:=((l.length-1:Nat):Int)) (by simp; omega)),.i (l.length-1),.x (Qbo g hl0),.k (dC (a0:=Mm l) (b:=g) (res:=r) hg1 hg2 hg3 hrr),.k (kL (p:=r) hrt hrb hrl),.k (Qeu (p:=Nt r) (oN hrb) (Qc (mP r) (by omega)))] rfl (by simp [Uw,hll]; omega) ?_;exact rd (j,l++[g],Me (Nt r)) (by dsimp only; omega) ⟨hcj,by simp,by simp; omega⟩ (by rw [GV]; rfl)
theorem Qv7 {q:Rat} (h1:Fa q.num<=2000000) (h2:Fa (q.den:Int)<=2000000):Bd 9000000 [-q.num,(q.den:Int)]:=λz hz=>by
 simp only [Ql,Jl,or_false] at hz;rcases hz with rfl | rfl
 ·rw [Hq]; omega
 ·omega
abbrev aq (q:Rat) (c:Ul):Up:=[rp (zp [-q.num,(q.den:Int)]),.row (tC c)]++fr q++fr q
theorem kC {q:Rat} {c:Ul} (hq:Qs 2000000 q) (hC:Qc1 q c):Uh 132 [.agg (fr q)] [.agg (aq q c)]:=by
 obtain ⟨sq,hch⟩:=hC;have co:=VK (n:=1) (by decide);exact Ue func132 rfl [.k co,.k (Ew (n:=q.num)),.k (Qdw (z:=q.num)),.k co,.k (Ew (n:=(q.den:Int))),.k (Qew (a:=[-q.num,(q.den:Int)]) (iO q) (Qv7 hq.1 hq.2) (by show 2<=1000; decide) (Qm 2) hch)] rfl
end Orr
namespace Orr
theorem QY (z d:Int):(z:Rat) / (d:Rat)=Rat.divInt z d:=by
 by_cases h:d=0
 ·subst h; simp; grind
 ·rw [X3];have e1:(z:Rat)=Rat.divInt z 1:=by have:=Z4 (z:Rat); simpa using this.symm
  have e2:(d:Rat)⁻¹=Rat.divInt 1 d:=by
   have:(d:Rat)=Rat.divInt d 1:=by have:=Z4 (d:Rat); simpa using this.symm
   rw [this,Rat.inv_divInt]
  rw [e1,e2,Kz];simp
end Orr
namespace Orr
open Go Go.Proofs Tryz
set_option maxRecDepth 10000
structure Rs (k:Crv):Prop where
 n:ZR k
 c:Cs 100000 16 k



theorem Qns (l:Um) (n:Nat):(lm l).take (min l.length n)=lm (l.take n):=by
 rw [lm,lm,<-Jt];rcases Nat.le_total l.length n with h | h
 ·rw [Zz h,Q5,Qn h]
 ·rw [V3 h]
theorem Qsq {l:Um} {n:Nat} (hn:n<=1000):Uh 175 [.one (.row (lm l)),.oi n] [.one (.row (lm (l.take n)))]:=by
 rw [<-Qns];have hll:(lm l).length=l.length:=by simp [lm]
 exact Ue func175 rfl [.r 9 (eI (b:=((min l.length n:Nat):Int)) (by omega)),.i (min l.length n)] rfl rfl (by simp [Uw,hll]; omega)
def Ic (l:List RawInt):Uq:=l.map Ip
theorem Ou (l:List RawInt):(Ic l).length=l.length:=by simp [Ic]
abbrev rcw (z:RawPt):Up:=[.row (Ic z.x),.row (Ic z.y),.bool z.d.b,.row (lm z.d.l)]
theorem WC {z:RawInt} (hz:z.Ok) {most:Int} (hm:0<=most/\most<=999):Uh 137 [.agg (Ip z),.oi most] [.agg (He (Hr most z))]:=by
 obtain ⟨b,l⟩:=z;have hb:=KW hm.1 ⟨b,l⟩;have hs:Fa (Hr most ⟨b,l⟩)<=100000000:=Qc (Tz.2 (show (Hr most ⟨b,l⟩).natAbs<2^10 by omega)) (by decide);cases l with
 | nil=>exact Ue func137 rfl [.t rfl] rfl (by simp [Hr,D4]) trivial
 |
  cons u l =>
  have hu:=hz.u u (Qy ..);have co:=VK (n:=Hr most ⟨b,u::l⟩) (by omega);have ct:=Qsk hs;have hr:Int.tmod (u:Int) (most+1)=(u:Int) % (most+1):=J5 (by omega);have h1:=Vi (u:Int) (b:=most+1) (by omega);have h2:=Yw (u:Int) (b:=most+1) (by omega);cases b with
  |
   true =>
   rw [show Hr most ⟨true,u::l⟩=-((u:Int) % (most+1)) from rfl] at co ct ⊢;exact Ue func137 rfl [.f (decide_eq_false (by simp [lm]; try omega)),.x (l:=lm (u::l)) (i:=0) (xs:=[.int .u32 (u:Int)]) rfl,.r 18 (eI hr),.t rfl,.k co,.k ct] rfl rfl (by simp [Uw]; omega)
  |
   false =>
   rw [show Hr most ⟨false,u::l⟩=(u:Int) % (most+1) from rfl] at co ct ⊢;exact Ue func137 rfl [.f (decide_eq_false (by simp [lm]; try omega)),.x (l:=lm (u::l)) (i:=0) (xs:=[.int .u32 (u:Int)]) rfl,.r 18 (eI hr),.f rfl,.k co,.k ct] rfl rfl (by simp [Uw]; omega)
theorem oz2 {P:Program} [Mo P] {n:Nat} {Q:Exit->Sg->Ur->Prop} {L L':Sg} {B B':Ur} (d off T sz:Nat) {it:List It} (hs:H9 it=true) (h:nN (P:=P) d L B [.oc d off T sz]=some (L',B',[],[])) (k:AK P n Q it L' B'):AK P n Q it L B:=AK.sub (LZ h EqOk.nil) hs k
theorem pz {P:Program} [Mo P] {n:Nat} {Q:Exit->Sg->Ur->Prop} {L L':Sg} {B B':Ur} (i:Nat) {it:List It} (hs:H9 it=true) (h:Qb4 [i] L B=some (L',B')) (k:AK P n Q it L' B'):AK P n Q it L B:=AK.sub (FW h) hs k
def Ag (l:Uk):Uq:=l.map He
theorem OF (l:Uk):(Ag l).length=l.length:=by simp [Ag]
theorem HA {most:Int} {l:List RawInt} {i:Nat} {a:RawInt} (hi:i<3) (h:l[i]? = some a):Ag (Gf most (l.take (i+1)))=Ag (Gf most (l.take i))++[He (Hr most a)]:=by
 rw [jZ hi h]; simp [Ag]
theorem xO {most:Int} {l:List RawInt} {i:Nat} (hi:i<=3) (h:i<=l.length):(Ag (Gf most (l.take i))).length=i:=by
 rw [OF]; unfold Gf; rw [List.length_map,List.length_take,List.length_take]; omega
def rwq (z:RawPt):Up:=rcw z++[.int .i64 z.id]
def rR (l:List RawPt):Uq:=l.map rwq
end Orr
namespace Orr
open Go Go.Proofs Tryz Orq
set_option maxRecDepth 10000
theorem Ql6 {l:Um} (hl:l.length<=1000000000):Uh 155 [.one (.row (lm l)),.one (.row (lm l))] [.one (.bool true)]:=by
 have hll:(lm l).length=l.length:=by simp [lm]
 refine Ft func155 rfl ?_;refine Ub [.f (decide_eq_false (λh=>h rfl))] rfl ?_;refine Ug (S:=Nat) 0 (λL1 i=>(5,.v (.oi i))::L1) (λ_=>[]) (λi=>l.length-i) (λi=>i<=l.length) 0 (Qh _) rfl rfl λi hi=>?_
 by_cases h:i<l.length
 ·have hx:(lm l)[i]? = some [.int .u32 ((l[i]:Nat):Int)]:=Gn (Qe h);refine Uc [.T,.x hx,.x hx,.f (decide_eq_false (λh=>h rfl))] rfl ?_;exact rd (i+1) (by omega) h rfl
 ·exact Ud [.F] rfl
theorem Ql4 {z:Int} (hz:Fa z<=4294967295):Uh 114 [.agg (He z),.agg (He z)] [.one (.bool true)] :=
 Ue func114 rfl [.g 10 true (decide_eq_true rfl),.k (Ql6 (l:=Fv z.natAbs) (by have:=Rp (x:=z.natAbs) (k:=4294967295) hz; omega))] rfl
theorem Ql5 {p:Uk} (hp:Bd 4294967295 p) (hl:p.length<=1000000):Uh 74 [pr p,pr p] [.one (.bool true)]:=by
 have hpl:(p.map He).length=p.length:=by simp
 show Uh 74 [.one (.row (p.map He)),.one (.row (p.map He))] _;refine Ft func74 rfl ?_;refine Ub [.f (decide_eq_false (λh=>h rfl))] rfl ?_;refine Ug (S:=Nat) 0 (λL1 i=>(13,.v (.oi i))::L1) (λ_=>[]) (λi=>p.length-i) (λi=>i<=p.length) 0 (Qh _) rfl rfl λi hi=>?_
 by_cases h:i<p.length
 ·have hx:=Pa (H7 h);refine Uc [.T,.x hx,.x hx,.k (Ql4 (Fj hp i)),.f rfl] rfl ?_;exact rd (i+1) (by omega) h rfl
 ·exact Ud [.F] rfl
theorem Qd8 {l:List Ct} (hl:∀ c∈l,Cp c.p) (hn:l.length≤1000000):Uh 31 [.one (.row (U3 l)),.one (.row (U3 l))] [.one (.bool true)]:=by
 have hcl:=S8 l;refine Ft func31 rfl ?_;refine Ub [.f (decide_eq_false (λh=>h rfl))] rfl ?_;refine Ug (S:=Nat) 0 (λL1 i=>(13,.v (.oi i))::L1) (λ_=>[]) (λi=>l.length-i) (λi=>i<=l.length) 0 (Qh _) rfl rfl λi hi=>?_
 by_cases h:i<l.length
 ·obtain ⟨c,hc⟩:=gxE (l:=l) (i:=i) h;have hx:=ZN hc;have hp:=hl c (Qa hc);refine Uc [.T,.x hx,.x hx,.g 27 false (by simp),.x hx,.x hx,.g 40 false (by simp),.x hx,.x hx,.k (Ql5 (Ux hp.b (by decide)) (by have:=hp.l; omega)),.f rfl] rfl ?_;exact rd (i+1) (by omega) h rfl
 ·exact Ud [.F] rfl
end Orr
namespace Orr
open Go Go.Proofs Tryz
set_option maxRecDepth 10000
abbrev run1:Crv:=⟨[0,1],[],1⟩
theorem DX:ZR run1:=⟨rfl,rfl,by decide,by decide⟩
theorem cs_run1:Cs 3 3 run1:=by
 refine ⟨λz hz=>?_,λz hz=>(by cases hz),by decide,by decide,by decide⟩;rcases Ql.1 hz with rfl | hz
 ·decide
 ·rw [Qk.1 hz]; decide
theorem Cs.up {s n s' n':Nat} {k:Crv} (h:Cs s n k) (hs:s<=s') (hn:n<=n'):Cs s' n' k:=⟨Ux h.x hs,Ux h.y hs,Qc h.d hs,Qc h.lx hn,Qc h.ly hn⟩
end Orr
namespace Orr
open Go Go.Proofs Tryz Orq
set_option maxRecDepth 10000
abbrev SS:List Pt:=[⟨run1,1⟩,⟨If 1 0,2⟩]
theorem Qvo:(Tn (tq 0) SS).map (·.id)=[1,2]:=by decide +kernel
theorem Qo5:Sc run1:=⟨DX,cs_run1.up (by decide) (by decide)⟩
theorem Qx6:∀ p∈SS,Sc p.c:=λp hp=>by
 rcases Ql.1 hp with rfl | hp
 ·exact Qo5
 ·rw [Qk.1 hp]; exact LR (by decide) (by decide)


theorem kU {c:Cr} {l l':List Pt} {r1:Uq×Uq} {ws:List Wt} (hc:CrOk c) (hl:∀ p∈l',Sc p.c) (hn:l'.length≤1000) (h:Sj c.l c.now (Fg (AY l' c.now))=some ws) :
 U0 prog 392 [.one (.ow 0 0),.agg [pts l'],.oi 0] [.blk 199 (Tl c (Uv l) r1)] [.oi 0] [.blk 199 (Tl ⟨c.now,ws,c.ev⟩ (Uv l') (brT l' c.now))]:=by
 have hB:=sU hl hn;have cn:=pZ (T:=199) (c:=c) (r0:=Uv l') (r1:=r1) hc.n;have cb:=AP (c:=c) (r1:=r1) hl hn hc.n;have cg:=Qal (T:=199) (r0:=Uv l') (r1:=brT l' c.now) hc hc.n (Iw hc.n) (Yb 0) (hB.p _ hc.n) (hB.n _ hc.n) h;refine Ft func392 rfl ?_;exact Uf [] [0] [.f rfl,.c [0] cn,.c [0] cb,.c [0] cg] rfl
theorem Qmd {lx ly:Uq} {px py:Uk} {x y:LV} {d id:Int} {c:Cr} {l:List Pt} {r1:Uq×Uq} {ws:List Wt} (hx:IsInts lx px) (hy:IsInts ly py) (hd:Gv x y d) (hk:Cs 4294967294 1073741824 (Crv.mk px py d)) (hll:l.length<=900)
 (he:KB l ⟨Crv.norm (Crv.mk px py d),id⟩=0) (hc:CrOk c) (hl:∀ p∈put l ⟨Crv.norm (Crv.mk px py d),id⟩,Sc p.c) (hn:(put l ⟨Crv.norm (Crv.mk px py d),id⟩).length≤1000) (h:Sj c.l c.now (Fg (AY (put l ⟨Crv.norm (Crv.mk px py d),id⟩) c.now))=some ws) :
 U0 prog 390 [.one (.ow 0 0),.agg [.row lx,.row ly,x,y,.int .i64 id]] [.blk 199 (Tl c (Uv l) r1)] [.oi 0] [.blk 199 (Tl ⟨c.now,ws,c.ev⟩ (Uv (put l ⟨Crv.norm (Crv.mk px py d),id⟩)) (brT (put l ⟨Crv.norm (Crv.mk px py d),id⟩) c.now))]:=by
 have cp:=kK (l:=l) (id:=id) hx hy hd hk (by omega);rw [if_pos he,he] at cp;have cw:=kU (l:=l) (r1:=r1) hc hl hn h;refine Ft func390 rfl ?_;obtain ⟨b,l',rfl,rfl,_⟩:=hd;exact Uf [] [0] [.k cp,.c [0] cw] rfl
theorem Qed {id:Int} {c:Cr} {l l':List Pt} {r1:Uq×Uq} {ws:List Wt} (hll:l.length<=1000) (h:has l id=true) (hc:CrOk c)
 (hl':l'=l.take (Tr l id)++l.drop (Tr l id+1)) (hs:∀ p∈l',Sc p.c) (hw:Sj c.l c.now (Fg (AY l' c.now))=some ws) :
 U0 prog 389 [.one (.ow 0 0),.oi id] [.blk 199 (Tl c (Uv l) r1)] [.oi 0] [.blk 199 (Tl ⟨c.now,ws,c.ev⟩ (Uv l') (brT l' c.now))]:=by
 have ct1:=WM (l:=l) (id:=id) (by omega) h;rw [<-hl'] at ct1;have cw:=kU (c:=c) (l:=l) (l':=l') (r1:=r1) hc hs (by rw [hl',Qu,Qq,Q8]; omega) hw;refine Ft func389 rfl ?_;exact Uf [] [0] [.k ct1,.c [0] cw] rfl
end Orr
namespace Orq
open Orr Go
def p3j (W:List Pt) (x:Pt) (i j:Nat):List P3:=Lc i W++(Hw j (W.drop (i+1))).map (λm=>(x,m))
def OC (W:List Pt) (x y:Pt) (i j k:Nat):List P3:=Lc i W++(Hw j (W.drop (i+1))++(((W.drop (i+1)).drop (j+1)).take k).map (λz=>(y,z))).map (λm=>(x,m))
theorem DV (W:List Pt) (x:Pt) (i:Nat):p3j W x i 0=Lc i W:=by simp [p3j,Hw]
theorem DW (W:List Pt) (x y:Pt) (i j:Nat):OC W x y i j 0=p3j W x i j:=by simp [OC,p3j]
theorem DK {W:List Pt} {x y z:Pt} {i j k:Nat} (h:((W.drop (i+1)).drop (j+1))[k]? = some z):OC W x y i j (k+1)=OC W x y i j k++[(x,y,z)]:=by
 unfold OC;rw [Zw,h]; simp
theorem jM {W:List Pt} {x y:Pt} {i j k:Nat} (hy:(W.drop (i+1))[j]? = some y) (hk:((W.drop (i+1)).drop (j+1)).length<=k):OC W x y i j k=p3j W x i (j+1):=by
 unfold OC p3j;rw [Qn hk,D6 _ j y hy]
theorem jP {W:List Pt} {x:Pt} {i j:Nat} (hx:W[i]? = some x) (hj:j=(W.drop (i+1)).length):p3j W x i j=Lc (i+1) W:=by
 unfold p3j;rw [hj,YS W i x hx]; rfl
theorem iI {W:List Pt} {i:Nat} (h:i=W.length):Lc i W=Rj W:=by rw [h]; rfl
def p4j (W:List Pt) (x:Pt) (i j:Nat):List P4:=Ee i W++(Lc j (W.drop (i+1))).map (λm=>(x,m))
def p4k (W:List Pt) (x y:Pt) (i j k:Nat):List P4:=Ee i W++(p3j (W.drop (i+1)) y j k).map (λm=>(x,m))
def p4m (W:List Pt) (x y z:Pt) (i j k m:Nat):List P4:=Ee i W++(OC (W.drop (i+1)) y z j k m).map (λm=>(x,m))
theorem Qh2 (W:List Pt) (x:Pt) (i:Nat):p4j W x i 0=Ee i W:=by simp [p4j,Lc]
theorem Qh3 (W:List Pt) (x y:Pt) (i j:Nat):p4k W x y i j 0=p4j W x i j:=by unfold p4k p4j; rw [DV]
theorem Qh5 (W:List Pt) (x y z:Pt) (i j k:Nat):p4m W x y z i j k 0=p4k W x y i j k:=by unfold p4m p4k; rw [DW]
theorem Qh4 {W:List Pt} {x y z u:Pt} {i j k m:Nat} (h:(((W.drop (i+1)).drop (j+1)).drop (k+1))[m]? = some u):p4m W x y z i j k (m+1)=p4m W x y z i j k m++[(x,y,z,u)]:=by
 unfold p4m;rw [DK h]; simp
theorem Qob {W:List Pt} {x y z:Pt} {i j k m:Nat} (hz:((W.drop (i+1)).drop (j+1))[k]? = some z) (hm:(((W.drop (i+1)).drop (j+1)).drop (k+1)).length<=m):p4m W x y z i j k m=p4k W x y i j (k+1):=by
 unfold p4m p4k;rw [jM hz hm]
theorem Qoa {W:List Pt} {x y:Pt} {i j k:Nat} (hy:(W.drop (i+1))[j]? = some y) (hk:k=((W.drop (i+1)).drop (j+1)).length):p4k W x y i j k=p4j W x i (j+1):=by
 unfold p4k p4j;rw [jP hy hk]
theorem Qn9 {W:List Pt} {x:Pt} {i j:Nat} (hx:W[i]? = some x) (hj:j=(W.drop (i+1)).length):p4j W x i j=Ee (i+1) W:=by
 unfold p4j;rw [hj,RF W i x hx]; rfl
theorem Qos {W:List Pt} {i:Nat} (h:i=W.length):Ee i W=Ot W:=by rw [h]; rfl
theorem KR:∀ (k:Nat) (l:List Pt),∃ r,Gj l=Hw k l++r
 | 0,l=>⟨Gj l,rfl⟩
 | k+1,[]=>⟨[],rfl⟩
 |
  k+1,x::l=>by
  obtain ⟨r,h⟩:=KR k l;exact ⟨r,by show l.map _++Hw l.length l=l.map _++Hw k l++r; rw [show Hw l.length l=Gj l from rfl,h,Zc]⟩
theorem EX:∀ (k:Nat) (l:List Pt),∃ r,Rj l=Lc k l++r
 | 0,l=>⟨Rj l,rfl⟩
 | k+1,[]=>⟨[],rfl⟩
 |
  k+1,x::l=>by
  obtain ⟨r,h⟩:=EX k l;exact ⟨r,by show (Gj l).map _++Lc l.length l=(Gj l).map _++Lc k l++r; rw [show Lc l.length l=Rj l from rfl,h,Zc]⟩
theorem rX:∀ (k:Nat) (l:List Pt),∃ r,Ot l=Ee k l++r
 | 0,l=>⟨Ot l,rfl⟩
 | k+1,[]=>⟨[],rfl⟩
 |
  k+1,x::l=>by
  obtain ⟨r,h⟩:=rX k l;exact ⟨r,by show (Rj l).map _++Ee l.length l=(Rj l).map _++Ee k l++r; rw [show Ee l.length l=Ot l from rfl,h,Zc]⟩
theorem aB {W:List Pt} (h6:W.length<=6) {x y:Pt} {i j k:Nat} (hx:W[i]? = some x) (hy:(W.drop (i+1))[j]? = some y):(OC W x y i j k).length<=20:=by
 have h0:=(YG h6).1;obtain ⟨r,hr⟩:=EX (i+1) W;rw [YS W i x hx] at hr;obtain ⟨r2,hr2⟩:=KR (j+1) (W.drop (i+1));rw [D6 _ j y hy] at hr2;have e1:=congrArg List.length hr;have e2:=congrArg List.length hr2;have e3:(((W.drop (i+1)).drop (j+1)).take k).length<=((W.drop (i+1)).drop (j+1)).length:=by rw [Qq]; exact Nat.min_le_right _ _
 unfold OC;simp only [Qu,Q7] at e1 e2 ⊢;omega
theorem Qoc {W:List Pt} (h6:W.length<=6) {x y z:Pt} {i j k m:Nat} (hx:W[i]? = some x) (hy:(W.drop (i+1))[j]? = some y) (hz:((W.drop (i+1)).drop (j+1))[k]? = some z):(p4m W x y z i j k m).length<=15:=by
 have h0:=(YG h6).2;obtain ⟨r,hr⟩:=rX (i+1) W;rw [RF W i x hx] at hr;obtain ⟨r1,hr1⟩:=EX (j+1) (W.drop (i+1));rw [YS _ j y hy] at hr1;obtain ⟨r2,hr2⟩:=KR (k+1) ((W.drop (i+1)).drop (j+1));rw [D6 _ k z hz] at hr2;have e1:=congrArg List.length hr;have e2:=congrArg List.length hr1;have e4:=congrArg List.length hr2;have e3:((((W.drop (i+1)).drop (j+1)).drop (k+1)).take m).length<=(((W.drop (i+1)).drop (j+1)).drop (k+1)).length:=by rw [Qq]; exact Nat.min_le_right _ _
 unfold p4m OC;simp only [Qu,Q7] at e1 e2 e4 ⊢;omega
theorem Qbl {sg:Uk->Int} (hg:∀ p,-1<=Hd sg p/\Hd sg p<=1) (ps:List P3):vG (Aq (ZF sg ps)):=by
 have key:∀ (ps:List P3) (M:Nj),vG M->vG ((ZF sg ps).foldl (λM e=>Ln M e.1 (.int .i64 e.2)) M):=by
  intro ps
  induction ps with
  | nil=>intro M h; exact h
  | cons m ps ih=>intro M h; exact ih _ (Qg4 h (hg _))
 exact key ps [] Qg3
theorem sS (sg:Uk->Int) (T:Nj) (ps:List P4):VX (I5 T (YO sg ps)):=by
 have key:∀ (ps:List P4) (F:Nj),VX F->VX ((YO sg ps).foldl (λF e=>IG T e.2 e.1 F) F):=by
  intro ps
  induction ps with
  | nil=>intro M h; exact h
  | cons m ps ih=>intro M h; exact ih _ (sT h)
 exact key ps [] oL
theorem qX (p:Uk) (q:Rat):-1<=Hz p q/\Hz p q<=1:=by
 rw [M8]; unfold U9
 split
 ·exact ⟨by decide,by decide⟩
 ·split <;> exact ⟨by decide,by decide⟩
theorem Qji {p:Uk} {a:Tm} {s:Int} (h:FM p a=some s):-1<=s/\s<=1:=by
 unfold FM at h
 split at h
 ·injection h with h; subst h; exact ⟨by decide,by decide⟩
 ·split at h
  ·injection h with h; subst h; exact qX _ _
  ·obtain ⟨g,_,h⟩:=Qd.1 h
   split at h
   ·injection h with h; subst h; exact ⟨by decide,by decide⟩
   ·obtain ⟨c,_,h⟩:=Qd.1 h;obtain ⟨x,_,h⟩:=Qd.1 h;injection h with h; subst h; exact qX _ _
theorem Qgq (a:Tm) (p:Uk):-1<=Hd (Fl a) p/\Hd (Fl a) p<=1:=by
 have hs:∀ p,-1<=Fl a p/\Fl a p<=1:=λp=>by
  unfold Fl;cases h:FM p a with
  | none=>exact ⟨by decide,by decide⟩
  | some s=>exact Qji h
 have key:∀ (k:Nat) (p:Uk),-1<=Tj (Fl a) k p/\Tj (Fl a) k p<=1:=by
  intro k
  induction k with
  | zero=>intro p; exact ⟨by simp [Tj],by simp [Tj]⟩
  |
   succ k ih =>
   intro p;simp only [Tj]
   split
   ·exact ⟨by decide,by decide⟩
   ·split
    ·exact ih _
    ·exact hs p
 exact key _ p
end Orq
namespace Orr
open Go Go.Proofs Tryz Orq
set_option maxRecDepth 10000
theorem dV {a b c:Pt} {t:Tm} (ha:Sc a.c) (hb:Sc b.c) (hc:Sc c.c) (ht:Va t):Uh 163 [.oi 3,.agg (ta t),.one (.row [U6 a,U6 b,U6 c])] [.agg (C6 (Dy (Fl t) a b c)),.oi 0]:=by
 have hp:=(JC ha hb hc).dp;have e:C6 (Dy (Fl t) a b c)=[.int .i64 3,.int .i64 a.id,.int .i64 b.id,.int .i64 c.id,.int .i64 0,pl (Ha a.c b.c c.c),.int .i64 (Hd (Fl t) (Ha a.c b.c c.c))]:=by rw [Dy]
 rw [e];have cg:=TU hp ht;have cf:=kJ ha hb hc;generalize Ha a.c b.c c.c=F at *;refine Ft func163 rfl ?_;refine Ub [.k Qaq,.f rfl] rfl ?_;refine Ug (S:=Nat) 3 (λL1 i=>(22,.v (.oi i))::L1) (λi=>[.blk 189 (ta t),.blk 136 zCt,.blk 136 [.int .i64 3,.int .i64 (if 1<=i then a.id else 0),.int .i64 (if 2<=i then b.id else 0),.int .i64 (if 3<=i then c.id else 0),.int .i64 0,.nils,.int .i64 0]]) (λi=>3-i) (λi=>i<=3) 0 (Qh _) rfl rfl λi hi=>?_
 rcases (show i=0\/i=1\/i=2\/i=3 by omega) with rfl | rfl | rfl | rfl
 ·refine Ub [.t rfl,.x (i:=0) (xs:=U6 a) rfl,.i 0] rfl ?_ (by simp [Uw]);exact rd 1 (by omega) (by omega) rfl
 ·refine Ub [.t rfl,.x (i:=1) (xs:=U6 b) rfl,.i 1] rfl ?_ (by simp [Uw]);exact rd 2 (by omega) (by omega) rfl
 ·refine Ub [.t rfl,.x (i:=2) (xs:=U6 c) rfl,.i 2] rfl ?_ (by simp [Uw]);exact rd 3 (by omega) (by omega) rfl
 ·exact Ud [.f rfl,.f rfl,.f rfl,.t rfl,.x (i:=0) (xs:=U6 a) rfl,.x (i:=1) (xs:=U6 b) rfl,.x (i:=2) (xs:=U6 c) rfl,.k cf,.k cg] rfl
theorem Az {α:Type} (s:α->α->α->Bool):∀ (l acc:List α) (c:α),Pn s acc (l++[c])=c::D9 s c (Pn s acc l)
 | [],_,_=>rfl
 | _::l,_,c=>Az s l _ c
theorem dP {R:List Pt} {t:Tm} (hR:∀ p∈R,Sc p.c) (hn:R.length≤1000000) (ht:Va t):Uh 200 [.agg (ta t),.one (pts R)] [.one (pts (S7 (Fl t) R))]:=by
 have hcl:=Gu R;show Uh 200 [.agg (ta t),.one (.row (Uv R))] [.one (.row (Uv (Pn (US (Fl t)) [] R).reverse))];obtain ⟨s,hs⟩:=nmE (US (Fl t));have hs':∀ a b c,s a b c=decide (0<Hd (Fl t) (Ha a.c b.c c.c)):=λa b c=>by rw [hs]; rfl
 rw [<-hs];refine Ft func200 rfl ?_;refine Ub [.o 5 38 5] rfl ?_;refine Ug (S:=Nat) 2 (λL1 i=>(10,.v (.oi i))::(5,.v (.one (.orow 1 5 none)))::L1) (λi=>[.blk 189 (ta t),.row false 38 5 (Uv (Pn s [] (R.take i)).reverse)]) (λi=>R.length-i) (λi=>i<=R.length) 0 (Qh _) rfl rfl λi hi=>?_
 by_cases hlt:i<R.length
 ·obtain ⟨c,hc⟩:=gxE (l:=R) (i:=i) hlt;have hcp:=hR c (Qa hc);have hst:Pn s [] (R.take (i+1))=c::D9 s c (Pn s [] (R.take i)):=by rw [Zw,hc]; exact Az s _ _ c
  obtain ⟨O,hO⟩:=nmE (Pn s [] (R.take i));have hOl:O.length<=1000000:=by
   have:=VE s (R.take i) [];rw [<-hO,Qq] at this; simp at this; omega
  have hOm:∀ x∈O,Sc x.c:=λx hx=>by
   rw [hO] at hx;rcases VA hx with h | h
   ·cases h
   ·exact hR x (Qo h)
  rw [<-hO] at hst ⊢;have hrl:(Uv O.reverse).length=O.length:=by rw [Gu,Xo]
  have hm:∀ y∈[U6 c],y.length=5:=λy hy=>by rw [Qk.1 hy]; rfl
  have hget:∀ {pre r:List Pt} {x:Pt},O=pre++x::r->∀ j,j=r.length->(Uv O.reverse)[j]? = some (U6 x):=λ{pre r x} e j hj=>by
   refine Si ?_;rw [e,hj]; simp
  have hfin:∀ {pre st:List Pt},O=pre++st->Uv (c::st).reverse=(Uv O.reverse).take st.length++[U6 c]:=λ{pre st} e=>by
   rw [e]; simp [Uv,Jt,List.take_append]
  have hfull:Uv (c::O).reverse=Uv O.reverse++[U6 c]:=by simp [Uv]
  refine Ub [.t (by simp [hcl]; omega),.x (Si hc)] rfl ?_;refine Ug (S:=Bool×List Pt) 3 (λL1 s=>(5,.v (.one (.orow 1 5 (cond s.1 (some (0,s.2.length)) none))))::L1) (λ_=>[.blk 189 (ta t),.row false 38 5 (Uv O.reverse),.blk 38 (U6 c)]) (λs=>s.2.length) (λst=>(∃ pre,O=pre++st.2/\(st.1=false->pre=[]))/\D9 s c st.2=D9 s c O) (false,O) ⟨⟨[],rfl,λ_=>rfl⟩,rfl⟩ rfl rfl λ⟨b,st⟩ ⟨⟨pre,h1,h2⟩,h3⟩=>?_
  have h1:O=pre++st:=h1;have h3:D9 s c st=D9 s c O:=h3;have hl1:O.length=pre.length+st.length:=by rw [h1,Qu]
  have fin:∀ {st:List Pt},O=pre++st->D9 s c st=D9 s c O->D9 s c st=st->Uv (Pn s [] (R.take (i+1))).reverse=(Uv O.reverse).take st.length++[U6 c]/\(pre=[]->Uv (Pn s [] (R.take (i+1))).reverse=Uv O.reverse++[U6 c]):=λ{st} e1 e2 e3=>by
   rw [hst,<-e2,e3];refine ⟨hfin e1,λhp=>?_⟩;rw [hp] at e1;rw [<-hfull,e1]; rfl
  rcases st with _ | ⟨z,_ | ⟨y,r⟩⟩
  ·obtain ⟨f1,f2⟩:=fin h1 h3 rfl;cases b with
   |
    false =>
    have hp:=h2 rfl;have f2:=f2 hp;rw [hp] at hl1;have hl2:(Uv O.reverse).length<=1:=by rw [hrl,hl1]; simp
    refine Uc [.g 17 false Ui,.f rfl,.s (sz:=5) hm] rfl ?_;exact rd (i+1) (by omega) hlt (by rw [f2]; rfl)
   |
    true =>
    refine Uc [.g 17 false (decide_eq_false (by simp)),.f rfl,.s (sz:=5) hm] rfl ?_;exact rd (i+1) (by omega) hlt (by rw [f1]; rfl)
  ·obtain ⟨f1,f2⟩:=fin h1 h3 rfl;cases b with
   |
    false =>
    have hp:=h2 rfl;have f2:=f2 hp;rw [hp] at hl1;have hl2:(Uv O.reverse).length<=1:=by rw [hrl,hl1]; simp
    refine Uc [.g 17 false Ui,.f rfl,.s (sz:=5) hm] rfl ?_;exact rd (i+1) (by omega) hlt (by rw [f2]; rfl)
   |
    true =>
    refine Uc [.g 17 false (decide_eq_false (by simp)),.f rfl,.s (sz:=5) hm] rfl ?_;exact rd (i+1) (by omega) hlt (by rw [f1]; rfl)
  ·have sz:=hOm z (by rw [h1]; simp);have sy:=hOm y (by rw [h1]; simp);have co:=kJ sy sz hcp;have cg:=TU (JC sy sz hcp).dp ht;have gz:=hget h1 (r.length+1) rfl;have gy:=hget (pre:=pre++[z]) (r:=r) (x:=y) (by rw [h1]; simp) r.length rfl;have hl1:O.length=pre.length+(r.length+2):=hl1;have hls:=hs' y z c;by_cases hq:s y z c=true
   ·have hg:¬Hd (Fl t) (Ha y.c z.c c.c)<=0:=by rw [hls] at hq; have:=of_decide_eq_true hq; omega
    obtain ⟨f1,f2⟩:=fin h1 h3 (by simp only [D9]; rw [if_pos hq]);cases b with
    |
     false =>
     have hp:=h2 rfl;have f2:=f2 hp;rw [hp] at hl1;have hl2:(Uv O.reverse).length=r.length+2:=by rw [hrl,hl1]; simp
     refine Uc [.g 17 true Uj,.r 21 (eI (b:=(r.length:Int)) (by omega)),.i r.length,.x gy,.r 28 (eI (b:=((r.length+1:Nat):Int)) (by omega)),.i (r.length+1),.x gz,.k co,.k cg,.f (decide_eq_false hg),.s (sz:=5) hm] rfl ?_;exact rd (i+1) (by omega) hlt (by rw [f2]; rfl)
    |
     true =>
     refine Uc [.g 17 true (decide_eq_true (by simp; omega)),.r 21 (eI (b:=(r.length:Int)) (by simp; omega)),.i r.length,.x (l:=Uv O.reverse) (i:=0+r.length) (xs:=U6 y) (by rw [Z0]; exact gy),.r 28 (eI (b:=((r.length+1:Nat):Int)) (by simp)),.i (r.length+1),.x (l:=Uv O.reverse) (i:=0+(r.length+1)) (xs:=U6 z) (by rw [Z0]; exact gz),.k co,.k cg,.f (decide_eq_false hg),.s (sz:=5) hm] rfl ?_;exact rd (i+1) (by omega) hlt (by rw [f1]; rfl)
   ·have hg:Hd (Fl t) (Ha y.c z.c c.c)<=0:=by
     rw [hls] at hq; have:=of_decide_eq_false (Wu.2 hq); omega
    have hpop:D9 s c (y::r)=D9 s c O:=by rw [<-h3]; simp only [D9]; rw [if_neg hq]
    have hin:(∃ pre',O=pre'++(y::r)/\((true:Bool)=false->pre'=[]))/\D9 s c (y::r)=D9 s c O:=⟨⟨pre++[z],by rw [h1]; simp,λh=>by cases h⟩,hpop⟩;cases b with
    |
     false =>
     have hp:=h2 rfl;rw [hp] at hl1;have hl2:(Uv O.reverse).length=r.length+2:=by rw [hrl,hl1]; simp
     refine Uc [.g 17 true Uj,.r 21 (eI (b:=(r.length:Int)) (by omega)),.i r.length,.x gy,.r 28 (eI (b:=((r.length+1:Nat):Int)) (by omega)),.i (r.length+1),.x gz,.k co,.k cg,.t (decide_eq_true hg),.r 42 (eI (b:=((r.length+1:Nat):Int)) (by omega)),.i (r.length+1)] rfl ?_;exact rd (true,y::r) (by simp) hin rfl
    |
     true =>
     refine Uc [.g 17 true (decide_eq_true (by simp; omega)),.r 21 (eI (b:=(r.length:Int)) (by simp; omega)),.i r.length,.x (l:=Uv O.reverse) (i:=0+r.length) (xs:=U6 y) (by rw [Z0]; exact gy),.r 28 (eI (b:=((r.length+1:Nat):Int)) (by simp)),.i (r.length+1),.x (l:=Uv O.reverse) (i:=0+(r.length+1)) (xs:=U6 z) (by rw [Z0]; exact gz),.k co,.k cg,.t (decide_eq_true hg),.r 42 (eI (b:=((r.length+1:Nat):Int)) (by simp)),.i (r.length+1)] rfl ?_;exact rd (true,y::r) (by simp) hin rfl
 ·obtain rfl:i=R.length:=by omega
  rw [Q5];exact Ud [.f (by simp [hcl])] rfl
theorem pG {sg:Uk->Int} {R:List Pt} (h:R≠[]):0<(S7 sg R).length:=by
 unfold S7;rw [Xo];obtain ⟨x,hx⟩:∃ x,R.getLast? = some x:=⟨_,Yn h⟩;obtain ⟨l,hl⟩:=Y6.1 hx;rw [hl,Az]; simp
theorem gV {α:Type} (s:α->α->α->Bool) (c:α):∀ {st:List α},st≠[]->0<(D9 s c st).length
 | [],h=>absurd rfl h
 | [_],_=>by simp [D9]
 |
  b::a::r,_=>by
  simp only [D9]
  split
  ·simp
  ·exact gV s c (by simp)
theorem NE {sg:Uk->Int} {R:List Pt} (h:2<=R.length):2<=(S7 sg R).length:=by
 unfold S7;rw [Xo];obtain ⟨x,hx⟩:∃ x,R.getLast? = some x:=⟨_,Yn (by intro e; rw [e] at h; simp at h)⟩;obtain ⟨l,hl⟩:=Y6.1 hx;have hl0:l≠[]:=by intro e; rw [hl,e] at h; simp at h
 have:=pG (sg:=sg) hl0;unfold S7 at this;rw [Xo] at this;have:=gV (US sg) x (st:=Pn (US sg) [] l) (by intro e; rw [e] at this; simp at this);rw [hl,Az,Q6]; omega
theorem dD {R:List Pt} {t:Tm} (hR:∀ p∈R,Sc p.c) (hn:R.length≤1000000) (ht:Va t):Uh 164 [.agg (ta t),.one (pts R)] [.one (pts (Lo (Fl t) R))]:=by
 have hcl:=Gu R;have hrl:=Gu R.reverse;rw [Xo] at hrl;show Uh 164 [.agg (ta t),.one (.row (Uv R))] [.one (.row (Uv (Lo (Fl t) R)))];refine Ft func164 rfl ?_;by_cases h3:R.length<3
 ·have e:Lo (Fl t) R=R:=if_pos h3;rw [e];exact Ud [.T] rfl
 have c1:=dP hR hn ht;have c2:=dP (R:=R.reverse) (λp hp=>hR p (Jk.1 hp)) (by rw [Xo]; exact hn) ht;have p1:=NE (sg:=Fl t) (R:=R) (by omega);have p2:=NE (sg:=Fl t) (R:=R.reverse) (by rw [Xo]; omega);have k1:=QZ (Fl t) R;have k2:=QZ (Fl t) R.reverse;rw [Xo] at k2;refine go tt [.F,.o 5 38 5,.r 15 (eI (b:=(R.length:Int)-1-((0:Nat):Int)) (by omega))] rfl (by simp [Uw,hcl]; omega) ?_;refine Ug (S:=Nat) 2 (λL1 j=>(6,.v (.oi ((R.length:Int)-1-(j:Int))))::(5,.v (.one (.orow 1 5 none)))::L1) (λj=>[.blk 189 (ta t),.row false 38 5 (Uv (R.reverse.take j))]) (λj=>R.length-j) (λj=>j<=R.length) 0 (Qh _) rfl rfl λj hj=>?_
 by_cases hlt:j<R.length
 ·obtain ⟨x,hx⟩:=gxE (l:=R) (i:=R.length-1-j) (by omega);have hx':R.reverse[j]? = some x:=by rw [List.getElem?_reverse (by omega)]; exact hx
  have hm:∀ y∈[U6 x],y.length=5:=λy hy=>by rw [Qk.1 hy]; rfl
  have e:Uv (R.reverse.take (j+1))=Uv (R.reverse.take j)++[U6 x]:=by rw [Zw,hx']; simp [Uv]
  have htl:(Uv (R.reverse.take j)).length=j:=by rw [Gu,Qq,Xo]; omega
  refine go tt [.T,.r 22 (eI (b:=((R.length-1-j:Nat):Int)) (by omega)),.x (Si hx),.s (sz:=5) hm,.r 19 (eI (b:=(R.length:Int)-1-((j+1:Nat):Int)) (by omega))] rfl (by simp [Uw,htl]; omega) ?_;exact rd (j+1) (by omega) hlt (by rw [e]; rfl)
 ·obtain rfl:j=R.length:=by omega
  rw [Qn (by rw [Xo]; exact Qm _)];obtain ⟨A,hA⟩:=nmE (S7 (Fl t) R);obtain ⟨C,hC⟩:=nmE (S7 (Fl t) R.reverse);have e:Lo (Fl t) R=A.dropLast++C.dropLast:=by rw [hA,hC]; exact if_neg h3
  rw [<-hA] at c1 p1 k1;rw [<-hC] at c2 p2 k2;rw [e];have hs:∀ y∈(C.map U6).take (C.length-1),y.length=5:=λy hy=>YU C y (Qo hy)
  have hs2:∀ y∈(A.map U6).take (A.length-1),y.length=5:=λy hy=>YU A y (Qo hy)
  refine Ud [.F,.p 1,.k c1,.k c2,.r 36 (eI (b:=((A.length-1:Nat):Int)) (by simp; omega)),.r 39 (eI (b:=((A.length-1:Nat):Int)) (by simp; omega)),.i (A.length-1),.r 44 (eI (b:=((C.length-1:Nat):Int)) (by simp; omega)),.i (C.length-1),.s (sz:=5) hs] rfl (by simp [Uv,Jt,List.dropLast_eq_take]) ?_;simp only [Uw,Qq,Q7]
  and_intros <;> first | exact hs2 | omega
theorem TW {l:List Pt} {t:Tm} (hl:∀ p∈l,Sc p.c) (hn:l.length≤1000000) (ht:Va t):U0 prog 161 [.agg (ta t),.one (pts l)] [] [.one (.orow 0 7 none)] [.row false 136 7 (U3 (Sk (Fl t) l))]:=by
 have hcl:=Gu l;show U0 prog 161 [.agg (ta t),.one (.row (Uv l))] [] [.one (.orow 0 7 none)] [.row false 136 7 (U3 (Sk (Fl t) l))];refine Ft func161 rfl ?_;refine Ub [.o 5 136 7] rfl ?_;refine Ug (S:=Nat) 2 (λL1 i=>(6,.v (.oi ((i+1:Nat):Int)))::(5,.v (.one (.orow 1 7 none)))::L1) (λi=>[.blk 189 (ta t),.row false 136 7 (U3 ((Sk (Fl t) l).take i))]) (λi=>l.length-i) (λi=>i<=l.length-1) 0 (Qh _) rfl rfl λi hi=>?_
 by_cases hlt:i+1<l.length
 ·obtain ⟨a,ha⟩:=gxE (l:=l) (i:=i) (by omega);obtain ⟨b,hb⟩:=gxE (l:=l) (i:=i+1) hlt;have hg:=RP (Fl t) ha hb;have hm:∀ y∈[C6 (QP (Fl t) a b)],y.length=7:=λy hy=>by rw [Qk.1 hy]; rfl
  refine go tt [.t (by simp [hcl]; omega),.r 19 (eI (b:=(i:Int)) (by simp)),.x (Si ha),.x (Si hb),.k (dY (hl a (Qa ha)) (hl b (Qa hb)) ht),.s (sz:=7) hm,.r 14 (eI (b:=((i+1+1:Nat):Int)) (by simp))] rfl (by simp [Uw,Gu,S8,Bf]; omega) ?_;exact rd (i+1) (by omega) (by omega) (by rw [hg]; simp [U3]; rfl)
 ·have e:(Sk (Fl t) l).take i=Sk (Fl t) l:=Qn (by rw [Bf]; omega);rw [e];exact Uf [] [1] [.f (by simp [hcl]; omega)] rfl
theorem wA {C:List Pt} {i:Nat} {a b:Pt} (ha:C[i]? = some a) (hb:C[(i+1) % C.length]? = some b):(Rh C)[i]? = some (a,b):=by
 have hi:=(Qf.1 ha).1;unfold Rh;rw [List.getElem?_zip_eq_some];refine ⟨ha,?_⟩;by_cases h:i+1<C.length
 ·rw [Xt h] at hb;rw [Zm (by rw [Q8]; omega),Xb,Js]; exact hb
 ·have e:i+1=C.length:=by omega
  rw [e,Nat.mod_self] at hb;rw [Xg (by rw [Q8]; omega),Q8,show i-(C.length-1)=0 by omega,Kd (by omega)]; exact hb
theorem wI (C:List Pt):(Rh C).length=C.length:=by
 unfold Rh;rw [List.length_zip,Qu,Q8,Qq]; omega
theorem EQ {α β:Type} {f:α->List β} {l:List α} {i:Nat} {x:α} (h:l[i]? = some x):(l.take (i+1)).flatMap f=(l.take i).flatMap f++f x:=by
 rw [Zw,h]; simp
theorem RE {α β:Type} {f:α->β} {p:α->Bool} {l:List α} {i:Nat} {x:α} (h:l[i]? = some x):((l.take (i+1)).filter p).map f=((l.take i).filter p).map f++if p x=true then [f x] else []:=by
 rw [Zw,h,Vk,Ye];congr 1;simp only [Option.toList];by_cases hp:p x=true
 ·rw [if_pos hp,X4 hp]; rfl
 ·rw [if_neg hp,Jv hp]; rfl
theorem uY {α β:Type} {f:α->List β} {n:Nat} (hf:∀ x,(f x).length<=n) (l:List α):(l.flatMap f).length<=l.length*n:=KQ f n l λx _=>hf x
theorem oK {l:List Pt} (hl:∀ p∈l,Sc p.c):∀ p∈l,oR 4294967294 1073741824 p:=λp hp=>⟨(hl p hp).n,(hl p hp).c.mono (by decide) (by decide)⟩
set_option maxHeartbeats 4000000 in
theorem AH {l:List Pt} {a:Tm} {c:Cr} {r1:Uq} (hl:∀ p∈l,Sc p.c) (hn:l.length≤10) (ha:Va a):U0 prog 129 [.one (.ow 0 0),.agg (ta a)] [.blk 201 (Ht c (Uv l) r1)] [.one (.row (U3 (EK l a)))] [.blk 201 (Ht c (Uv l) (brH l a))]:=by
 have hwl:=Oz l;have cw:=pX (l:=l) (oK hl) (by omega);have cr:=kW (l:=Ta l) (λp hp=>hl p (Nc hp)) (by omega) ha;have cn:=dD (R:=Tn a (Ta l)) (λp hp=>hl p (Nc (Hj.1 hp))) (by rw [Na]; omega) ha;have cr2:=kW hl (by omega) ha;have cc:=TW (l:=Tn a l) (t:=a) (λp hp=>hl p (Hj.1 hp)) (by rw [Na]; omega) ha;have hCm:∀ p∈S0 l a,p∈l:=λp hp=>Iy hp
 have hCl:=JB l a;have e0:EK l a=ZS l a++Nn (Fl a) l (S0 l a):=rfl;rw [e0];show U0 prog 129 _ _ _ [.blk 201 (Ht c (Uv l) (Uv (S0 l a)))];have cn:Uh 164 [.agg (ta a),.one (pts (Tn a (Ta l)))] [.one (pts (S0 l a))]:=cn;have cc:U0 prog 161 [.agg (ta a),.one (pts (Tn a l))] [] [.one (.orow 0 7 none)] [.row false 136 7 (U3 (ZS l a))]:=cc;have hbl:(ZS l a).length<=10:=by unfold ZS; rw [Bf,Na]; omega
 obtain ⟨C,hC⟩:=nmE (S0 l a);obtain ⟨cs0,hc0⟩:=nmE (ZS l a);rw [<-hC] at cn hCm hCl ⊢;rw [<-hc0] at cc hbl ⊢;have hcp:=Gu C;have hlp:=Gu l;have eel:∀ x,(E7 (Fl a) l x).length<=l.length:=λx=>by unfold E7; rw [List.length_map]; exact List.length_filter_le _ _
 refine Ft func129 rfl ?_;refine Ub [.k cw,.k cr,.k cn,.k Ig,.k cr2,.c [2] cc] rfl ?_;by_cases h2:C.length<2
 ·have e:Nn (Fl a) l C=[]:=if_pos h2;rw [e,Zx];exact Uf [2] [0] [.t (decide_eq_true (by simp; omega))] rfl
 have e:Nn (Fl a) l C=(Rh C).flatMap (E7 (Fl a) l):=if_neg h2;rw [e];refine Ub [.f (decide_eq_false (by simp; omega))] rfl ?_;refine sb [(48,.v (.oi 0)),(47,.v (.oi ((C.map U6).length:Int))),(46,.v (.one (pts C))),(6,.v (.one (.orow 2 7 none))),(3,.v (.one (.ow 1 0))),(0,.v (.one (.ow 0 0)))] [.blk 201 (Ht c (Uv l) (Uv C)),.blk 189 (ta a),.row false 136 7 (U3 cs0)] rfl rfl ?_;rw [show U3 cs0=U3 (cs0++((Rh C).take 0).flatMap (E7 (Fl a) l)) by simp];refine Ug (S:=Nat) 3 (λL1 i=>(48,.v (.oi i))::(6,.v (.one (.orow 2 7 none)))::L1) (λi=>[.blk 201 (Ht c (Uv l) (Uv C)),.blk 189 (ta a),.row false 136 7 (U3 (cs0++((Rh C).take i).flatMap (E7 (Fl a) l)))]) (λi=>C.length-i) (λi=>i<=C.length) 0 (Qh _) rfl rfl λi hi=>?_
 by_cases hlt:i<C.length
 ·obtain ⟨x,hx⟩:=gxE (l:=C) (i:=i) hlt;obtain ⟨y,hy⟩:=gxE (l:=C) (i:=(i+1) % C.length) (Z5 _ (by omega));have he:=wA hx hy;have sx:=hl x (hCm x (Qa hx));have sy:=hl y (hCm y (Qa hy));have hflat:=EQ (f:=E7 (Fl a) l) he;obtain ⟨F,hF⟩:=nmE (cs0++((Rh C).take i).flatMap (E7 (Fl a) l));have hFl:F.length<=10+20*10:=by
   have h1:=uY eel ((Rh C).take i);have h2:((Rh C).take i).length*l.length<=20*10:=Zh (by rw [Qq]; omega) hn;rw [hF,Qu]; omega
  have hmod:(((i+1:Nat):Int)).tmod ((C.map U6).length:Int)=(((i+1) % C.length:Nat):Int):=by rw [Q7]; exact (Int.ofNat_tmod _ _).symm
  have hm0:=Vi ((i+1:Nat):Int) (show (C.length:Int)≠0 by omega);have hm1:=Yw ((i+1:Nat):Int) (show (0:Int)<C.length by omega);have hnext:cs0++((Rh C).take (i+1)).flatMap (E7 (Fl a) l)=F++(l.filter (YI (x,y))).map λc=>Dy (Fl a) x y c:=by rw [hflat,<-Zc,<-hF]; rfl
  rw [<-hF];refine go tt [.t (decide_eq_true (by simp; omega)),.x (Si hx),.r 58 (eI (b:=((i+1:Nat):Int)) (by simp)),.r 64 (eI (b:=(((i+1) % C.length:Nat):Int)) hmod),.x (Si hy),.k Ig] rfl (by simp only [Uw]; omega) ?_;rw [show U3 F=U3 (F++((l.take 0).filter (YI (x,y))).map λc=>Dy (Fl a) x y c) by simp];refine Ug (S:=Nat) 5 (λL1 k=>(73,.v (.oi k))::(6,.v (.one (.orow 2 7 none)))::L1) (λk=>[.blk 201 (Ht c (Uv l) (Uv C)),.blk 189 (ta a),.row false 136 7 (U3 (F++((l.take k).filter (YI (x,y))).map λc=>Dy (Fl a) x y c)),.blk 38 (U6 x),.blk 38 (U6 y)]) (λk=>l.length-k) (λk=>k<=l.length) 0 (Qh _) rfl rfl λk hk=>?_
  by_cases hlk:k<l.length
  ·obtain ⟨z,hz⟩:=gxE (l:=l) (i:=k) hlk;have sz:=hl z (Qa hz);have hflt:=RE (f:=λc=>Dy (Fl a) x y c) (p:=YI (x,y)) hz;obtain ⟨G,hG⟩:=nmE (((l.take k).filter (YI (x,y))).map λc=>Dy (Fl a) x y c);have hGl:G.length<=10:=by
    have h1:=Yz (YI (x,y)) (l.take k);rw [Qq] at h1;rw [hG,Q7]; omega
   rw [<-hG] at hflt ⊢;by_cases h1:z.id=x.id
   ·rw [if_neg (show ¬YI (x,y) z=true by simp [YI,h1]),Zx] at hflt;refine Uc [.t (decide_eq_true (by simp; omega)),.x (Si hz),.g 82 false (decide_eq_false (by simp [h1])),.f rfl] rfl ?_;exact rd (k+1) (by omega) hlk (by rw [hflt]; rfl)
   ·by_cases h2:z.id=y.id
    ·rw [if_neg (show ¬YI (x,y) z=true by simp [YI,h2]),Zx] at hflt;refine Uc [.t (decide_eq_true (by simp; omega)),.x (Si hz),.g 82 true (decide_eq_true h1),.f (decide_eq_false (by simp [h2]))] rfl ?_;exact rd (k+1) (by omega) hlk (by rw [hflt]; rfl)
    ·rw [if_pos (show YI (x,y) z=true by simp [YI,h1,h2])] at hflt;have hm:∀ q∈[C6 (Dy (Fl a) x y z)],q.length=7:=λq hq=>by rw [Qk.1 hq]; rfl
     refine go tt [.t (decide_eq_true (by simp; omega)),.x (Si hz),.g 82 true (decide_eq_true h1),.t (decide_eq_true h2),.k (dV sx sy sz ha),.s (sz:=7) hm] rfl (by simp [Uw,S8]; omega) ?_;have e3:U3 (F++(G++[Dy (Fl a) x y z]))=U3 (F++G)++[C6 (Dy (Fl a) x y z)]:=by simp [U3]
     exact rd (k+1) (by omega) hlk (by rw [hflt,e3]; rfl)
  ·obtain rfl:k=l.length:=by omega
   rw [Q5,<-hnext];refine Uc [.f (decide_eq_false (by simp))] rfl ?_;exact rd (i+1) (by omega) hlt rfl
 ·obtain rfl:i=C.length:=by omega
  rw [Qn (by rw [wI]; exact Qm _)];exact Uf [2] [0] [.f (decide_eq_false (by simp))] rfl
theorem ozM {P:Program} [Mo P] {n:Nat} {Q:Exit->Sg->Ur->Prop} {L L':Sg} {B B':Ur} (d off T sz:Nat) {it:List It} (hs:H9 it=true) (h:nN (P:=P) d L B [.oc d off T sz]=some (L',B',[],[])) (k:AK P n Q it L' B'):AK P n Q it L B:=AK.sub (LZ h EqOk.nil) hs k
theorem zB {k:Crv} (hk:Sc k):Uh 241 [.agg (cl k)] [.one (.row (JQ (ZQ k)))]:=by
 have ok:=UO hk.n hk.c;have l1:=Sw k.x k.x;have l2:=Sw k.y k.y;have:=hk.c.lx;have:=hk.c.ly;have bx:Bd 258 (Gh k.x k.x):=P9 (u:=2) hk.c.x hk.c.x (by omega);have by_:Bd 258 (Gh k.y k.y):=P9 (u:=2) hk.c.y hk.c.y (by omega);have c1:=Mr (p:=k.x) (c:=k.d) (by omega) (Ux hk.c.x (by decide)) (Qc hk.c.d (by decide));have c2:=Mr (p:=k.y) (c:=k.d) (by omega) (Ux hk.c.y (by decide)) (Qc hk.c.d (by decide));have c3:=GP (p:=k.x) (q:=k.x) hk.n.1 hk.n.1 (by omega) (by omega) hk.c.x hk.c.x (by decide);have c4:=GP (p:=k.y) (q:=k.y) hk.n.2.1 hk.n.2.1 (by omega) (by omega) hk.c.y hk.c.y (by decide);have c5:=zG (p:=Gh k.x k.x) (q:=Gh k.y k.y) (by omega) (by omega) (Ux bx (by decide)) (Ux by_ (by decide));have c6:=Nk (Uy k.d) (Uy k.d) (Qc hk.c.d (by decide)) (Qc hk.c.d (by decide));have hl:∀ p∈ZQ k,p.length≤1000000:=λp hp=>by
  obtain ⟨j,hj⟩:=Xu hp;have h1:=ok.2 j p hj;have:[2,2,4,0].getD j 0<=4:=by
   match j with
   | 0=>decide
   | 1=>decide
   | 2=>decide
   | 3=>decide
   | j+4=>simp
  omega
 have cd:=Qdj (r:=ZQ k) (λp hp=>(ok.1 p hp).1) (λp hp=>Ux (ok.1 p hp).2 (by decide)) hl (by show 4<=1000; decide);exact Ue func241 rfl [.k (Dd hk.n (hk.c.mono (by decide) (by decide))),.k c1,.k c2,.k c3,.k c4,.k c5,.k c6,.k cd] rfl
theorem Qdr {a b c d:Crv} (ha:Sc a) (hb:Sc b) (hc:Sc c) (hd:Sc d):Uh 199 [.agg (cl a),.agg (cl b),.agg (cl c),.agg (cl d)] [pr (VF a b c d)]:=by
 have cd:=Qqd (by decide) (k:=4) (ds:=[2,2,4,0]) (by decide) rfl (by decide) (rC ha.n hb.n hc.n hd.n ha.c hb.c hc.c hd.c);exact Ue func199 rfl [.k (zB ha),.k (zB hb),.k (zB hc),.k (zB hd),.k cd] rfl
set_option maxHeartbeats 1000000 in
theorem Qlu {a b c d:Pt} {t:Tm} (ha:Sc a.c) (hb:Sc b.c) (hc:Sc c.c) (hd:Sc d.c) (ht:Va t):Uh 163 [.oi 4,.agg (ta t),.one (.row [U6 a,U6 b,U6 c,U6 d])] [.agg (C6 (OR (Fl t) a b c d)),.oi 0]:=by
 have hp:=(lW ha hb hc hd).dp;have e:C6 (OR (Fl t) a b c d)=[.int .i64 4,.int .i64 a.id,.int .i64 b.id,.int .i64 c.id,.int .i64 d.id,pl (VF a.c b.c c.c d.c),.int .i64 (Hd (Fl t) (VF a.c b.c c.c d.c))]:=by rw [OR]
 rw [e];have cg:=TU hp ht;have cf:=Qdr ha hb hc hd;generalize VF a.c b.c c.c d.c=F at *;refine Ft func163 rfl ?_;refine Ub [.k Qar,.f rfl] rfl ?_;refine Ug (S:=Nat) 3 (λL1 i=>(22,.v (.oi i))::L1) (λi=>[.blk 189 (ta t),.blk 136 zCt,.blk 136 [.int .i64 4,.int .i64 (if 1<=i then a.id else 0),.int .i64 (if 2<=i then b.id else 0),.int .i64 (if 3<=i then c.id else 0),.int .i64 (if 4<=i then d.id else 0),.nils,.int .i64 0]]) (λi=>4-i) (λi=>i<=4) 0 (Qh _) rfl rfl λi hi=>?_
 rcases (show i=0\/i=1\/i=2\/i=3\/i=4 by omega) with rfl | rfl | rfl | rfl | rfl
 ·refine Ub [.t rfl,.x (i:=0) (xs:=U6 a) rfl,.i 0] rfl ?_ (by simp [Uw]);exact rd 1 (by omega) (by omega) rfl
 ·refine Ub [.t rfl,.x (i:=1) (xs:=U6 b) rfl,.i 1] rfl ?_ (by simp [Uw]);exact rd 2 (by omega) (by omega) rfl
 ·refine Ub [.t rfl,.x (i:=2) (xs:=U6 c) rfl,.i 2] rfl ?_ (by simp [Uw]);exact rd 3 (by omega) (by omega) rfl
 ·refine Ub [.t rfl,.x (i:=3) (xs:=U6 d) rfl,.i 3] rfl ?_ (by simp [Uw]);exact rd 4 (by omega) (by omega) rfl
 ·exact Ud [.f rfl,.f rfl,.f rfl,.f rfl,.t rfl,.x (i:=0) (xs:=U6 a) rfl,.x (i:=1) (xs:=U6 b) rfl,.x (i:=2) (xs:=U6 c) rfl,.x (i:=3) (xs:=U6 d) rfl,.k cf,.k cg] rfl
def uJ (T:Nj) (s:Int) (n:Uk) (F:Nj) (k:Nat):Nj:=(List.range k).foldl (I2 T s n) F
theorem pO (T:Nj) (s:Int) (n:Uk) (F:Nj) (k:Nat):uJ T s n F (k+1)=I2 T s n (uJ T s n F k) k:=by unfold uJ; rw [List.range_succ,List.foldl_append]; rfl
theorem pI (T:Nj) (s:Int) (n:Uk) (F:Nj):uJ T s n F 4=IG T s n F:=rfl
set_option maxHeartbeats 4000000 in
theorem Qsp {F T:Nj} {s n0 n1 n2 n3:Int} (hT:vG T) (hs:-1<=s/\s<=1):U0 prog 171 [.one (.omap 0),.one (.omap 1),.oi s,.agg [.int .i64 n0,.int .i64 n1,.int .i64 n2,.int .i64 n3]] [.mpb F,.mpb T] [] [.mpb (IG T s [n0,n1,n2,n3] F),.mpb T]:=by
 have hm:Qkz T:=λk=>(hT k).1
 have hb:=λ(k:Uk) (x:Int) (hx:-1<=x/\x<=1)=>Qbt (hT k).2 hx
 rw [<-pI];obtain ⟨f,hf⟩:=nmE (uJ T s [n0,n1,n2,n3] F);have f0:F=f 0:=by rw [hf]; rfl
 have fs:∀ k,f (k+1)=I2 T s [n0,n1,n2,n3] (f k) k:=λk=>by rw [hf]; exact pO ..
 rw [<-hf];rw [f0];clear hf f0;refine Ft func171 rfl ?_;refine Ub [] rfl ?_;refine Ug (S:=Nat) 3 (λL1 k=>(14,.v (.oi k))::L1) (λk=>[.mpb (f k),.mpb T,.blk 132 [.int .i64 n0,.int .i64 n1,.int .i64 n2,.int .i64 n3]]) (λk=>4-k) (λk=>k<=4) 0 (by decide) rfl rfl λk hk=>?_
 rcases (show k=0\/k=1\/k=2\/k=3\/k=4 by omega) with rfl | rfl | rfl | rfl | rfl
 ·have e1:=fs 0;have e2:I2 T s [n0,n1,n2,n3] (f 0) 0=if ZK T [n1,n2,n3]*(-s)>0 then Ln (f 0) [n1,n2,n3] (.bool true) else f 0:=rfl
  rw [e2] at e1;refine Ub [.t rfl] rfl ?_;refine Ug (S:=Nat) 4 (λL1 i=>(18,.v (.oi i))::(10,.v (.oi (if i<=0 then (i:Int) else (i:Int)-1)))::L1) (λi=>[.mpb (f 0),.mpb T,.blk 132 [.int .i64 n0,.int .i64 n1,.int .i64 n2,.int .i64 n3],.blk 69 [.int .i64 (if 2<=i then n1 else 0),.int .i64 (if 3<=i then n2 else 0),.int .i64 (if 4<=i then n3 else 0)]]) (λi=>4-i) (λi=>i<=4) 0 (by decide) rfl rfl λi hi=>?_
  rcases (show i=0\/i=1\/i=2\/i=3\/i=4 by omega) with rfl | rfl | rfl | rfl | rfl
  ·refine Ub [.t rfl,.i 0,.f rfl] rfl ?_ (by simp [Uw]);exact rd 1 (by omega) (by omega) rfl
  ·refine Ub [.t rfl,.i 1,.t rfl,.i 0] rfl ?_ (by simp [Uw]);exact rd 2 (by omega) (by omega) rfl
  ·refine Ub [.t rfl,.i 2,.t rfl,.i 1] rfl ?_ (by simp [Uw]);exact rd 3 (by omega) (by omega) rfl
  ·refine Ub [.t rfl,.i 3,.t rfl,.i 2] rfl ?_ (by simp [Uw]);exact rd 4 (by omega) (by omega) rfl
  ·have hbb:=hb [n1,n2,n3] (-s) (by omega);by_cases hc:ZK T [n1,n2,n3]*(-s)>0
   ·rw [if_pos hc] at e1;refine go tt [.f rfl,.t rfl,.t (decide_eq_true hc)] rfl (by simp only [Uw]; first | exact ⟨⟨by omega,by omega⟩,hbb,hm,⟨by omega,by omega⟩,by decide,by omega,by omega⟩ | exact ⟨⟨by omega,by omega⟩,hbb,hm,by decide,by omega,by omega⟩) ?_;exact rd 1 (by omega) (by omega) (by rw [e1]; rfl)
   ·rw [if_neg hc] at e1;refine go tt [.f rfl,.t rfl,.f (decide_eq_false hc)] rfl (by simp only [Uw]; first | exact ⟨⟨by omega,by omega⟩,hbb,hm,⟨by omega,by omega⟩,by decide,by omega,by omega⟩ | exact ⟨⟨by omega,by omega⟩,hbb,hm,by decide,by omega,by omega⟩) ?_;exact rd 1 (by omega) (by omega) (by rw [e1]; rfl)
 ·have e1:=fs 1;have e2:I2 T s [n0,n1,n2,n3] (f 1) 1=if ZK T [n0,n2,n3]*s>0 then Ln (f 1) [n0,n2,n3] (.bool true) else f 1:=rfl
  rw [e2] at e1;refine Ub [.t rfl] rfl ?_;refine Ug (S:=Nat) 4 (λL1 i=>(18,.v (.oi i))::(10,.v (.oi (if i<=1 then (i:Int) else (i:Int)-1)))::L1) (λi=>[.mpb (f 1),.mpb T,.blk 132 [.int .i64 n0,.int .i64 n1,.int .i64 n2,.int .i64 n3],.blk 69 [.int .i64 (if 1<=i then n0 else 0),.int .i64 (if 3<=i then n2 else 0),.int .i64 (if 4<=i then n3 else 0)]]) (λi=>4-i) (λi=>i<=4) 0 (by decide) rfl rfl λi hi=>?_
  rcases (show i=0\/i=1\/i=2\/i=3\/i=4 by omega) with rfl | rfl | rfl | rfl | rfl
  ·refine Ub [.t rfl,.i 0,.t rfl,.i 0] rfl ?_ (by simp [Uw]);exact rd 1 (by omega) (by omega) rfl
  ·refine Ub [.t rfl,.i 1,.f rfl] rfl ?_ (by simp [Uw]);exact rd 2 (by omega) (by omega) rfl
  ·refine Ub [.t rfl,.i 2,.t rfl,.i 1] rfl ?_ (by simp [Uw]);exact rd 3 (by omega) (by omega) rfl
  ·refine Ub [.t rfl,.i 3,.t rfl,.i 2] rfl ?_ (by simp [Uw]);exact rd 4 (by omega) (by omega) rfl
  ·have hbb:=hb [n0,n2,n3] s (by omega);by_cases hc:ZK T [n0,n2,n3]*s>0
   ·rw [if_pos hc] at e1;refine go tt [.f rfl,.f rfl,.t (decide_eq_true hc)] rfl (by simp only [Uw]; first | exact ⟨⟨by omega,by omega⟩,hbb,hm,⟨by omega,by omega⟩,by decide,by omega,by omega⟩ | exact ⟨⟨by omega,by omega⟩,hbb,hm,by decide,by omega,by omega⟩) ?_;exact rd 2 (by omega) (by omega) (by rw [e1]; rfl)
   ·rw [if_neg hc] at e1;refine go tt [.f rfl,.f rfl,.f (decide_eq_false hc)] rfl (by simp only [Uw]; first | exact ⟨⟨by omega,by omega⟩,hbb,hm,⟨by omega,by omega⟩,by decide,by omega,by omega⟩ | exact ⟨⟨by omega,by omega⟩,hbb,hm,by decide,by omega,by omega⟩) ?_;exact rd 2 (by omega) (by omega) (by rw [e1]; rfl)
 ·have e1:=fs 2;have e2:I2 T s [n0,n1,n2,n3] (f 2) 2=if ZK T [n0,n1,n3]*(-s)>0 then Ln (f 2) [n0,n1,n3] (.bool true) else f 2:=rfl
  rw [e2] at e1;refine Ub [.t rfl] rfl ?_;refine Ug (S:=Nat) 4 (λL1 i=>(18,.v (.oi i))::(10,.v (.oi (if i<=2 then (i:Int) else (i:Int)-1)))::L1) (λi=>[.mpb (f 2),.mpb T,.blk 132 [.int .i64 n0,.int .i64 n1,.int .i64 n2,.int .i64 n3],.blk 69 [.int .i64 (if 1<=i then n0 else 0),.int .i64 (if 2<=i then n1 else 0),.int .i64 (if 4<=i then n3 else 0)]]) (λi=>4-i) (λi=>i<=4) 0 (by decide) rfl rfl λi hi=>?_
  rcases (show i=0\/i=1\/i=2\/i=3\/i=4 by omega) with rfl | rfl | rfl | rfl | rfl
  ·refine Ub [.t rfl,.i 0,.t rfl,.i 0] rfl ?_ (by simp [Uw]);exact rd 1 (by omega) (by omega) rfl
  ·refine Ub [.t rfl,.i 1,.t rfl,.i 1] rfl ?_ (by simp [Uw]);exact rd 2 (by omega) (by omega) rfl
  ·refine Ub [.t rfl,.i 2,.f rfl] rfl ?_ (by simp [Uw]);exact rd 3 (by omega) (by omega) rfl
  ·refine Ub [.t rfl,.i 3,.t rfl,.i 2] rfl ?_ (by simp [Uw]);exact rd 4 (by omega) (by omega) rfl
  ·have hbb:=hb [n0,n1,n3] (-s) (by omega);by_cases hc:ZK T [n0,n1,n3]*(-s)>0
   ·rw [if_pos hc] at e1;refine go tt [.f rfl,.t rfl,.t (decide_eq_true hc)] rfl (by simp only [Uw]; first | exact ⟨⟨by omega,by omega⟩,hbb,hm,⟨by omega,by omega⟩,by decide,by omega,by omega⟩ | exact ⟨⟨by omega,by omega⟩,hbb,hm,by decide,by omega,by omega⟩) ?_;exact rd 3 (by omega) (by omega) (by rw [e1]; rfl)
   ·rw [if_neg hc] at e1;refine go tt [.f rfl,.t rfl,.f (decide_eq_false hc)] rfl (by simp only [Uw]; first | exact ⟨⟨by omega,by omega⟩,hbb,hm,⟨by omega,by omega⟩,by decide,by omega,by omega⟩ | exact ⟨⟨by omega,by omega⟩,hbb,hm,by decide,by omega,by omega⟩) ?_;exact rd 3 (by omega) (by omega) (by rw [e1]; rfl)
 ·have e1:=fs 3;have e2:I2 T s [n0,n1,n2,n3] (f 3) 3=if ZK T [n0,n1,n2]*s>0 then Ln (f 3) [n0,n1,n2] (.bool true) else f 3:=rfl
  rw [e2] at e1;refine Ub [.t rfl] rfl ?_;refine Ug (S:=Nat) 4 (λL1 i=>(18,.v (.oi i))::(10,.v (.oi (if i<=3 then (i:Int) else (i:Int)-1)))::L1) (λi=>[.mpb (f 3),.mpb T,.blk 132 [.int .i64 n0,.int .i64 n1,.int .i64 n2,.int .i64 n3],.blk 69 [.int .i64 (if 1<=i then n0 else 0),.int .i64 (if 2<=i then n1 else 0),.int .i64 (if 3<=i then n2 else 0)]]) (λi=>4-i) (λi=>i<=4) 0 (by decide) rfl rfl λi hi=>?_
  rcases (show i=0\/i=1\/i=2\/i=3\/i=4 by omega) with rfl | rfl | rfl | rfl | rfl
  ·refine Ub [.t rfl,.i 0,.t rfl,.i 0] rfl ?_ (by simp [Uw]);exact rd 1 (by omega) (by omega) rfl
  ·refine Ub [.t rfl,.i 1,.t rfl,.i 1] rfl ?_ (by simp [Uw]);exact rd 2 (by omega) (by omega) rfl
  ·refine Ub [.t rfl,.i 2,.t rfl,.i 2] rfl ?_ (by simp [Uw]);exact rd 3 (by omega) (by omega) rfl
  ·refine Ub [.t rfl,.i 3,.f rfl] rfl ?_ (by simp [Uw]);exact rd 4 (by omega) (by omega) rfl
  ·have hbb:=hb [n0,n1,n2] s (by omega);by_cases hc:ZK T [n0,n1,n2]*s>0
   ·rw [if_pos hc] at e1;refine go tt [.f rfl,.f rfl,.t (decide_eq_true hc)] rfl (by simp only [Uw]; first | exact ⟨⟨by omega,by omega⟩,hbb,hm,⟨by omega,by omega⟩,by decide,by omega,by omega⟩ | exact ⟨⟨by omega,by omega⟩,hbb,hm,by decide,by omega,by omega⟩) ?_;exact rd 4 (by omega) (by omega) (by rw [e1]; rfl)
   ·rw [if_neg hc] at e1;refine go tt [.f rfl,.f rfl,.f (decide_eq_false hc)] rfl (by simp only [Uw]; first | exact ⟨⟨by omega,by omega⟩,hbb,hm,⟨by omega,by omega⟩,by decide,by omega,by omega⟩ | exact ⟨⟨by omega,by omega⟩,hbb,hm,by decide,by omega,by omega⟩) ?_;exact rd 4 (by omega) (by omega) (by rw [e1]; rfl)
 ·exact Uf [] [0,1] [.f rfl] rfl
end Orr
