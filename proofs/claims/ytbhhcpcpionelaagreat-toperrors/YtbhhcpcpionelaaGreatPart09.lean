/- TW1 TW2 R3 R4 RefPL R5 R6 RefGL R7 RatOkL R8 R9 RefCL R10 R11 R12 R13 R14 R15 R16 R17 R18 SC1 W1 W2 WR18 WS18 X19 MeshK H2 H3 MD1 MD2 -/
import Derived.Test.YtbhhcpcpionelaaGreatPart08
import Derived.Test.YtbhhcpcpionelaaGreatPart00
import Derived.Test.YtbhhcpcpionelaaGreatPart07
import Derived.Test.YtbhhcpcpionelaaGreatPart04
import Derived.Test.YtbhhcpcpionelaaGreatPart05
set_option linter.all false
namespace Orr
open Go Go.Proofs Tryz Orq
set_option maxRecDepth 10000
def Oe(l:List (Pt×Pt)):Us:=l.map Qcy
theorem Qok{l m:Us}(h:l=m):TV.one (LV.row l)=.one (.row m):=h ▸ rfl
theorem oz{P:Program}[Mo P]{n:Nat}{Q:Exit->Sg->Ut->Prop}{L L':Sg}{B B':Ut}(d off T sz:Nat){it:List It}(hs:Rk it=true)(h:bE (P:=P) d L B [.oc d off T sz]=some (L',B',[],[]))(k:AK P n Q it L' B'):AK P n Q it L B:=AK.sub (EW h EqOk.nil) hs k
theorem Qm4{a b:Pt}{t:Tm}(ha:Sc a.c)(hb:Sc b.c)(ht:Va t):Uj 167 [.oi 2,.agg (ta t),.one (.row [Fc a,Fc b])] [.agg (Dq (D3 (Fu t) a b)),.oi 0]:=by
 have h1:=Nf hb ha;have h2:=Ng hb ha;refine Fv func167 rfl ?_;refine Ud [.k Qbr,.f rfl] rfl ?_;refine Ui (S:=Nat) 3 (λL1 i=>(22,.v (.oi i))::L1) (λi=>[.blk 189 (ta t),.blk 126 zCt,.blk 126 [.int .i64 2,.int .i64 (if 1<=i then a.id else 0),.int .i64 (if 2<=i then b.id else 0),.int .i64 0,.int .i64 0,.nils,.int .i64 0]]) (λi=>2-i) (λi=>i<=2) 0 (Qh _) rfl rfl λi hi=>?_
 rcases(show i=0\/i=1\/i=2 by omega)with rfl|rfl|rfl
 ·refine Ud [.t rfl,.x (i:=0) (xs:=Fc a) rfl,.i 0] rfl ?_ (by simp[U3]);exact rd 1 (by omega) (by omega) rfl
 ·refine Ud [.t rfl,.x (i:=1) (xs:=Fc b) rfl,.i 1] rfl ?_ (by simp[U3]);exact rd 2 (by omega) (by omega) rfl
 ·exact Uf [.f rfl,.f rfl,.t rfl,.x (i:=1) (xs:=Fc b) rfl,.x (i:=0) (xs:=Fc a) rfl,.k (UZ hb.n ha.n hb.cb ha.cb),.x (i:=1) (xs:=Fc b) rfl,.x (i:=0) (xs:=Fc a) rfl,.k (UY hb.n ha.n hb.cb ha.cb),.k wG,.k (SJ (YH h1 h2).dp ht)] rfl
theorem Qfl{a:Tm}(ha:Va a){c:Cr}{r0 r1:Us}:∀(k:Nat) (l:List Pt) (ms:List (Pt×Pt)),l.length≤k->l.length≤1000->ms.length+l.length≤1000000->(∀p∈l,Sc p.c)->U6 prog 166 [.one (.ow 0 0),.agg (ta a),.one (pts l)] [.blk 199 [.bool true,pl c.now.p,sg c.now.lo.num,mg c.now.lo.num,sg (c.now.lo.den:Int),mg (c.now.lo.den:Int),sg c.now.hi.num,mg c.now.hi.num,sg (c.now.hi.den:Int),mg (c.now.hi.den:Int),.row (Cc c.l),.int .i64 c.ev,.row r0,.row r1,.orow 1 10 none],.row false 264 10 (Oe ms)] [.one (.row (U0 (M9 (Fu a) l).1))] [.blk 199 [.bool true,pl c.now.p,sg c.now.lo.num,mg c.now.lo.num,sg (c.now.lo.den:Int),mg (c.now.lo.den:Int),sg c.now.hi.num,mg c.now.hi.num,sg (c.now.hi.den:Int),mg (c.now.hi.den:Int),.row (Cc c.l),.int .i64 c.ev,.row r0,.row r1,.orow 1 10 none],.row false 264 10 (Oe (ms++(M9 (Fu a) l).2))]
 := by
  intro k
  induction k with
  |zero=>?_
  |succ k ih=>?_
  all_goals
   intro l ms hk hn hms hl;have hcl:=G6 l;show U6 prog 166 [.one (.ow 0 0),.agg (ta a),.one (.row (U0 l))] _ _ _;by_cases hs:l.length<2
   ·rw[Cw _ hs,Zw];refine Fv func166 rfl ?_;exact Uh [] [0,1] [.t (by simp[hcl];omega)] rfl
   first
    |(exfalso;omega)
    |
     skip
     obtain⟨k1,k2,k3,k4⟩:=Qh9 hs hk;obtain⟨h,hh⟩:=nmE ((l.length+1) / 2);obtain⟨u,hu,hul,_⟩:=No (Fu a) k (l.take ((l.length+1) / 2)) k1 k3;obtain⟨v,hv,hvl,_⟩:=No (Fu a) k (l.drop ((l.length+1) / 2)) k2 k4;have g1:=Dt (Fu a) _ (l.take ((l.length+1) / 2)) (Ql _);have g2:=Dt (Fu a) _ (l.drop ((l.length+1) / 2)) (Ql _);have hlt:(l.take ((l.length+1) / 2)).length+(l.drop ((l.length+1) / 2)).length=l.length:=by rw[Qq,Q7];omega
     have c1:=ih (l.take ((l.length+1) / 2)) ms k1 (by omega) (by omega) λp hp=>hl p (Qo hp)
     have c2:=ih (l.drop ((l.length+1) / 2)) (ms++(M9 (Fu a) (l.take ((l.length+1) / 2))).2) k2 (by omega) (by rw[Qu];omega) λp hp=>hl p (Qz hp)
     have hpl:=Ox (Fu a) hs hu hv;rw[hpl];rw[hu]at c1;rw[hv]at c2;generalize (M9 (Fu a) (l.take ((l.length+1) / 2))).2=G1 at *;generalize (M9 (Fu a) (l.drop ((l.length+1) / 2))).2=G2 at *;have hsu:=hl u (Qo hul);have hsv:=hl v (Qz hvl);have cb:=Qmr (t:=a) hsu hsv ha;have htd:((l.length:Int)+1).tdiv 2=(((l.length+1) / 2:Nat):Int):=rfl;have hg:∀m,Oe (ms++(G1++G2++[m]))=Oe ((ms++G1)++G2)++[Qcy m]:=λm=>by simp[Oe]
     have hml:(Oe ((ms++G1)++G2)).length=ms.length+G1.length+G2.length:=by simp[Oe];omega
     have hml2:(Oe (ms++(G1++G2))).length=ms.length+G1.length+G2.length:=by simp[Oe];omega
     have h5:=eq_true (p:=∀z,z∈U0 l->z.length=ti41.sz) (YI l);have e1:(U0 l).take ((l.length+1) / 2)=U0 (l.take ((l.length+1) / 2)):=by simp[U0,Jv]
     have e2:(U0 l).drop ((l.length+1) / 2)=U0 (l.drop ((l.length+1) / 2)):=by simp[U0,Vh]
     unfold PM;refine Fv func166 rfl ?_;by_cases hb:Cg (Fu a) u v=true
     ·rw[if_pos hb,hg];exact Uh [] [0,1] [.f (by simp[hcl];omega),.r 17 (eI (b:=(((l.length+1) / 2:Nat):Int)) (by rw[hcl];rfl)),.i ((l.length+1) / 2),.r 22 (Qok e1),.c [0,1] c1,.i ((l.length+1) / 2),.r 28 (Qok e2),.c [0,1] c2,.x (i:=0) (l:=U0 [u]) (xs:=Fc u) rfl,.x (i:=0) (l:=U0 [v]) (xs:=Fc v) rfl,.k cb,.f (by rw[hb];rfl),.x (i:=0) (l:=U0 [u]) (xs:=Fc u) rfl,.x (i:=0) (l:=U0 [v]) (xs:=Fc v) rfl,.s (sz:=10) (l:=[Qcy (u,v)]) (λc hc=>by rw[Qk.1 hc];rfl),.i 1] rfl (by simp[U3,G6,hml2,h5];omega)
     ·have hb:Cg (Fu a) u v=false:=by simpa using hb
      rw[if_neg (by simp[hb]),hg];exact Uh [] [0,1] [.f (by simp[hcl];omega),.r 17 (eI (b:=(((l.length+1) / 2:Nat):Int)) (by rw[hcl];rfl)),.i ((l.length+1) / 2),.r 22 (Qok e1),.c [0,1] c1,.i ((l.length+1) / 2),.r 28 (Qok e2),.c [0,1] c2,.x (i:=0) (l:=U0 [u]) (xs:=Fc u) rfl,.x (i:=0) (l:=U0 [v]) (xs:=Fc v) rfl,.k cb,.t (by rw[hb];rfl),.x (i:=0) (l:=U0 [v]) (xs:=Fc v) rfl,.x (i:=0) (l:=U0 [u]) (xs:=Fc u) rfl,.s (sz:=10) (l:=[Qcy (v,u)]) (λc hc=>by rw[Qk.1 hc];rfl),.i 1] rfl (by simp[U3,G6,hml2,h5];omega)
theorem IH{l:List Pt}{a:Tm}{c:Cr}{r1:Us×Us}(hl:∀p∈l,Sc p.c)(hn:l.length≤1000)(ha:Va a):U6 prog 123 [.one (.ow 0 0),.agg (ta a)] [.blk 199 (Te c (U0 l) r1)] [.one (.row (U8 (AS l a)))] [.blk 199 (Te c (U0 l) (pP l a))]:=by
 have cp:=Qfl (r0:=U0 l) (c:=c) (r1:=r1.1) ha l.length l [] (Ql _) hn (by show 0+l.length≤1000000;omega) hl;have hms:=Dt (Fu a) l.length l (Ql _);unfold AS pP;obtain⟨M,hM⟩:=nmE ((M9 (Fu a) l).2);have hmm:∀m∈M,Sc m.1.c/\Sc m.2.c:=λm hm=>by
  rw[hM]at hm;exact⟨hl _ (JU m hm).1,hl _ (JU m hm).2⟩
 rw[<-hM]at cp hms ⊢;rw[Yj]at cp;have hgl:(Oe M).length=M.length:=by simp[Oe]
 refine Fv func123 rfl ?_;refine Ud [] rfl ?_;refine oz 0 14 264 10 rfl rfl ?_;refine Ud [.k Iq,.c [0,2] cp,.o 5 126 7] rfl ?_;refine Ui (S:=Nat) 4 (λL1 i=>(29,.v (.oi i))::(5,.v (.one (.orow 3 7 none)))::L1) (λi=>[.blk 199 [.bool true,pl c.now.p,sg c.now.lo.num,mg c.now.lo.num,sg (c.now.lo.den:Int),mg (c.now.lo.den:Int),sg c.now.hi.num,mg c.now.hi.num,sg (c.now.hi.den:Int),mg (c.now.hi.den:Int),.row (Cc c.l),.int .i64 c.ev,.row (U0 l),.row (U0 (M9 (Fu a) l).1),.orow 2 10 none],.blk 189 (ta a),.row false 264 10 (Oe M),.row false 126 7 (U8 ((M.map λm=>D3 (Fu a) m.1 m.2).take i))]) (λi=>M.length-i) (λi=>i<=M.length) 0 (Qh _) rfl rfl λi hi=>?_
 by_cases hlt:i<M.length
 ·obtain⟨m,hm⟩:=gxE (l:=M) (i:=i) hlt;obtain⟨s1,s2⟩:=hmm m (Qc hm);have hg:(Oe M)[i]? = some (Qcy m):=G5 hm;have hq:∀y∈[Dq (D3 (Fu a) m.1 m.2)],y.length=7:=λy hy=>by rw[Qk.1 hy];rfl
  have ht:(M.map λm=>D3 (Fu a) m.1 m.2).take (i+1)=(M.map λm=>D3 (Fu a) m.1 m.2).take i++[D3 (Fu a) m.1 m.2]:=by
   rw[Zv,Q9,hm];rfl
  refine go tt [.T,.i i,.x hg,.i 0,.i 1,.k (Qm4 s1 s2 ha),.s (sz:=7) hq] rfl (by simp[U3,hgl,Po];omega) ?_;exact rd (i+1) (by omega) hlt (by rw[ht];simp[U8];rfl)
 ·obtain rfl:i=M.length:=by omega
  rw[Qn (by simp)];exact Uh [2,3] [0] [.F] rfl
def Qxh(l:List Pt)(a:Tm):Cr:=⟨a,(Fo (AS l a)).map fresh,0⟩
theorem Qnl{t:Rat}{l:List Pt}{K:Nat}{c c':Cr}{r1 r1':Us×Us}{n:Int}(ht:Qs 1640000 t)(hl:∀p∈l,Sc p.c)(hn:l.length≤1000)(hc:CrOk c)(hev:0≤c.ev/\c.ev+K≤1000000000000000000)(h:Fp c.now t≤0)(hg:HJ (AS l) (pP l) t K c r1 0=some (c',r1',n)) :
 U6 prog 393 [.one (.ow 0 0),.agg (rl t)] [.blk 199 (Te c (U0 l) r1)] [.oi n,.oi 0] [.blk 199 (Te c' (U0 l) r1')]:=by
 have cg:=Qxu (T:=199) (r0:=U0 l) ht (pV hl hn) (λa c r1 ha _=>IH (c:=c) (r1:=r1) hl hn ha) hc hev h hg;refine Fv func393 rfl ?_;exact Uh [] [0] [.k (Nx (ht.mono (by decide))),.c [0] cg] rfl
theorem Qnn{c:Cr}{r0 r2:Us}{w:Pt}:U6 prog 91 [.one (.ow 0 0)] [.blk 199 (Te c r0 ([Fc w],r2))] [.oi w.id,.one (.bool true)] [.blk 199 (Te c r0 ([Fc w],r2))]:=by
 refine Fv func91 rfl ?_;exact Uh [] [0] [.f rfl,.x (i:=0) (xs:=Fc w) rfl] rfl
theorem Qfo{c:Cr}{r0 r2:Us}:U6 prog 91 [.one (.ow 0 0)] [.blk 199 (Te c r0 ([],r2))] [.oi 0,.one (.bool false)] [.blk 199 (Te c r0 ([],r2))]:=by
 refine Fv func91 rfl ?_;exact Uh [] [0] [.t rfl] rfl
end Orr
namespace Orr
open Go Go.Proofs Tryz
set_option maxRecDepth 10000
theorem UM(x:Nat):(Bw (Gj x)).length=(Gj x).length:=Ty _
theorem Qcz(z:Int):∀c∈[[LV.int .i64 z]],c.length=1:=λc hc=>by rw[Qk.1 hc];rfl
theorem Qx1{x:Nat}(h:x<=1000000000):(Gj x).length<=3:=Qb4 (by omega)
theorem tdn(n:Nat):((n:Nat):Int).tdiv 10000=((n / 10000:Nat):Int):=rfl
theorem WM(n:Nat):((n:Nat):Int).tdiv 2=((n / 2:Nat):Int):=rfl
theorem UG{x mu c0:Nat}(hx:sz x<=100000000)(hmu:mu<=65536)(hc:c0<=1000000000):Uj 158 [.one (nd x),.oi mu,.oi c0] [.one (nd (x*mu+c0))]:=by
 have hxl:=Qa (Mp x) hx;have hll:=UM x;show Uj 158 [.one (.row (Bw (Gj x))),.oi mu,.oi c0] _;refine Fv func158 rfl ?_;refine Ue [.r 11 (eI (b:=(((Gj x).length+2:Nat):Int)) (by rw[hll];omega)),.i 0,.i ((Gj x).length+2)] rfl ?_;refine Ui (S:=Nat×Nat×Uo) 1 (λL1 s=>(8,.v (.oi (s.1:Int)))::(7,.v (.one (.orow 0 1 none)))::(2,.v (.oi (s.2.1:Int)))::L1.filter (λx=>x.1 != 12)) (λs=>[.row false 3 1 (Bw s.2.2)]) (λs=>((Gj x).length-s.1)*4+(Gj s.2.1).length) (λs=>Dg s.2.2/\s.2.2.length=s.1/\Tj s.2.2+s.2.1*10000^s.1=Tj ((Gj x).take s.1)*mu+c0/\(s.1<=(Gj x).length\/s.1+(Gj s.2.1).length<=(Gj x).length+3)/\s.2.1<=1000000000) (0,c0,[]) ⟨Dg.nil,rfl,by simp[Tj],.inl (Qh _),hc⟩ rfl rfl λs hs=>?_
 obtain⟨i,c,o⟩:=s;obtain⟨hp0,hp1,hp2,hp3,hp4⟩:=hs;dsimp only at hp0 hp1 hp2 hp3 hp4 ⊢;have hcl:=Qx1 (x:=c) hp4;by_cases h1:i<(Gj x).length
 ·obtain⟨d,hd⟩:=gxE (l:=(Gj x)) (i:=i) h1;have hd9:=Ck x d (Qc hd);have hdm:d*mu<=9999*65536:=Zc (by omega) hmu;have hc3:=Qx1 (x:=(c+d*mu) / 10000) (by omega);have hol:(Bw o).length=i:=by rw[Ty,hp1]
  refine go tt [.g 17 true Ul,.t rfl,.T,.x (Gy hd),.r 33 (eI (b:=((d*mu:Nat):Int)) (by simp)),.r 34 (eI (b:=((c+d*mu:Nat):Int)) (by omega)),.r 37 (eI (b:=(((c+d*mu) % 10000:Nat):Int)) (by rfl)),.s (sz:=1) (Qcz _),.r 41 (eI (b:=(((c+d*mu) / 10000:Nat):Int)) (by rfl))] rfl (by simp[U3,hol,tdn,WM,-Int.natCast_add,-Int.natCast_mul];omega) ?_;exact rd (i+1,(c+d*mu) / 10000,o++[(c+d*mu) % 10000]) (by dsimp only;omega) ⟨hp0.snoc (Nat.mod_lt _ (by decide)),by dsimp only;rw[List.length_append];show o.length+1=_;omega,by
   dsimp only;rw[Pp,Tu hd,hp1,Nat.pow_succ];simp only[Tj,Nat.mul_zero,Nat.add_zero];have:=IL (d:=d) (m:=mu) rfl hp2;rw[this];grind,.inl (by dsimp only;omega),by dsimp only;omega⟩ (by rw[Ih];rfl)
 ·by_cases h2:0<c
  ·have hdc:=If (x:=c) (by omega);have hol:(Bw o).length=i:=by rw[Ty,hp1]
   refine go tt [.g 17 false Uk,.T,.F,.r 37 (eI (b:=((c % 10000:Nat):Int)) (by rfl)),.s (sz:=1) (Qcz _),.r 41 (eI (b:=((c / 10000:Nat):Int)) (by rfl))] rfl (by simp[U3,hol,tdn,WM,-Int.natCast_add];omega) ?_;exact rd (i+1,c / 10000,o++[c % 10000]) (by dsimp only;omega) ⟨hp0.snoc (Nat.mod_lt _ (by decide)),by dsimp only;rw[List.length_append];show o.length+1=_;omega,by
    dsimp only;rw[Pp,hp1,Nat.pow_succ];simp only[Tj,Nat.mul_zero,Nat.add_zero];have:=IL (d:=0) (m:=mu) rfl hp2;simp only[Nat.zero_mul,Nat.mul_zero,Nat.add_zero]at this;rw[this,List.take_of_length_le (by omega),List.take_of_length_le (by omega)],.inr (by dsimp only;omega),by dsimp only;omega⟩ (by rw[Ih];rfl)
  ·have cc:=HB hp0;rw[show Tj o=x*mu+c0 from by
    have h:=hp2;rw[Qn (by omega),Re,show c=0 by omega]at h;omega]at cc
   exact Uf [.g 17 false Uk,.F,.k cc] rfl
theorem Qdp{l:Uo}{j d:Nat}(h:l[j]? = some d):val (l.drop j)=d+4294967296*val (l.drop (j+1)):=by
 have hi:=(Qf.1 h).1;rw[Zp hi,(Qf.1 h).2];rfl
theorem PR:∀(l:Uo) (j:Nat),val (l.drop j)<=val l
 |l,0=>Ql _
 | [],j+1=>by simp
 |
  x::l,j+1=>by
  have:=PR l j;rw[Wh];simp only[val];omega
theorem Qmx{l:Uo}(hu:∀u∈l,u<4294967296)(hl:l.length≤1099511627776)(hx:sz (val l)≤100000000):Uj 114 [lr l] [.one (nd (val l))]:=by
 have hll:=U7 l;show Uj 114 [.one (.row (lm l))] _;refine Fv func114 rfl ?_;refine Ue [.z 3,.r 7 (eI (b:=((l.length:Nat):Int)-1) (by rw[hll]))] rfl ?_;refine Ui (S:=Nat×Uo) 0 (λL1 s=>(4,.v (.oi ((s.1:Int)-1)))::(3,.v (.one (.row (Bw s.2))))::L1) (λ_=>[]) (λs=>s.1) (λs=>s.1<=l.length/\s.2=Gj (val (l.drop s.1))) (l.length,[]) ⟨Nat.le_refl _,by dsimp only;rw[List.drop_eq_nil_of_le (Nat.le_refl _)];show []=Gj 0;rw[Hx]⟩ rfl rfl λs hs=>?_
 obtain⟨j,o⟩:=s;obtain⟨hj,ho⟩:=hs;dsimp only at hj ho ⊢;subst ho;cases j with
 |zero=>exact Uf [.f (by simp)] rfl (by rw[Xy];rfl) trivial
 |
  succ j =>
  obtain⟨d,hd⟩:=gxE (l:=l) (i:=j) (by omega);have hd9:=hu d (Qc hd);have hdd:=Qdp hd;have hle:=PR l j;have hs2:sz (val (l.drop (j+1))*65536+d / 65536)<=100000000:=Qa (Rh (by omega)) hx;have hs1:sz (val (l.drop (j+1)))<=100000000:=Qa (Rh (by omega)) hx;have c1:=UG (x:=val (l.drop (j+1))) (mu:=65536) (c0:=d / 65536) hs1 (by omega) (by omega);have c2:=UG (x:=val (l.drop (j+1))*65536+d / 65536) (mu:=65536) (c0:=d % 65536) hs2 (by omega) (by omega);have ej:((j+1:Nat):Int)-1=(j:Int):=by omega
  have e2:(val (l.drop (j+1))*65536+d / 65536)*65536+d % 65536=val (l.drop j):=by rw[hdd];omega
  rw[e2]at c2;rw[ej];refine go tt [.T,.x (G0 hd),.r 17 (El (b:=((d / 65536:Nat):Int)) (by rfl)),.k c1,.x (G0 hd),.r 25 (El (b:=((d % 65536:Nat):Int)) (by rfl)),.k c2] rfl (by simp[U3,IntKind.bits];omega) ?_;exact rd (j,Gj (val (l.drop j))) (by dsimp only;omega) ⟨by dsimp only;omega,rfl⟩ rfl
theorem pC{x y:Nat}(hx:sz x<=200000000)(hy:sz y<=200000000):Uj 116 [.one (nd x),.one (nd y)] [.oi (ZT x y)]:=by
 have hxl:=Qa (Mp x) hx;have hyl:=Qa (Mp y) hy;have lx:=UM x;have ly:=UM y;show Uj 116 [.one (.row (Bw (Gj x))),.one (.row (Bw (Gj y)))] _;refine Fv func116 rfl ?_;by_cases hl:(Gj x).length=(Gj y).length
 ·refine Ue [.f (by simp;omega),.r 18 (eI (b:=((Gj x).length:Int)-1) (by rw[lx]))] rfl ?_;refine Ui (S:=Nat) 0 (λL1 j=>(5,.v (.oi ((j:Int)-1)))::L1) (λ_=>[]) (λj=>j) (λj=>j<=(Gj x).length/\(Gj x).drop j=(Gj y).drop j) (Gj x).length ⟨Ql _,by rw[Yv (Ql _),Yv (by omega)]⟩ rfl rfl λj hs=>?_
  obtain⟨hj,hp⟩:=hs;cases j with
  |
   zero =>
   have hxy:x=y:=by rw[Xy,Xy]at hp;rw[<-Re x,<-Re y,hp]
   exact Uf [.f (by simp)] rfl (by rw[eG hxy]) trivial
  |
   succ j =>
   obtain⟨d,hd⟩:=gxE (l:=(Gj x)) (i:=j) (by omega);obtain⟨e,he⟩:=gxE (l:=(Gj y)) (i:=j) (by omega);have ej:((j+1:Nat):Int)-1=(j:Int):=by omega
   rw[ej];by_cases h2:d=e
   ·refine Ue [.T,.x (Gy hd),.x (Gy he),.f (by simp[h2])] rfl ?_;exact rd j (by omega) ⟨by omega,by rw[Zp (by omega:j<(Gj x).length),Zp (by omega:j<(Gj y).length),hp,(Qf.1 hd).2,(Qf.1 he).2,h2]⟩ rfl
   ·by_cases h3:d<e
    ·have hxy:=CH (Ck x) hd he hp h3;rw[Re,Re]at hxy;exact Uf [.T,.x (Gy hd),.x (Gy he),.t (by simp;omega),.x (Gy hd),.x (Gy he),.T] rfl (by rw[MG hxy]) trivial
    ·have hxy:=CH (Ck y) he hd hp.symm (by omega);rw[Re,Re]at hxy;exact Uf [.T,.x (Gy hd),.x (Gy he),.t (by simp;omega),.x (Gy hd),.x (Gy he),.F] rfl (by rw[MF hxy]) trivial
 ·by_cases hlt:(Gj x).length<(Gj y).length
  ·exact Uf [.t (by simp;omega),.T] rfl (by rw[MG (uJ hlt)]) trivial
  ·exact Uf [.t (by simp;omega),.F] rfl (by rw[MF (uJ (by omega))]) trivial
theorem YF{o c s P V:Nat}(h:o+c*P=V):o+P*((c+s) % 10000)+(c+s) / 10000*(P*10000)=V+P*s:=by
 have e:=Xe (c+s) 10000;generalize (c+s) / 10000=q at *;generalize (c+s) % 10000=r at *;have e2:P*(c+s)=P*(10000*q+r):=by rw[e]
 grind
theorem I8{l:Uo}{i:Nat}(h:l.length<=i):Tj (l.take (i+1))=Tj (l.take i):=by rw[Qn (by omega),Qn h]
theorem aZ{l:Uo}{p v u:Nat}(h:l[p]? = some v):Tj (l.set p u)+10000^p*v=Tj l+10000^p*u:=by
 have hp:=(Qf.1 h).1;rw[MP (l.set p u) p (by rw[Xd];omega),MP l p (by omega),XV h,HI hp,List.take_set_of_le (Ql _)];simp only[Tj];generalize 10000^p=P;grind
theorem Ii{l:Uo}{p u:Nat}(h:p<l.length):Tj ((l.set p u).take (p+1))=Tj (l.take p)+10000^p*u:=by
 rw[Tu (l:=l.set p u) (i:=p) (x:=u) (by simp[h]),List.take_set_of_le (Ql _)]
structure AddI(x y:Nat)(s:Nat×Nat×List Nat):Prop where
 d:Dg s.2.2
 l:s.2.2.length=s.1
 v:Tj s.2.2+s.2.1*10000^s.1=Tj ((Gj x).take s.1)+Tj ((Gj y).take s.1)
 c:s.2.1<=1
 b:s.1<=max (Gj x).length (Gj y).length\/s.1=max (Gj x).length (Gj y).length+1/\10000^(max (Gj x).length (Gj y).length)<=x+y/\s.2.1=0
theorem Qs9{x y:Nat}(hx:sz x<=200000000)(hy:sz y<=200000000):Uj 115 [.one (nd x),.one (nd y)] [.one (nd (x+y))]:=by
 have hxl:=Qa (Mp x) hx;have hyl:=Qa (Mp y) hy;have lx:=UM x;have ly:=UM y;show Uj 115 [.one (.row (Bw (Gj x))),.one (.row (Bw (Gj y)))] _;refine Fv func115 rfl ?_;refine Ud [.o 5 3 1] rfl ?_;refine Ui (S:=Nat×Nat×Uo) 1 (λL1 s=>(7,.v (.oi (s.1:Int)))::(6,.v (.oi (s.2.1:Int)))::(5,.v (.one (.orow 0 1 none)))::L1) (λs=>[.row false 3 1 (Bw s.2.2)]) (λs=>(max (Gj x).length (Gj y).length-s.1)*2+s.2.1) (AddI x y) (0,0,[]) ⟨Dg.nil,rfl,by simp[Tj],by decide,.inl (Qh _)⟩ rfl rfl λs hs=>?_
 obtain⟨i,c,o⟩:=s;obtain⟨hp0,hp1,hp2,hp3,hp4⟩:=hs;dsimp only at hp0 hp1 hp2 hp3 hp4 ⊢;have hol:(Bw o).length=i:=by rw[Ty,hp1]
 by_cases h1:i<(Gj x).length
 ·obtain⟨d,hd⟩:=gxE (l:=(Gj x)) (i:=i) h1;have hd9:=Ck x d (Qc hd);by_cases h2:i<(Gj y).length
  ·obtain⟨e,he⟩:=gxE (l:=(Gj y)) (i:=i) h2;have he9:=Ck y e (Qc he);refine go tt [.g 12 true Ul,.g 18 true rfl,.t rfl,.T,.x (Gy hd),.r 33 (eI (b:=((c+d:Nat):Int)) (by omega)),.T,.x (Gy he),.r 43 (eI (b:=((c+(d+e):Nat):Int)) (by omega)),.r 46 (eI (b:=(((c+(d+e)) % 10000:Nat):Int)) (by rfl)),.s (sz:=1) (Qcz _),.r 50 (eI (b:=(((c+(d+e)) / 10000:Nat):Int)) (by rfl))] rfl (by simp[U3,hol,tdn,WM,-Int.natCast_add];omega) ?_;exact rd (i+1,(c+(d+e)) / 10000,o++[(c+(d+e)) % 10000]) (by dsimp only;omega) ⟨hp0.snoc (Nat.mod_lt _ (by decide)),by dsimp only;rw[List.length_append];show o.length+1=_;omega,by
    dsimp only;rw[Pp,hp1,Nat.pow_succ];simp only[Tj,Nat.mul_zero,Nat.add_zero];have:=YF (s:=d+e) hp2;rw[this,Tu hd,Tu he];grind,by dsimp only;omega,.inl (by dsimp only;omega)⟩ (by rw[Ih];rfl)
  ·refine go tt [.g 12 true Ul,.g 18 true rfl,.t rfl,.T,.x (Gy hd),.r 33 (eI (b:=((c+d:Nat):Int)) (by omega)),.F,.r 46 (eI (b:=(((c+d) % 10000:Nat):Int)) (by rfl)),.s (sz:=1) (Qcz _),.r 50 (eI (b:=(((c+d) / 10000:Nat):Int)) (by rfl))] rfl (by simp[U3,hol,tdn,WM,-Int.natCast_add];omega) ?_;exact rd (i+1,(c+d) / 10000,o++[(c+d) % 10000]) (by dsimp only;omega) ⟨hp0.snoc (Nat.mod_lt _ (by decide)),by dsimp only;rw[List.length_append];show o.length+1=_;omega,by
    dsimp only;rw[Pp,hp1,Nat.pow_succ];simp only[Tj,Nat.mul_zero,Nat.add_zero];have:=YF (s:=d) hp2;rw[this,Tu hd,I8 (l:=Gj y) (by omega)];grind,by dsimp only;omega,.inl (by dsimp only;omega)⟩ (by rw[Ih];rfl)
 ·by_cases h2:i<(Gj y).length
  ·obtain⟨e,he⟩:=gxE (l:=(Gj y)) (i:=i) h2;have he9:=Ck y e (Qc he);refine go tt [.g 12 false Uk,.g 18 true Ul,.t rfl,.F,.T,.x (Gy he),.r 43 (eI (b:=((c+e:Nat):Int)) (by omega)),.r 46 (eI (b:=(((c+e) % 10000:Nat):Int)) (by rfl)),.s (sz:=1) (Qcz _),.r 50 (eI (b:=(((c+e) / 10000:Nat):Int)) (by rfl))] rfl (by simp[U3,hol,tdn,WM,-Int.natCast_add];omega) ?_;exact rd (i+1,(c+e) / 10000,o++[(c+e) % 10000]) (by dsimp only;omega) ⟨hp0.snoc (Nat.mod_lt _ (by decide)),by dsimp only;rw[List.length_append];show o.length+1=_;omega,by
    dsimp only;rw[Pp,hp1,Nat.pow_succ];simp only[Tj,Nat.mul_zero,Nat.add_zero];have:=YF (s:=e) hp2;rw[this,Tu he,I8 (l:=Gj x) (by omega)];grind,by dsimp only;omega,.inl (by dsimp only;omega)⟩ (by rw[Ih];rfl)
  ·by_cases h3:0<c
   ·refine go tt [.g 12 false Uk,.g 18 false Uk,.T,.F,.F,.r 46 (eI (b:=((c % 10000:Nat):Int)) (by rfl)),.s (sz:=1) (Qcz _),.r 50 (eI (b:=((c / 10000:Nat):Int)) (by rfl))] rfl (by simp[U3,hol,tdn,WM,-Int.natCast_add];omega) ?_;exact rd (i+1,c / 10000,o++[c % 10000]) (by dsimp only;omega) ⟨hp0.snoc (Nat.mod_lt _ (by decide)),by dsimp only;rw[List.length_append];show o.length+1=_;omega,by
     dsimp only;rw[Pp,hp1,Nat.pow_succ];simp only[Tj,Nat.mul_zero,Nat.add_zero];have:=YF (s:=0) hp2;rw[Nat.add_zero,Nat.mul_zero,Nat.add_zero]at this;rw[this,I8 (l:=Gj y) (by omega),I8 (l:=Gj x) (by omega)],by dsimp only;omega,.inr ⟨by dsimp only;omega,by
      have h:=hp2;rw[List.take_of_length_le (by omega),List.take_of_length_le (by omega),Re,Re,show c=1 by omega,Nat.one_mul,show i=(max (Gj x).length (Gj y).length) by omega]at h;omega,by dsimp only;omega⟩⟩ (by rw[Ih];rfl)
   ·have hv:Tj o=x+y:=by
     have h:=hp2;rw[Qn (by omega),Qn (by omega),Re,Re,show c=0 by omega]at h;omega
    have hfin:o=Gj (x+y):=by
     have h:=Qgy (o:=o) hp0;rw[hv]at h;refine h ?_;have m1:=XX (x:=x) (y:=x+y) (by omega);have m2:=XX (x:=y) (y:=x+y) (by omega);rcases hp4 with hb|⟨_,hb,_⟩
     ·omega
     ·have:=Qb3 hb;omega
    exact Uf [.g 12 false Uk,.g 18 false Uk,.F] rfl (by rw[hfin];rfl) trivial
theorem YR{o b a c P u d e c':Nat}(h:o+b=a+c*P)(hs:u+e+c=d+10000*c'):(o+P*u)+(b+P*e)=(a+P*d)+c'*(P*10000):=by
 have e2:P*(u+e+c)=P*(d+10000*c'):=by rw[hs]
 grind
theorem QR(o:Uo)(i u:Nat):Bw (o.set i u)=(Bw o).set i [.int .i64 (u:Int)]:=by simp[Bw,Vs]
theorem mQ{x y:Nat}(hx:sz x<=200000000)(hy:sz y<=200000000)(hyx:y<=x):Uj 117 [.one (nd x),.one (nd y)] [.one (nd (x-y))]:=by
 have hxl:=Qa (Mp x) hx;have hyl:=Qa (Mp y) hy;have lx:=UM x;have ly:=UM y;have hmy:=XX hyx;show Uj 117 [.one (.row (Bw (Gj x))),.one (.row (Bw (Gj y)))] _;refine Fv func117 rfl ?_;refine Ue [.i (Bw (Gj x)).length,.i (Bw (Gj x)).length] rfl ?_;rw[lx,show List.replicate (Gj x).length [LV.int .i64 0]=Bw (List.replicate (Gj x).length 0) from by simp[Bw]];refine Ui (S:=Nat×Nat×Uo) 1 (λL1 s=>(14,.v (.oi (s.1:Int)))::(6,.v (.oi (s.2.1:Int)))::L1) (λs=>[.row false 3 1 (Bw s.2.2)]) (λs=>(Gj x).length-s.1) (λs=>s.1<=(Gj x).length/\s.2.2.length=(Gj x).length/\Dg s.2.2/\Tj (s.2.2.take s.1)+Tj ((Gj y).take s.1)=Tj ((Gj x).take s.1)+s.2.1*10000^s.1/\s.2.1<=1) (0,0,List.replicate (Gj x).length 0) ⟨Qh _,Jf ..,Dg.zeros _,by simp[Tj],Qh _⟩ rfl rfl λs hs=>?_
 obtain⟨i,c,o⟩:=s;obtain⟨hp0,hp1,hp2,hp3,hp4⟩:=hs;dsimp only at hp0 hp1 hp2 hp3 hp4 ⊢;have hol:(Bw o).length=(Gj x).length:=by rw[Ty,hp1]
 by_cases h1:i<(Gj x).length
 ·obtain⟨d,hd⟩:=gxE (l:=(Gj x)) (i:=i) h1;have hd9:=Ck x d (Qc hd);by_cases h2:i<(Gj y).length
  ·obtain⟨e,he⟩:=gxE (l:=(Gj y)) (i:=i) h2;have he9:=Ck y e (Qc he);by_cases h3:d<c+e
   ·refine go tt [.T,.x (Gy hd),.T,.x (Gy he),.T,.r 36 (eI (b:=((d+10000-c-e:Nat):Int)) (by omega)),.i i] rfl (by simp[U3,hol,tdn,WM,-Int.natCast_add];omega) ?_;exact rd (i+1,1,o.set i (d+10000-c-e)) (by dsimp only;omega) ⟨by dsimp only;omega,by dsimp only;rw[List.length_set];exact hp1,hp2.set (by omega),by
     dsimp only;rw[Ii (by omega),Tu hd,Tu he,Nat.pow_succ];exact YR hp3 (u:=d+10000-c-e) (d:=d) (e:=e) (c':=1) (by omega),by dsimp only;omega⟩ (by rw[QR];rfl)
   ·refine go tt [.T,.x (Gy hd),.T,.x (Gy he),.r 32 (eI (b:=((d-c-e:Nat):Int)) (by omega)),.F,.i i] rfl (by simp[U3,hol,tdn,WM,-Int.natCast_add];omega) ?_;exact rd (i+1,0,o.set i (d-c-e)) (by dsimp only;omega) ⟨by dsimp only;omega,by dsimp only;rw[List.length_set];exact hp1,hp2.set (by omega),by
     dsimp only;rw[Ii (by omega),Tu hd,Tu he,Nat.pow_succ];exact YR hp3 (u:=d-c-e) (d:=d) (e:=e) (c':=0) (by omega),by dsimp only;omega⟩ (by rw[QR];rfl)
  ·have hy0:Tj ((Gj y).take (i+1))=Tj ((Gj y).take i)+10000^i*0:=by rw[I8 (by omega),Yz,Xm]
   by_cases h3:d<c
   ·refine go tt [.T,.x (Gy hd),.F,.T,.r 36 (eI (b:=((d+10000-c:Nat):Int)) (by omega)),.i i] rfl (by simp[U3,hol,tdn,WM,-Int.natCast_add];omega) ?_;exact rd (i+1,1,o.set i (d+10000-c)) (by dsimp only;omega) ⟨by dsimp only;omega,by dsimp only;rw[List.length_set];exact hp1,hp2.set (by omega),by
     dsimp only;rw[Ii (by omega),Tu hd,hy0,Nat.pow_succ];exact YR hp3 (u:=d+10000-c) (d:=d) (e:=0) (c':=1) (by omega),by dsimp only;omega⟩ (by rw[QR];rfl)
   ·refine go tt [.T,.x (Gy hd),.r 22 (eI (b:=((d-c:Nat):Int)) (by omega)),.F,.F,.i i] rfl (by simp[U3,hol,tdn,WM,-Int.natCast_add];omega) ?_;exact rd (i+1,0,o.set i (d-c)) (by dsimp only;omega) ⟨by dsimp only;omega,by dsimp only;rw[List.length_set];exact hp1,hp2.set (by omega),by
     dsimp only;rw[Ii (by omega),Tu hd,hy0,Nat.pow_succ];exact YR hp3 (u:=d-c) (d:=d) (e:=0) (c':=0) (by omega),by dsimp only;omega⟩ (by rw[QR];rfl)
 ·have hi:i=(Gj x).length:=by omega
  have hv:Tj o=x-y:=by
   have h:=hp3;rw[Qn (by omega),Qn (by omega),Qn (by omega),Re,Re]at h;have hlt:=CB hp2;rw[hp1,<-hi]at hlt;have hc0:c=0:=by
    rcases Q3 c with h0|h0
    ·exact h0
    ·exfalso;have:c=1:=by omega
     rw[this,Wn]at h;omega
   rw[hc0]at h;omega
  have cc:=HB hp2;rw[hv]at cc;exact Uf [.F,.k cc] rfl
theorem CM{o o2 c P u v s V:Nat}(h:o+c*P=V)(hs:o2+P*v=o+P*u){q:Nat}(hu:u+10000*q=v+c+s):o2+q*(P*10000)=V+P*s:=by
 have e2:P*(u+10000*q)=P*(v+c+s):=by rw[hu]
 grind
theorem Qx2(S:Nat):S % 10000+10000*(S / 10000)=S:=We S 10000
structure MulI(x y i d:Nat)(s:Nat×Nat×List Nat):Prop where
 l:s.2.2.length=(Gj x).length+(Gj y).length
 dg:Dg s.2.2
 v:Tj s.2.2+s.2.1*10000^(i+s.1)=Tj ((Gj x).take i)*y+10000^i*d*Tj ((Gj y).take s.1)
 c:s.2.1<10000
 b:s.1<=(Gj y).length/\(∀j v,i+(Gj y).length<=j->s.2.2[j]? = some v->v=0)\/s.1=(Gj y).length+1/\s.2.1=0/\∀j v,i+(Gj y).length+1<=j->s.2.2[j]? = some v->v=0
theorem Qtk{x y:Nat}(hx:sz x<=200000000)(hy:sz y<=200000000):Uj 113 [.one (nd x),.one (nd y)] [.one (nd (x*y))]:=by
 have hxl:=Qa (Mp x) hx;have hyl:=Qa (Mp y) hy;have lx:=UM x;have ly:=UM y;show Uj 113 [.one (.row (Bw (Gj x))),.one (.row (Bw (Gj y)))] _;refine Fv func113 rfl ?_;refine Ue [.r 14 (eI (b:=(((Gj x).length+(Gj y).length:Nat):Int)) (by rw[lx,ly];omega)),.i ((Gj x).length+(Gj y).length),.i ((Gj x).length+(Gj y).length)] rfl ?_;rw[show List.replicate ((Gj x).length+(Gj y).length) [LV.int .i64 0]=Bw (List.replicate ((Gj x).length+(Gj y).length) 0) from by simp[Bw]];refine Ui (S:=Nat×Uo) 1 (λL1 s=>(18,.v (.oi (s.1:Int)))::L1) (λs=>[.row false 3 1 (Bw s.2)]) (λs=>(Gj x).length-s.1) (λs=>s.1<=(Gj x).length/\s.2.length=(Gj x).length+(Gj y).length/\Dg s.2/\Tj s.2=Tj ((Gj x).take s.1)*y/\∀j v,s.1+(Gj y).length<=j->s.2[j]? = some v->v=0) (0,List.replicate ((Gj x).length+(Gj y).length) 0) ⟨Qh _,Jf ..,Dg.zeros _,by rw[CC (λx hx=>Zx hx)];simp[Tj],λj v _ hv=>Zx (Qc hv)⟩ rfl rfl λs hs=>?_
 obtain⟨i,o⟩:=s;obtain⟨hp0,hp1,hp2,hp3,hp4⟩:=hs;dsimp only at hp0 hp1 hp2 hp3 hp4 ⊢;by_cases h1:i<(Gj x).length
 ·obtain⟨d,hd⟩:=gxE (l:=(Gj x)) (i:=i) h1;have hd9:=Ck x d (Qc hd);refine Ud [.T] rfl ?_;refine Ui (S:=Nat×Nat×Uo) 1 (λL1 s=>(8,.v (.oi (s.1:Int)))::(7,.v (.oi (s.2.1:Int)))::L1) (λs=>[.row false 3 1 (Bw s.2.2)]) (λs=>((Gj y).length-s.1)*2+min s.2.1 1) (MulI x y i d) (0,0,o) ⟨hp1,hp2,by dsimp only;rw[hp3];simp[Tj],by show 0<10000;decide,.inl ⟨Nat.zero_le _,hp4⟩⟩ rfl rfl λs hs=>?_
  obtain⟨k,c,o2⟩:=s;obtain⟨hq0,hq1,hq2,hq3,hq4⟩:=hs;dsimp only at hq0 hq1 hq2 hq3 hq4 ⊢;have hol:(Bw o2).length=(Gj x).length+(Gj y).length:=by rw[Ty,hq0]
  by_cases h2:k<(Gj y).length
  ·obtain⟨e,he⟩:=gxE (l:=(Gj y)) (i:=k) h2;have he9:=Ck y e (Qc he);have hde:d*e<=9999*9999:=Zc (by omega) (by omega);obtain⟨v,hoi⟩:=gxE (l:=o2) (i:=i+k) (by omega);have hv9:=hq1 v (Qc hoi);refine go tt [.g 25 true Ul,.t rfl,.r 34 (eI (b:=((i+k:Nat):Int)) (by omega)),.i (i+k),.x (Gy hoi),.r 38 (eI (b:=((v+c:Nat):Int)) (by omega)),.T,.x (Gy hd),.x (Gy he),.r 52 (eI (b:=((d*e:Nat):Int)) (by simp)),.r 53 (eI (b:=((v+c+d*e:Nat):Int)) (by omega)),.r 57 (eI (b:=((i+k:Nat):Int)) (by omega)),.r 59 (eI (b:=(((v+c+d*e) % 10000:Nat):Int)) (by rfl)),.i (i+k),.r 62 (eI (b:=(((v+c+d*e) / 10000:Nat):Int)) (by rfl))] rfl (by simp[U3,hol,tdn,WM,-Int.natCast_add,-Int.natCast_mul];omega) ?_;exact rd (k+1,(v+c+d*e) / 10000,o2.set (i+k) ((v+c+d*e) % 10000)) (by dsimp only;omega) ⟨by dsimp only;rw[List.length_set];exact hq0,hq1.set (Nat.mod_lt _ (by decide)),by
    dsimp only;rw[<-Nat.add_assoc i k 1,Nat.pow_succ];have:=CM hq2 (aZ hoi (u:=((v+c)+(d*e)) % 10000)) (s:=d*e) (q:=((v+c)+(d*e)) / 10000) (by rw[Qx2]);rw[this,Tu he,Nat.pow_add];grind,by dsimp only;omega,.inl ⟨by dsimp only;omega,λj w hj hw=>(by
     dsimp only at hw;rcases hq4 with⟨_,h⟩|⟨_,_,h⟩ <;> (rw[Yg (by omega)]at hw;exact h j w (by omega) hw))⟩⟩ (by rw[QR];rfl)
  ·by_cases h3:0<c
   ·have hk:k=(Gj y).length:=by omega
    have hz:∀j v,i+(Gj y).length<=j->o2[j]? = some v->v=0:=by
     rcases hq4 with⟨_,h⟩|⟨_,h,_⟩
     ·exact h
     ·omega
    obtain⟨v,hoi⟩:=gxE (l:=o2) (i:=i+k) (by omega);have hv0:v=0:=hz (i+k) v (by omega) hoi;have hv9:=hq1 v (Qc hoi);refine go tt [.g 25 false Uk,.T,.r 34 (eI (b:=((i+k:Nat):Int)) (by omega)),.i (i+k),.x (Gy hoi),.r 38 (eI (b:=((v+c:Nat):Int)) (by omega)),.F,.r 57 (eI (b:=((i+k:Nat):Int)) (by omega)),.r 59 (eI (b:=(((v+c) % 10000:Nat):Int)) (by rfl)),.i (i+k),.r 62 (eI (b:=(((v+c) / 10000:Nat):Int)) (by rfl))] rfl (by simp[U3,hol,tdn,WM,-Int.natCast_add];omega) ?_;exact rd (k+1,(v+c) / 10000,o2.set (i+k) ((v+c) % 10000)) (by dsimp only;omega) ⟨by dsimp only;rw[List.length_set];exact hq0,hq1.set (Nat.mod_lt _ (by decide)),by
     dsimp only;rw[<-Nat.add_assoc i k 1,Nat.pow_succ];have:=CM hq2 (aZ hoi (u:=(v+c) % 10000)) (s:=0) (q:=(v+c) / 10000) (by rw[Qx2];rfl);rw[this,Nat.mul_zero,Nat.add_zero,I8 (by omega)],by dsimp only;omega,.inr ⟨by dsimp only;omega,by dsimp only;omega,λj w hj hw=>(by
      dsimp only at hw;rw[Yg (by omega)]at hw;exact hz j w (by omega) hw)⟩⟩ (by rw[QR];rfl)
   ·refine Ue [.g 25 false Uk,.F] rfl ?_;exact rd (i+1,o2) (by dsimp only;omega) ⟨by dsimp only;omega,hq0,hq1,by
     dsimp only;rw[Tu hd,X5];have h:=hq2;rw[show c=0 by omega,Qn (l:=Gj y) (i:=k) (by omega),Re]at h;rw[Yl,Xm]at h;exact h,by
     dsimp only;rcases hq4 with⟨_,h⟩|⟨_,_,h⟩
     ·exact λj w hj hw=>h j w (by omega) hw
     ·exact λj w hj hw=>h j w (by omega) hw⟩ rfl
 ·have hv:Tj o=x*y:=by rw[hp3,Qn (by omega),Re]
  have cc:=HB hp2;rw[hv]at cc;exact Uf [.F,.k cc] rfl
theorem eS{x y:Nat}:ZT x y<=0↔x<=y:=by
 unfold ZT;constructor
 ·intro h;split at h
  ·omega
  ·split at h <;> omega
 ·intro h;split
  ·omega
  ·split <;> omega
theorem Qb6{R y lo:Nat}(h1:y*lo<=R)(h2:R<y*(lo+1)):R / y=lo/\R % y=R-y*lo:=by
 have hy:0<y:=by
  rcases Q3 y with h|h
  ·subst h;simp at h2
  ·exact h
 have e:R / y=lo:=Nat.div_eq_of_lt_le (by rw[Zq];exact h1) (by rw[Zq];exact h2);refine⟨e,?_⟩;have:=Xe R y;rw[e]at this;omega
theorem Qk8{R y:Nat}(h:R<y*10000):sz R<=sz y+14:=by
 refine Nt.2 (Z6 h ?_);have:=FR y;rw[Xf];have e:(2:Nat)^14=16384:=by decide
 rw[e];exact Zc (by omega) (by decide)
theorem Qdj(y:Nat):sz (y*10000)<=sz y+14:=by
 refine Nt.2 ?_;have:=FR y;rw[Xf];have e:(2:Nat)^14=16384:=by decide
 rw[e];omega
theorem pE{x y:Nat}(hx:sz x<=90000000)(hy:sz y<=90000000)(hy0:0<y):Uj 153 [.one (nd x),.one (nd y)] [.one (nd (x / y)),.one (nd (x % y))]:=by
 have hxl:=Qa (Mp x) hx;have hyl:=Qa (Mp y) hy;have lx:=UM x;show Uj 153 [.one (.row (Bw (Gj x))),.one (nd y)] _;refine Fv func153 rfl ?_;refine Ue [.i (Bw (Gj x)).length,.i (Bw (Gj x)).length,.z 7,.r 17 (eI (b:=((Gj x).length:Int)-1) (by rw[lx]))] rfl ?_;rw[lx,show List.replicate (Gj x).length [LV.int .i64 0]=Bw (List.replicate (Gj x).length 0) from by simp[Bw]];refine Ui (S:=Nat×Uo×Uo) 1 (λL1 s=>(8,.v (.oi ((s.1:Int)-1)))::(7,.v (.one (.row (Bw s.2.1))))::L1) (λs=>[.row false 3 1 (Bw s.2.2)]) (λs=>s.1) (λs=>s.1<=(Gj x).length/\s.2.2.length=(Gj x).length/\Dg s.2.2/\Tj (s.2.2.drop s.1)=Tj ((Gj x).drop s.1) / y/\s.2.1=Gj (Tj ((Gj x).drop s.1) % y)) ((Gj x).length,[],List.replicate (Gj x).length 0) ⟨Nat.le_refl _,List.length_replicate ..,Dg.zeros _,by dsimp only;rw[List.drop_eq_nil_of_le (by simp),List.drop_eq_nil_of_le (Nat.le_refl _)];simp[Tj],by dsimp only;rw[List.drop_eq_nil_of_le (Nat.le_refl _)];simp[Tj,Hx]⟩ rfl rfl λs hs=>?_
 obtain⟨j,R,o⟩:=s;obtain⟨hp0,hp1,hp2,hp3,hp4⟩:=hs;dsimp only at hp0 hp1 hp2 hp3 hp4 ⊢;cases j with
 |
  zero =>
  have cc:=HB hp2;rw[Xy,Xy,Re]at hp3;rw[Xy,Re]at hp4;rw[hp3]at cc;exact Uf [.f (by simp),.k cc] rfl (by rw[hp4];rfl) trivial
 |
  succ j =>
  obtain⟨d,hd⟩:=gxE (l:=(Gj x)) (i:=j) (by omega);have hd9:=Ck x d (Qc hd);have hdd:=XV hd;obtain⟨hq1,hq2,hq3⟩:=uW (V:=Tj ((Gj x).drop (j+1))) (kd:=y) (d:=d) hy0;rw[<-hdd]at hq1 hq2;have hq3:=hq3 hd9;obtain⟨rr,hrr0⟩:=nmE (Tj ((Gj x).drop (j+1)) % y);have hrr:rr<y:=by rw[hrr0];exact Z4 _ hy0
  rw[<-hrr0]at hp4 hq1 hq2 hq3;subst hp4;have hrl:(Gj rr).length<=(Gj y).length:=XX (by omega);have hR:rr*10000+d<y*10000:=by omega
  have hRs:=Qk8 hR;have hdv:Dg (d::Gj rr):=λz hz=>by
   rcases Qm.1 hz with rfl|hz
   ·exact hd9
   ·exact Ck rr z hz
  have cc:=HB hdv;rw[show Tj (d::Gj rr)=rr*10000+d from by simp only[Tj];rw[Re];omega]at cc;have hol:(Bw o).length=(Gj x).length:=by rw[Ty,hp1]
  have hrrl:=Ty (Gj rr);have ej:((j+1:Nat):Int)-1=(j:Int):=by omega
  rw[ej];refine go tt [.T,.x (Gy hd),.lo,.s (sz:=1) (Qug (Gj rr)),.k cc] rfl (by simp[U3,UM];omega) ?_;refine Ui (S:=Nat×Nat) 2 (λL1 s=>(9,.v (.oi (s.1:Int)))::(10,.v (.oi (s.2:Int)))::L1) (λ_=>[.row false 3 1 (Bw o),.gone]) (λs=>s.2-s.1) (λs=>s.1<=s.2/\s.2<=9999/\y*s.1<=rr*10000+d/\rr*10000+d<y*(s.2+1)) (0,9999) ⟨by decide,by decide,by dsimp only;omega,by dsimp only;omega⟩ rfl rfl λs hs=>?_
  obtain⟨lo,hi⟩:=s;obtain⟨hb0,hb1,hb2,hb3⟩:=hs;dsimp only at hb0 hb1 hb2 hb3 ⊢;by_cases h2:lo<hi
  ·obtain⟨m,hm⟩:=nmE ((lo+hi+1) / 2);have hym:y*m<=y*10000:=Zu y (by omega);have c1:=UG (x:=y) (mu:=m) (c0:=0) (by omega) (by omega) (by omega);have c2:=pC (x:=y*m+0) (y:=rr*10000+d) (Qa (Rh (show _<=y*10000 by omega)) (Qa (Qdj y) (by omega))) (by omega);by_cases h3:y*m+0<=rr*10000+d
   ·refine go tt [.T,.r 35 (eI (b:=((lo+hi:Nat):Int)) (by omega)),.r 36 (eI (b:=((lo+hi+1:Nat):Int)) (by omega)),.r 37 (eI (b:=(m:Int)) (by rw[hm];rfl)),.k c1,.k c2,.t (decide_eq_true (eS.2 h3))] rfl (by simp[U3,WM,-Int.natCast_add];omega) ?_;exact rd (m,hi) (by dsimp only;omega) ⟨by dsimp only;omega,hb1,by dsimp only;omega,hb3⟩ rfl
   ·refine go tt [.T,.r 35 (eI (b:=((lo+hi:Nat):Int)) (by omega)),.r 36 (eI (b:=((lo+hi+1:Nat):Int)) (by omega)),.r 37 (eI (b:=(m:Int)) (by rw[hm];rfl)),.k c1,.k c2,.f (decide_eq_false λh=>h3 (eS.1 h)),.r 46 (eI (b:=((m-1:Nat):Int)) (by omega))] rfl (by simp[U3,WM,-Int.natCast_add];omega) ?_;exact rd (lo,m-1) (by dsimp only;omega) ⟨by dsimp only;omega,by dsimp only;omega,hb2,by dsimp only;rw[show m-1+1=m by omega];omega⟩ rfl
  ·have hlh:lo=hi:=by omega
   have hfd:=Qb6 hb2 (by rw[hlh];exact hb3);have c1:=UG (x:=y) (mu:=lo) (c0:=0) (by omega) (by omega) (by omega);have c2:=mQ (x:=rr*10000+d) (y:=y*lo+0) (by omega) (Qa (Rh (show _<=rr*10000+d by omega)) (by omega)) (by omega);rw[show rr*10000+d-(y*lo+0)=Tj ((Gj x).drop j) % y from by rw[hq2,hfd.2];omega]at c2;refine go tt [.F,.i j,.k c1,.k c2] rfl (by simp[U3,hol,tdn,WM,-Int.natCast_add];omega) ?_;exact rd (j,Gj (Tj ((Gj x).drop j) % y),o.set j lo) (by dsimp only;omega) ⟨by dsimp only;omega,by dsimp only;rw[List.length_set];exact hp1,hp2.set (by omega),by
    dsimp only;rw[HI (by omega)];simp only[Tj];rw[hp3,hq1,hfd.1],rfl⟩ (by rw[QR];rfl)
theorem Qqi{a b:Int}(h:(decide (a<0) == decide (b<0))=true):Fb (decide (a<0)) (a.natAbs+b.natAbs)=a+b:=by
 unfold Fb;by_cases h1:a<0 <;> by_cases h2:b<0 <;> simp[h1,h2]at h ⊢ <;> omega
theorem Qql{a b:Int}(h:¬(decide (a<0) == decide (b<0))=true)(hl:b.natAbs<=a.natAbs):Fb (decide (a<0)) (a.natAbs-b.natAbs)=a+b:=by
 unfold Fb;by_cases h1:a<0 <;> by_cases h2:b<0 <;> simp[h1,h2]at h ⊢ <;> omega
theorem Qkq{a b:Int}(h:¬(decide (a<0) == decide (b<0))=true)(hl:¬b.natAbs<=a.natAbs):Fb (decide (b<0)) (b.natAbs-a.natAbs)=a+b:=by
 unfold Fb;by_cases h1:a<0 <;> by_cases h2:b<0 <;> simp[h1,h2]at h ⊢ <;> omega
theorem YO(a:Int):(∃m:Nat,a=(m:Int))\/∃m:Nat,a=-(m:Int)/\0<m:=by
 rcases Kd a 0 with h|h
 ·exact .inr ⟨a.natAbs,by omega,by omega⟩
 ·exact .inl ⟨a.natAbs,by omega⟩
theorem Qqk(a b:Int):Fb (!(decide (a<0) == decide (b<0))) (a.natAbs*b.natAbs)=a*b:=by
 rcases YO a with⟨m,rfl⟩|⟨m,rfl,hm⟩ <;> rcases YO b with⟨n,rfl⟩|⟨n,rfl,hn⟩
 ·simp[Fb,show ¬((m:Int)<0) by omega,show ¬((n:Int)<0) by omega]
 ·simp[Fb,show ¬((m:Int)<0) by omega,show(-(n:Int)<0) by omega,hn,V7]
 ·simp[Fb,show(-(m:Int)<0) by omega,show ¬((n:Int)<0) by omega,hm,Ko]
 ·simp[Fb,show(-(m:Int)<0) by omega,show(-(n:Int)<0) by omega,hm,hn,W8]
theorem Qqj{a b:Int}(h:a % b=0):Fb (!(decide (a<0) == decide (b<0))) (a.natAbs / b.natAbs)=a / b:=by
 by_cases hb:b=0
 ·subst hb;simp[Fb]
 obtain⟨c,rfl⟩:=Vf h;rw[Je _ hb,J9,Nat.mul_div_cancel_left _ (by omega)];rcases YO b with⟨n,rfl⟩|⟨n,rfl,hn⟩ <;> rcases YO c with⟨m,rfl⟩|⟨m,rfl,hm⟩
 ·have:¬((n:Int)*(m:Int)<0):=by rw[<-Vi];omega
  simp[Fb,this,show ¬((n:Int)<0) by omega]
 ·have h1:0<n*m:=J5 (by omega) hm;have:((n:Int)*-(m:Int)<0):=by rw[V7,<-Vi];omega
  simp only[this,show ¬((n:Int)<0) by omega];simp[Fb]
 ·by_cases h0:m=0
  ·subst h0;simp[Fb]
  ·have h1:0<n*m:=J5 hn (by omega);have:(-(n:Int)*(m:Int)<0):=by rw[Ko,<-Vi];omega
   simp only[this,show(-(n:Int)<0) by omega];simp[Fb]
 ·have:¬(-(n:Int)*-(m:Int)<0):=by rw[W8,<-Vi];omega
  simp only[this,show(-(n:Int)<0) by omega];simp[Fb]
theorem eH{x y:Nat}:0<=ZT x y↔y<=x:=by
 unfold ZT;constructor
 ·intro h;split at h
  ·omega
  ·omega
 ·intro h;split
  ·omega
  ·split <;> omega
theorem CU{x e:Nat}(h:(Gj x).length=1)(he:(Gj x)[0]? = some e):x=e:=by
 rcases hd:Gj x with _|⟨u,l⟩
 ·rw[hd]at h;cases h
 ·rcases l with _|⟨w,l⟩
  ·rw[hd]at he;simp at he;have:=Re x;rw[hd]at this;simp[Tj]at this;omega
  ·rw[hd]at h;simp at h
theorem nZ{a b:Int}(hb:0<b):ri (a / ((Int.gcd a b:Nat):Int))++ri (b / ((Int.gcd a b:Nat):Int))=fr (Rat.divInt a b):=by
 obtain⟨h1,h2⟩:=iV (n:=a) hb;rw[Lc,Int.gcd_comm]at h1 h2;rw[h1,h2]
theorem nX(a:Int):ri a++ri 1=fr (Rat.divInt a 1):=by
 have h:=nZ (a:=a) (b:=1) (by decide);rw[show((Int.gcd a 1:Nat):Int)=1 by simp]at h;simpa using h
theorem OC{a b:Int}(hb:b≠0)(ha2:Fe a<=90000000)(hb2:Fe b<=90000000):Fe ((Int.gcd a b:Nat):Int)<=90000000/\((Int.gcd a b:Nat):Int)≠0/\a % ((Int.gcd a b:Nat):Int)=0/\b % ((Int.gcd a b:Nat):Int)=0:=by
 have h1:=aB (n:=a) hb hb2;have h2:=fZ (n:=a) hb;have h3:=DT a b;have h4:=DN a b;rw[Lc,Int.gcd_comm]at h1 h2 h3 h4;exact⟨h1,by omega,h3,h4⟩
theorem zQ{a b:Int}(h:b<0):Gi a b=Rat.divInt (-a) (-b):=by
 unfold Gi;rw[if_neg (by omega)];exact(Rat.neg_divInt_neg a b).symm
theorem zZ{a b:Int}(h:0<b):Gi a b=Rat.divInt a b:=by
 unfold Gi;rw[if_neg (by omega)]
theorem IY(a b:Rat):Gi (a.num*(b.den:Int)+b.num*(a.den:Int)) ((a.den:Int)*(b.den:Int))=a+b:=by
 unfold Gi;rw[if_neg (Jh (Dm a) (Dm b)),<-Rat.divInt_add_divInt _ _ (Dm a) (Dm b),Z5,Z5]
theorem qW(a b:Rat):Gi (a.num*b.num) ((a.den:Int)*(b.den:Int))=a*b:=by
 unfold Gi;rw[if_neg (Jh (Dm a) (Dm b)),<-Rat.divInt_mul_divInt,Z5,Z5]
theorem qO{a b:Rat}(h:b≠0):Gi (a.num*(b.den:Int)) ((a.den:Int)*b.num)=a / b:=by
 have hn:b.num≠0:=λe=>h (Rat.num_eq_zero.1 e)
 unfold Gi;rw[if_neg (Jh (Dm a) hn),<-Rat.divInt_mul_divInt,Z5,J6];congr 1
 conv=>rhs;rw[<-Z5 b,Rat.inv_divInt]
theorem Qvv{s:Nat}{a b:Rat}(ha:Qs s a)(hb:Qs s b):Qs (2*s+1) (a+b):=by
 rw[<-IY];unfold Gi;rw[if_neg (Jh (Dm a) (Dm b))];refine Qs.divInt (Qa (QB _ _) ?_) (Qa (Ga _ _) (by have:=ha.2;have:=hb.2;omega)) (by omega);have h1:=Ga a.num (b.den:Int);have h2:=Ga b.num (a.den:Int);have:=ha.1;have:=ha.2;have:=hb.1;have:=hb.2;omega
theorem mJ{a b:Int}(ha:Fe a<=200000000)(hb:Fe b<=200000000):Uj 68 [.agg (ri a),.agg (ri b)] [.agg (ri (a+b))]:=by
 by_cases hs:(decide (a<0) == decide (b<0))=true
 ·have cm:=Nw (decide (a<0)) (a.natAbs+b.natAbs);rw[Qqi hs]at cm;exact Ug func68 rfl [.t hs,.k (Qs9 ha hb),.k cm] rfl
 ·have hs':(decide (a<0) == decide (b<0))=false:=by simpa using hs
  by_cases hl:b.natAbs<=a.natAbs
  ·have cm:=Nw (decide (a<0)) (a.natAbs-b.natAbs);rw[Qql hs hl]at cm;exact Ug func68 rfl [.f hs',.k (pC ha hb),.t (decide_eq_true (eH.2 hl)),.k (mQ ha hb hl),.k cm] rfl
  ·have cm:=Nw (decide (b<0)) (b.natAbs-a.natAbs);rw[Qkq hs hl]at cm;exact Ug func68 rfl [.f hs',.k (pC ha hb),.f (decide_eq_false λh=>hl (eH.1 h)),.k (mQ hb ha (by omega)),.k cm] rfl
theorem Qfx{a b:Int}(ha:Fe a<=200000000)(hb:Fe b<=200000000):Uj 112 [.agg (ri a),.agg (ri b)] [.agg (ri (a-b))]:=by
 have ca:=mJ (a:=a) (b:=-b) ha (by rw[Hm];exact hb);rw[show a+-b=a-b from by omega]at ca;exact Ug func112 rfl [.k (QK (z:=b)),.k ca] rfl
theorem Af{a b:Int}(ha:Fe a<=200000000)(hb:Fe b<=200000000):Uj 66 [.agg (ri a),.agg (ri b)] [.agg (ri (a*b))]:=by
 have cm:=Nw (!(decide (a<0) == decide (b<0))) (a.natAbs*b.natAbs);rw[Qqk]at cm;exact Ug func66 rfl [.k (Qtk ha hb),.k cm] rfl
theorem BB{a b:Int}(ha:Fe a<=90000000)(hb:Fe b<=90000000)(h0:b≠0)(hd:a % b=0):Uj 107 [.agg (ri a),.agg (ri b)] [.agg (ri (a / b))]:=by
 have cm:=Nw (!(decide (a<0) == decide (b<0))) (a.natAbs / b.natAbs);rw[Qqj hd]at cm;exact Ug func107 rfl [.k (pE ha hb (by omega)),.k cm] rfl
theorem Qvz(x:Nat):ri ((x:Nat):Int)=[nd x,.bool false]:=by
 unfold ri sg;rw[Xh,decide_eq_false (by omega)]
theorem xE{a b:Int}(ha:Fe a<=90000000)(hb:Fe b<=90000000):Uj 106 [.agg (ri a),.agg (ri b)] [.agg (ri ((Int.gcd a b:Nat):Int))]:=by
 rw[Qvz];refine Fv func106 rfl ?_;refine Ud [] rfl ?_;refine Ui (S:=Nat×Nat) 3 (λL1 s=>(5,.v (.one (nd s.1)))::(6,.v (.one (nd s.2)))::L1) (λ_=>[.blk 59 (ri a),.blk 59 (ri b),.blk 59 [.nils,.bool false]]) (λs=>s.2) (λs=>Nat.gcd s.1 s.2=Int.gcd a b/\sz s.1<=90000000/\sz s.2<=90000000) (a.natAbs,b.natAbs) ⟨rfl,ha,hb⟩ rfl rfl λs hs=>?_
 obtain⟨x,y⟩:=s;obtain⟨hp0,hp1,hp2⟩:=hs;dsimp only at hp0 hp1 hp2 ⊢;have hyn:=MS (x:=y);have hyl:=UM y;by_cases h1:y=0
 ·have e:Int.gcd a b=x:=by rw[<-hp0,h1,Nat.gcd_zero_right]
  rw[e];exact Uf [.f (by simp only[Ty];exact decide_eq_false (by omega))] rfl
 ·have hlt:=Z4 x (show 0<y by omega);refine Ud [.t (by simp only[Ty];exact decide_eq_true (by omega)),.k (pE hp1 hp2 (by omega))] rfl ?_;exact rd (y,x % y) (by dsimp only;omega) ⟨by dsimp only;rw[<-hp0,Nat.gcd_comm x y,Nat.gcd_rec y x,Nat.gcd_comm],hp2,Nat.le_trans (Rh (by dsimp only;omega)) hp2⟩ rfl
theorem YV{a b:Int}(ha:Fe a<=90000000)(hb:Fe b<=90000000):Uj 62 [.agg (ri a),.agg (ri b)] [.agg (fr (Gi a b))]:=by
 rcases Km b 0 with hs|hs|hs
 ·skip
  by_cases h1:-b=1
  ·have h0:(Bw (Gj (-b).natAbs))[0]? = some [LV.int .i64 1]:=by rw[h1,show(1:Int).natAbs=1 from rfl,Ig];rfl
   have hl1:decide (((Bw (Gj (-b).natAbs)).length:Int)=1)=true:=by rw[h1,show(1:Int).natAbs=1 from rfl,Ig];rfl
   have e:fr (Gi a b)=ri (-a)++ri (-b):=by rw[zQ hs,h1];exact(nX _).symm
   rw[e];exact Ug func62 rfl [.k (Dw (z:=b)),.F,.t (decide_eq_true hs),.k (QK (z:=a)),.k (QK (z:=b)),.g 19 true hl1,.x h0,.t rfl] rfl
  ·have hgf:=OC (a:=-a) (b:=-b) (by omega) (by first|exact ha|(rw[Hm];exact ha)) (by first|exact hb|(rw[Hm];exact hb));have cg:=xE (a:=-a) (b:=-b) (by first|exact ha|(rw[Hm];exact ha)) (by first|exact hb|(rw[Hm];exact hb));have q1:=BB (a:=-a) (b:=((Int.gcd (-a) (-b):Nat):Int)) (by first|exact ha|(rw[Hm];exact ha)) hgf.1 hgf.2.1 hgf.2.2.1;have q2:=BB (a:=-b) (b:=((Int.gcd (-a) (-b):Nat):Int)) (by first|exact hb|(rw[Hm];exact hb)) hgf.1 hgf.2.1 hgf.2.2.2;have e:fr (Gi a b)=ri ((-a) / ((Int.gcd (-a) (-b):Nat):Int))++ri ((-b) / ((Int.gcd (-a) (-b):Nat):Int)):=by rw[zQ hs];exact(nZ (by omega)).symm
   rw[e];have hl:=UM (-b).natAbs;by_cases hl1:(Gj (-b).natAbs).length=1
   ·obtain⟨u,hu⟩:=gxE (l:=(Gj (-b).natAbs)) (i:=0) (by omega);have hue:=CU hl1 hu;exact Ug func62 rfl [.k (Dw (z:=b)),.F,.t (decide_eq_true hs),.k (QK (z:=a)),.k (QK (z:=b)),.g 19 true (by simp only[Ty];exact decide_eq_true (by omega)),.x (Gy hu),.F,.k cg,.k q1,.k q2] rfl
   ·exact Ug func62 rfl [.k (Dw (z:=b)),.F,.t (decide_eq_true hs),.k (QK (z:=a)),.k (QK (z:=b)),.g 19 false (by simp only[Ty];exact decide_eq_false (by omega)),.f rfl,.k cg,.k q1,.k q2] rfl
 ·subst hs;have h0:(Bw (Gj (1:Int).natAbs))[0]? = some [LV.int .i64 1]:=by rw[show(1:Int).natAbs=1 from rfl,Ig];rfl
  have h1:decide (((Bw (Gj (1:Int).natAbs)).length:Int)=1)=true:=by rw[show(1:Int).natAbs=1 from rfl,Ig];rfl
  have e:fr (Gi a 0)=ri a++ri 1:=(nX a).symm;rw[e];exact Ug func62 rfl [.k (Dw (z:=0)),.t rfl,.k (ZA (n:=1) (by decide)),.f rfl,.g 19 true h1,.x h0,.t rfl] rfl
 ·skip
  by_cases h1:b=1
  ·have h0:(Bw (Gj (b).natAbs))[0]? = some [LV.int .i64 1]:=by rw[h1,show(1:Int).natAbs=1 from rfl,Ig];rfl
   have hl1:decide (((Bw (Gj (b).natAbs)).length:Int)=1)=true:=by rw[h1,show(1:Int).natAbs=1 from rfl,Ig];rfl
   have e:fr (Gi a b)=ri (a)++ri (b):=by rw[zZ hs,h1];exact(nX _).symm
   rw[e];exact Ug func62 rfl [.k (Dw (z:=b)),.F,.F,.g 19 true hl1,.x h0,.t rfl] rfl
  ·have hgf:=OC (a:=a) (b:=b) (by omega) (by first|exact ha|(rw[Hm];exact ha)) (by first|exact hb|(rw[Hm];exact hb));have cg:=xE (a:=a) (b:=b) (by first|exact ha|(rw[Hm];exact ha)) (by first|exact hb|(rw[Hm];exact hb));have q1:=BB (a:=a) (b:=((Int.gcd (a) (b):Nat):Int)) (by first|exact ha|(rw[Hm];exact ha)) hgf.1 hgf.2.1 hgf.2.2.1;have q2:=BB (a:=b) (b:=((Int.gcd (a) (b):Nat):Int)) (by first|exact hb|(rw[Hm];exact hb)) hgf.1 hgf.2.1 hgf.2.2.2;have e:fr (Gi a b)=ri ((a) / ((Int.gcd (a) (b):Nat):Int))++ri ((b) / ((Int.gcd (a) (b):Nat):Int)):=by rw[zZ hs];exact(nZ (by omega)).symm
   rw[e];have hl:=UM (b).natAbs;by_cases hl1:(Gj (b).natAbs).length=1
   ·obtain⟨u,hu⟩:=gxE (l:=(Gj (b).natAbs)) (i:=0) (by omega);have hue:=CU hl1 hu;exact Ug func62 rfl [.k (Dw (z:=b)),.F,.F,.g 19 true (by simp only[Ty];exact decide_eq_true (by omega)),.x (Gy hu),.F,.k cg,.k q1,.k q2] rfl
   ·exact Ug func62 rfl [.k (Dw (z:=b)),.F,.F,.g 19 false (by simp only[Ty];exact decide_eq_false (by omega)),.f rfl,.k cg,.k q1,.k q2] rfl
theorem Qxp{n d:Int}(hn:-1000000000<=n/\n<=1000000000)(hd:-1000000000<=d/\d<=1000000000):Uj 20 [.oi n,.oi d] [.agg (fr (Gi n d))]:=by
 have b1:Fe n<=90000000:=Qa (Sw.2 (show n.natAbs<2^40 by omega)) (by decide);have b2:Fe d<=90000000:=Qa (Sw.2 (show d.natAbs<2^40 by omega)) (by decide);exact Ug func20 rfl [.k (ZA (by omega)),.k (ZA (by omega)),.k (YV b1 b2)] rfl
theorem Qtm{a:Rat}:Uj 186 [.agg (fr a)] [.agg (fr (-a))]:=by
 have e:fr (-a)=ri (-a.num)++ri (a.den:Int):=rfl;rw[e];exact Ug func186 rfl [.k (QK (z:=a.num))] rfl
theorem pN{a b:Rat}(ha:Qs 20000000 a)(hb:Qs 20000000 b):Uj 25 [.agg (fr a),.agg (fr b)] [.agg (fr (a+b))]:=by
 have k1:=Ga a.num (b.den:Int);have k2:=Ga b.num (a.den:Int);have k3:=Ga (a.den:Int) (b.den:Int);have k4:=QB (a.num*(b.den:Int)) (b.num*(a.den:Int));have h1:=ha.1;have h2:=ha.2;have h3:=hb.1;have h4:=hb.2;have cm:=YV (a:=a.num*(b.den:Int)+b.num*(a.den:Int)) (b:=(a.den:Int)*(b.den:Int)) (by omega) (by omega);rw[IY]at cm;exact Ug func25 rfl [.k (Af (a:=a.num) (b:=(b.den:Int)) (by omega) (by omega)),.k (Af (a:=b.num) (b:=(a.den:Int)) (by omega) (by omega)),.k (mJ (by omega) (by omega)),.k (Af (a:=(a.den:Int)) (b:=(b.den:Int)) (by omega) (by omega)),.k cm] rfl
theorem Qey{a b:Rat}(ha:Qs 40000000 a)(hb:Qs 40000000 b):Uj 262 [.agg (fr a),.agg (fr b)] [.agg (fr (a*b))]:=by
 have k1:=Ga a.num b.num;have k3:=Ga (a.den:Int) (b.den:Int);have h1:=ha.1;have h2:=ha.2;have h3:=hb.1;have h4:=hb.2;have cm:=YV (a:=a.num*b.num) (b:=(a.den:Int)*(b.den:Int)) (by omega) (by omega);rw[qW]at cm;exact Ug func262 rfl [.k (Af (a:=a.num) (b:=b.num) (by omega) (by omega)),.k (Af (a:=(a.den:Int)) (b:=(b.den:Int)) (by omega) (by omega)),.k cm] rfl
theorem pA{a b:Rat}(ha:Qs 40000000 a)(hb:Qs 40000000 b)(h0:b≠0):Uj 289 [.agg (fr a),.agg (fr b)] [.agg (fr (a / b))]:=by
 have k1:=Ga a.num (b.den:Int);have k3:=Ga (a.den:Int) b.num;have h1:=ha.1;have h2:=ha.2;have h3:=hb.1;have h4:=hb.2;have cm:=YV (a:=a.num*(b.den:Int)) (b:=(a.den:Int)*b.num) (by omega) (by omega);rw[qO h0]at cm;exact Ug func289 rfl [.k (Af (a:=a.num) (b:=(b.den:Int)) (by omega) (by omega)),.k (Af (a:=(a.den:Int)) (b:=b.num) (by omega) (by omega)),.k cm] rfl
end Orr
namespace Orr
def Df:Up->Up
 | []=>[]
 |
  x::l=>match Df l with
  | []=>if x=0 then []else [x]
  |y::k=>x::y::k
theorem JP:∀{l:Up},(∀x∈l,x=0)->Df l=[]
 | [],_=>rfl
 |
  x::l,h=>by
  have ih:=JP (l:=l) (λy hy=>h y (Qg _ hy));simp[Df,ih,h x (Qy ..)]
theorem EP:∀{l:Up} {m:Nat} {y:Rat},(∀j x,m<j->l[j]? = some x->x=0)->l[m]? = some y->y≠0->Df l=l.take (m+1)
 | [],m,y,_,h,_=>by simp at h
 |
  x::l,0,y,h1,h2,h3=>by
  have h0:Df l=[]:=JP λz hz=>by
   obtain⟨j,hj⟩:=Zk.1 hz;exact h1 (j+1) z (by omega) (by simpa using hj)
  simp at h2;subst h2;simp[Df,h0,h3]
 |
  x::l,m+1,y,h1,h2,h3=>by
  have ih:=EP (l:=l) (m:=m) (y:=y) (λj z hj hz=>h1 (j+1) z (by omega) (by simpa using hz)) (by simpa using h2) h3;cases hl:l with
  |nil=>subst hl;simp at h2
  |
   cons u k =>
   subst hl;rw[Ve]at ih;simp only[Df]at ih ⊢;rw[ih];simp
theorem zU{l:Up}{m:Nat}(hm:m<=l.length)(h1:∀j x,m<=j->l[j]? = some x->x=0)(h2:0<m->∃y,l[m-1]? = some y/\y≠0):Df l=l.take m:=by
 rcases Q3 m with h0|h0
 ·subst h0;rw[JP λz hz=>?_];rfl;obtain⟨j,hj⟩:=Zk.1 hz;exact h1 j z (by omega) hj
 ·obtain⟨y,hy,hy0⟩:=h2 h0;have:=EP (l:=l) (m:=m-1) (y:=y) (λj x hj hx=>h1 j x (by omega) hx) hy hy0;rwa[show m-1+1=m from by omega]at this
theorem zG:∀(l:Up),∀z∈Df l,z∈l
 | [],z,h=>h
 |
  x::l,z,h=>by
  simp only[Df]at h;have ih:=zG l
  split at h
  ·split at h
   ·cases h
   ·simp at h;simp[h]
  ·rename_i y k e;rw[e]at ih;rcases Qm.1 h with h|h
   ·simp[h]
   ·exact Qg _ (ih z h)
theorem zF:∀(l:Up),(Df l).length<=l.length
 | []=>Ql _
 |
  x::l=>by
  have ih:=zF l;simp only[Df]
  split
  ·split <;> simp
  ·rename_i y k e;rw[e]at ih;simp at ih ⊢;omega
def zp(p:Um):Up:=p.map λ(z:Int)=>(z:Rat)
theorem Ex:∀(p:Um),Df (zp p)=zp (trim p)
 | []=>rfl
 |
  x::l=>by
  have ih:=Ex l;unfold zp at ih ⊢;simp only[Z0,Df,trim,ih];cases h:trim l with
  |
   nil =>
   simp only[X8];by_cases hx:x=0
   ·subst hx;simp
   ·have:(x:Rat)≠0:=λe=>hx (by exact_mod_cast e)
    simp[hx,this]
  |cons y k=>simp
theorem A3(p:Um):(zp p).length=p.length:=Q8 _
theorem Qw0{p:Um}{i:Nat}{z:Int}(h:p[i]? = some z):(zp p)[i]? = some (z:Rat):=by simp[zp,h]
theorem NP(p:Um)(i:Nat):(zp p).getD i 0=((p.getD i 0:Int):Rat):=by
 simp only[Qi,zp,Q9];cases p[i]? <;> rfl
def Rb(s:Nat)(p:Up):Prop:=∀q∈p,Qs s q
theorem Rb.mono{s t:Nat}{p:Up}(h:Rb s p)(ht:s<=t):Rb t p:=λq hq=>(h q hq).mono ht
theorem Rb.get{s:Nat}{p:Up}(h:Rb s p){i:Nat}{q:Rat}(hq:p[i]? = some q):Qs s q:=h q (Qc hq)
theorem Aw{s:Nat}{z:Int}(h:Fe z<=s)(h1:1<=s):Qs s (z:Rat):=⟨by simpa using h,Qa (show Fe ((1:Nat):Int)<=1 by decide) h1⟩
theorem zX{s:Nat}{p:Um}(h:Bd s p)(h1:1<=s):Rb s (zp p):=λq hq=>by
 obtain⟨z,hz,rfl⟩:=Za.1 hq;exact Aw (h z hz) h1
theorem Qp1{s:Nat}(h1:1<=s):Qs s 0:=Aw (z:=0) (by simp[Ni]) h1
theorem Rb.getD{s:Nat}{p:Up}(h:Rb s p)(h1:1<=s)(i:Nat):Qs s (p.getD i 0):=by
 rw[Qi];cases e:p[i]? with
 |none=>exact Qp1 h1
 |some q=>exact h.get e
theorem Rb.trim{s:Nat}{p:Up}(h:Rb s p):Rb s (Df p):=λq hq=>h q (zG p q hq)
def VP(f:Nat->Rat)(n:Nat):Up:=(List.range n).map f
theorem EA(f:Nat->Rat)(n:Nat):(VP f n).length=n:=by simp[VP]
theorem zB(f:Nat->Rat)(n:Nat):VP f (n+1)=VP f n++[f n]:=by simp[VP,Wb]
theorem Qqt{s n:Nat}{f:Nat->Rat}(h:∀i,i<n->Qs s (f i)):Rb s (VP f n):=λq hq=>by
 obtain⟨i,hi,rfl⟩:=Za.1 hq;exact h i (Kj.1 hi)
theorem vS{f:Nat->Rat}{g:Nat->Int}(n:Nat)(h:∀i,i<n->f i=(g i:Rat)):VP f n=zp ((List.range n).map g):=by
 simp only[VP,zp,List.map_map];exact Xq λi hi=>h i (Kj.1 hi)
def Qc9(p q:Up):Up:=Df (VP (λi=>p.getD i 0+q.getD i 0) (max p.length q.length))
def QO(p:Up)(c:Rat):Up:=Df (VP (λi=>p.getD i 0*c) p.length)
def vW(p:Up):Up:=QO p (-1)
def Qsk(p q:Up):Up:=Qc9 p (vW q)
theorem Qp3(p q:Um):Qc9 (zp p) (zp q)=zp (A5 p q):=by
 unfold Qc9 A5 A4;rw[vS (g:=λk=>p.getD k 0+q.getD k 0) _ λi _=>by rw[NP,NP,Kc],Ex,A3,A3]
theorem zK(p:Um)(c:Int):QO (zp p) (c:Rat)=zp (Fw p c):=by
 unfold QO Fw A4;rw[vS (g:=λk=>p.getD k 0*c) _ λi _=>by rw[NP,X1],Ex,A3]
theorem bL(p:Um):Fw p (-1)=Mv p:=by
 unfold Fw Mv A4;congr 2;funext k;omega
theorem oI(p:Um):vW (zp p)=zp (Mv p):=by
 rw[<-bL,<-zK];rfl
theorem uB{p q:Um}(hp:Ff p)(hq:Ff q)(h:∀k,p.getD k 0=q.getD k 0):p=q:=by
 have key:∀{p q:Um},Ff q->(∀k,p.getD k 0=q.getD k 0)->q.length<=p.length:=by
  intro p q hq h;rcases Zb p.length q.length with h1|h1
  ·have h2:=H8 hq (by omega);rw[<-h,Qi,Qw (by omega)]at h2;exact(h2 rfl).elim
  ·exact h1
 exact CO (Kb (key hp λk=>(h k).symm) (key hq h)) λj _=>h j
theorem mE{n m:Nat}{f g:Nat->Int}(hn:n<=m)(h:∀k,k<n->f k=g k)(h0:∀k,n<=k->k<m->g k=0):A4 n f=A4 m g:=by
 refine uB (Fy _ _) (Fy _ _) λk=>?_
 rw[Pd,Pd];by_cases h1:k<n
 ·rw[if_pos h1,if_pos (by omega),h k h1]
 ·rw[if_neg h1];by_cases h2:k<m
  ·rw[if_pos h2,h0 k (by omega) h2]
  ·rw[if_neg h2]
theorem Qqb(p q:Um):Qsk (zp p) (zp q)=zp (Na p q):=by
 unfold Qsk;rw[oI,Qp3];congr 1;have hl:=XD q;unfold A5 Na;refine mE (by omega) (λk _=>?_) λk h1 h2=>?_
 ·unfold Mv;rw[Pd]
  split
  ·omega
  ·rename_i h;have:q.getD k 0=0:=by rw[Qi,Qw (by omega)];rfl
   omega
 ·have h3:p.getD k 0=0:=by rw[Qi,Qw (by omega)];rfl
  have h4:(Mv q).getD k 0=0:=by rw[Qi,Qw (by omega)];rfl
  unfold Mv at h4;rw[Pd]at h4
  split at h4
  ·omega
  ·have:q.getD k 0=0:=by rw[Qi,Qw (by omega)];rfl
   omega
end Orr
namespace Orr
open Go Go.Proofs Tryz
set_option maxRecDepth 10000
def frow(p:Up):Us:=p.map fr
theorem Cm(p:Up):(frow p).length=p.length:=by simp[frow]
theorem XU{p:Up}{i:Nat}{q:Rat}(h:p[i]? = some q):(frow p)[i]? = some (fr q):=G5 h
theorem OM(p:Up)(q:Rat):frow (p++[q])=frow p++[fr q]:=by simp[frow]
theorem Qcg(p:Up):∀c∈frow p,c.length=4:=λc hc=>by obtain⟨x,_,rfl⟩:=Za.1 hc;rfl
abbrev rp(p:Up):LV:=.row (frow p)
theorem Qc0(q:Rat):∀c∈[fr q],c.length=4:=λc hc=>by rw[Qk.1 hc];rfl
theorem Qfw:Uj 288 [] [.agg (fr 0)]:=Ug func288 rfl [.k (KF (n:=0) (by decide))] rfl
theorem KR{p:Up}:Uj 263 [.one (rp p)] [.one (rp (Df p))]:=by
 refine Fv func263 rfl (ln 0 rfl rfl λhl=>?_);rw[Cm]at hl;have hpl:=Cm p;refine Ud [] rfl ?_;refine lp (S:=Nat) 0 (λL1 n=>(3,.v (.oi n))::L1) (λ_=>[]) id (λn=>n<=p.length/\∀j x,n<=j->p[j]? = some x->x=0) (frow p).length ⟨by rw[hpl];exact Ql _,λj x h1 h2=>by
  have:=(Qf.1 h2).1;rw[hpl]at h1;omega⟩ rfl (λ_ _=>rfl) rfl λn hs=>?_
 obtain⟨h1,h2⟩:=hs;cases n with
 |
  zero =>
  have e:=zU h1 (λj x h=>h2 j x h) (λh=>absurd h (by decide));exact Uf [.g 8 false (by simp),.f rfl,.i 0] rfl (by rw[e];rfl) (by simp[U3])
 |
  succ n =>
  obtain⟨x,hx⟩:=gxE (l:=p) (i:=n) (by omega);have hn:=Rat.num_eq_zero (q:=x);by_cases h0:x=0
  ·refine Ue [.g 8 true (by simp),.r 11 (eI (b:=(n:Int)) (by simp)),.x (XU hx),.k (Dw (z:=x.num)),.t (decide_eq_true (hn.2 h0)),.r 18 (eI (b:=(n:Int)) (by simp))] rfl ?_;exact rd n (by simp) ⟨by omega,λj y h3 h4=>by
    rcases Vk h3 with rfl|h3
    ·rw[hx]at h4;injection h4 with h4;rw[<-h4,h0]
    ·exact h2 j y h3 h4⟩ rfl
  ·have e:=zU h1 (λj x h=>h2 j x h) (λ_=>⟨x,hx,h0⟩);exact Uf [.g 8 true (by simp),.r 11 (eI (b:=(n:Int)) (by simp)),.x (XU hx),.k (Dw (z:=x.num)),.f (decide_eq_false λh=>h0 (hn.1 h)),.i (n+1)] rfl (by rw[e];simp[rp,frow,Jv]) (by simp[U3,hpl] <;> omega)
theorem Qrs{p:Up}{i:Nat}(hi:i<1099511627776):Uj 265 [.one (rp p),.oi i] [.agg (fr (p.getD i 0))]:=by
 have hpl:=Cm p;by_cases h:i<p.length
 ·have e:p.getD i 0=p[i]:=by rw[Qi,Qe h];rfl
  rw[e];exact Ug func265 rfl [.g 7 false Uk,.F,.x (XU (Qe h))] rfl
 ·have e:p.getD i 0=0:=by rw[Qi,Qw (by omega)];rfl
  rw[e];exact Ug func265 rfl [.g 7 false Uk,.T,.k Qfw] rfl
theorem Qga:Uj 258 [.one (ids [1])] [.one (rp (zp [1]))]:=by
 have cc:=KR (p:=zp [1]);rw[Ex,show trim [1]=[1] from rfl]at cc;refine Fv func258 rfl ?_;refine Ud [.o 3 61 4] rfl ?_;refine Ui (S:=Nat) 1 (λL1 i=>(7,.v (.oi i))::(3,.v (.one (.orow 0 4 none)))::L1) (λi=>[.row false 61 4 (frow ((zp [1]).take i))]) (λi=>1-i) (λi=>i<=1) 0 (by decide) rfl rfl λi hi=>?_
 rcases(show i=0\/i=1 by omega)with rfl|rfl
 ·refine go tt [.t rfl,.x (l:=idl [1]) (i:=0) (xs:=[.int .i64 1]) rfl,.k (KF (n:=1) (by decide)),.s (sz:=4) (Qc0 _)] rfl (by simp[U3,frow]) ?_;exact rd 1 (by omega) (by omega) rfl
 ·exact Uf [.f rfl,.k cc] rfl
theorem Qt0{p q:Up}(hp:Rb 20000000 p)(hq:Rb 20000000 q)(hlp:p.length<=1000000)(hlq:q.length<=1000000):Uj 232 [.one (rp p),.one (rp q)] [.one (rp (Qc9 p q))]:=by
 have h1:=Cm p;have h2:=Cm q;obtain⟨M,hM⟩:=nmE (max p.length q.length);have cc:=KR (p:=VP (λi=>p.getD i 0+q.getD i 0) M);unfold Qc9;rw[<-hM];refine Fv func232 rfl ?_;refine Ud [.o 5 61 4] rfl ?_;refine Ui (S:=Nat) 1 (λL1 i=>(6,.v (.oi i))::(5,.v (.one (.orow 0 4 none)))::L1) (λi=>[.row false 61 4 (frow (VP (λi=>p.getD i 0+q.getD i 0) i))]) (λi=>M-i) (λi=>i<=M) 0 (Qh _) rfl rfl λi hi=>?_
 have hol:(frow (VP (λi=>p.getD i 0+q.getD i 0) i)).length=i:=by rw[Cm,EA]
 by_cases h:i<M
 ·refine go tt [.r 12 (eI (b:=(M:Int)) (by omega)),.T,.k (Qrs (p:=p) (i:=i) (by omega)),.k (Qrs (p:=q) (i:=i) (by omega)),.k (pN (hp.getD (by decide) i) (hq.getD (by decide) i)),.s (sz:=4) (Qc0 _)] rfl (by simp[U3,hol,-List.getD_eq_getElem?_getD];omega) ?_;exact rd (i+1) (by omega) h (by rw[zB,OM];rfl)
 ·have e:i=M:=by omega
  rw[e];exact Uf [.r 12 (eI (b:=(M:Int)) (by omega)),.F,.k cc] rfl
theorem BL{p:Up}{c:Rat}(hp:Rb 40000000 p)(hc:Qs 40000000 c)(hlp:p.length<=1000000):Uj 264 [.one (rp p),.agg (fr c)] [.one (rp (QO p c))]:=by
 have h1:=Cm p;have cc:=KR (p:=VP (λi=>p.getD i 0*c) p.length);unfold QO;refine Fv func264 rfl ?_;refine Ud [.o 5 61 4] rfl ?_;refine Ui (S:=Nat) 2 (λL1 i=>(9,.v (.oi i))::(5,.v (.one (.orow 1 4 none)))::L1) (λi=>[.blk 61 (fr c),.row false 61 4 (frow (VP (λi=>p.getD i 0*c) i))]) (λi=>p.length-i) (λi=>i<=p.length) 0 (Qh _) rfl rfl λi hi=>?_
 have hol:(frow (VP (λi=>p.getD i 0*c) i)).length=i:=by rw[Cm,EA]
 by_cases h:i<p.length
 ·have hg:p[i]? = some (p.getD i 0):=by rw[Qi,Qe h];rfl
  refine go tt [.T,.x (XU hg),.k (Qey (hp.getD (by decide) i) hc),.s (sz:=4) (Qc0 _)] rfl (by simp[U3,hol,-List.getD_eq_getElem?_getD];omega) ?_;exact rd (i+1) (by omega) h (by rw[zB,OM];rfl)
 ·have e:i=p.length:=by omega
  rw[e];exact Uf [.F,.k cc] rfl
theorem Qf9{p:Up}(hp:Rb 40000000 p)(hlp:p.length<=1000000):Uj 230 [.one (rp p)] [.one (rp (vW p))]:=by
 have cs:=BL (p:=p) (c:=-1) hp ⟨by decide,by decide⟩ hlp;have co:=KF (n:=-1) (by decide);rw[show((-1:Int):Rat)=-1 from rfl]at co;exact Ug func230 rfl [.k co,.k cs] rfl
theorem Qpz{s t:Nat}{a b:Rat}(ha:Qs s a)(hb:Qs t b):Qs (s+t+1) (a*b):=by
 rw[<-qW];unfold Gi;rw[if_neg (Jh (Dm a) (Dm b))];have h1:=Ga a.num b.num;have h2:=Ga (a.den:Int) (b.den:Int);have:=ha.1;have:=ha.2;have:=hb.1;have:=hb.2;exact Qs.divInt (by omega) (by omega) (by omega)
theorem Qvy{s:Nat}{p:Up}(hp:Rb s p):Rb (s+2) (vW p):=by
 unfold vW QO;refine Rb.trim (Qqt λi hi=>?_);have h1:Qs (s+0) (p.getD i 0):=by
  have hi:i<p.length:=hi;rw[Qi,Qe hi];exact hp _ (Xt hi)
 have:=Qpz h1 (show Qs 1 (-1:Rat) from⟨by decide,by decide⟩);exact this.mono (by omega)
theorem Qkb(p:Up):(vW p).length<=p.length:=by
 unfold vW QO;exact Qa (zF _) (by rw[EA];exact Ql _)
theorem Qez{a b:Int}(ha:Fe a<=40000000)(hb:Fe b<=40000000):Uj 262 [.agg (fr (a:Rat)),.agg (fr (b:Rat))] [.agg (fr ((a*b:Int):Rat))]:=by
 have h:=Qey (Aw ha (by decide)) (Aw hb (by decide));rw[<-X1]at h;exact h
theorem Qta{a b:Int}(ha:Fe a<=20000000)(hb:Fe b<=20000000):Uj 25 [.agg (fr (a:Rat)),.agg (fr (b:Rat))] [.agg (fr ((a+b:Int):Rat))]:=by
 have h:=pN (Aw ha (by decide)) (Aw hb (by decide));rw[<-Kc]at h;exact h
theorem uO(l:Um)(i:Nat)(z:Int):(frow (zp l)).set i (fr (z:Rat))=frow (zp (l.set i z)):=by simp[frow,zp,Vs]
theorem Ql1{p:Um}{i:Nat}(h:i<p.length):(zp p)[i]? = some ((p.getD i 0:Int):Rat):=Qw0 (Ri h)
theorem Sk{p:Um}{i:Nat}(h:i<p.length):(frow (zp p))[i]? = some (fr ((p.getD i 0:Int):Rat)):=XU (Ql1 h)
theorem ON(p:Um):(frow (zp p)).length=p.length:=by rw[Cm,A3]
abbrev zR:Ur:=[.nils,.bool false,.nils,.bool false]
theorem jP{n i:Nat}(h:i<n):(List.replicate i (fr 0)++List.replicate (n-i) zR).set i (fr 0)=List.replicate (i+1) (fr 0)++List.replicate (n-(i+1)) zR:=by
 rw[List.set_append_right _ _ (by simp),Jf,Ki,show n-i=n-(i+1)+1 by omega,J4 (n:=n-(i+1)),List.set_cons_zero,List.replicate_succ' (n:=i),Zd];rfl
theorem AX(n:Nat):List.replicate n (fr 0)++List.replicate (n-n) zR=frow (zp (List.replicate n 0)):=by simp[zp,frow]
theorem Qt2{p q:Um}{s t:Nat}(hlp:p.length<=1000000)(hlq:q.length<=1000000)(hp:Bd s p)(hq:Bd t q)(hst:s+t<=19000000):Uj 260 [.one (rp (zp p)),.one (rp (zp q))] [.one (rp (zp (Gl p q)))]:=by
 have hpl:=ON p;have hql:=ON q;rcases Q3 p.length with h0|h0
 ·have e:Gl p q=[]:=by unfold Gl;rw[if_pos (.inl h0)]
  rw[e];exact Ug func260 rfl [.g 12 true Ul,.t rfl] rfl
 rcases Q3 q.length with h1|h1
 ·have e:Gl p q=[]:=by unfold Gl;rw[if_pos (.inr h1)]
  rw[e];exact Ug func260 rfl [.g 12 false Uk,.T] rfl
 have e:Gl p q=trim (Au p q (List.replicate (p.length+q.length-1) 0) p.length):=by unfold Gl;rw[if_neg (by omega)]
 rw[e];obtain⟨N,hN⟩:=nmE (p.length+q.length-1);rw[<-hN];obtain⟨o,ho⟩:=nmE (List.replicate N (0:Int));rw[<-ho];have hol:o.length=N:=by rw[ho];simp
 have ho0:∀m,o.getD m 0=0:=λm=>by rw[ho];exact Cn N m
 have cc:=KR (p:=zp (Au p q o p.length));rw[Ex]at cc;refine Fv func260 rfl ?_;refine Ue [.g 12 false Uk,.F,.r 22 (eI (b:=(N:Int)) (by omega)),.i N,.i N,.r 25 (eI (b:=(N:Int)) (by simp))] rfl ?_;refine Ui (S:=Nat) 1 (λL1 i=>(26,.v (.oi i))::L1) (λi=>[.row false 61 4 (List.replicate i (fr 0)++List.replicate (N-i) zR)]) (λi=>N-i) (λi=>i<=N) 0 (Qh _) rfl rfl λi hi=>?_
 by_cases hlt:i<N
 ·refine Ue [.T,.k Qfw,.i i] rfl ?_;rw[jP hlt];exact rd (i+1) (by omega) hlt rfl
 have hiN:i=N:=by omega
 rw[hiN,AX,<-ho];clear hiN hlt hi;refine Ud [.F] rfl ?_;refine Ui (S:=Nat) 1 (λL1 i=>(36,.v (.oi i))::L1) (λi=>[.row false 61 4 (frow (zp (Au p q o i)))]) (λi=>p.length-i) (λi=>i<=p.length) 0 (Qh _) rfl rfl λi hi=>?_
 by_cases hlt:i<p.length
 ·refine Ud [.T] rfl ?_;refine Ui (S:=Nat) 1 (λL1 k=>(41,.v (.oi k))::L1) (λk=>[.row false 61 4 (frow (zp (Oj (p.getD i 0) q i (Au p q o i) k)))]) (λk=>q.length-k) (λk=>k<=q.length) 0 (Qh _) rfl rfl λk hk=>?_
  by_cases hk2:k<q.length
  ·have hm1:Fe ((Oj (p.getD i 0) q i (Au p q o i) k).getD (i+k) 0)<=20000000:=Qa (Iv (t:=39) (yU (by rw[Li];omega) (yW (λj hj=>by omega) ho0 (λi j=>Nl (Ft hp i) (Ft hq j))) (λj=>Nl (Ft hp i) (Ft hq j)) (i+k)) (Kh (show i+1<549755813888 by omega) (by decide))) (by omega);have hm2:Fe (p.getD i 0*q.getD k 0)<=20000000:=Qa (Ga _ _) (by have:=Ft hp i;have:=Ft hq k;omega);have hml:(Oj (p.getD i 0) q i (Au p q o i) k).length=N:=by rw[Ol,Li,hol]
   have cm:=Qez (a:=p.getD i 0) (b:=q.getD k 0) (Qa (Ft hp i) (by omega)) (Qa (Ft hq k) (by omega));have hfl:=ON (Oj (p.getD i 0) q i (Au p q o i) k);refine go tt [.T,.i (i+k),.x (Sk (p:=Oj (p.getD i 0) q i (Au p q o i) k) (i:=i+k) (by omega)),.x (Sk hlt),.x (Sk hk2),.k cm,.k (Qta hm1 hm2),.i (i+k)] rfl (by simp[U3,hfl,-List.getD_eq_getElem?_getD] <;> omega) ?_;rw[uO];exact rd (k+1) (by omega) hk2 rfl
  ·obtain rfl:k=q.length:=by omega
   exact go tt [.F] rfl (by simp[U3];omega) (rd (i+1) (by omega) hlt rfl)
 ·obtain rfl:i=p.length:=by omega
  exact Uf [.F,.k cc] rfl
def uG(p:Um)(n:Nat):Um:=(List.range n).map λk=>p.getD (k+1) 0*((k+1:Nat):Int)
theorem Qg7(p:Um)(n:Nat):(uG p n).length=n:=by simp[uG]
theorem Qb9(p:Um)(n:Nat):uG p (n+1)=uG p n++[p.getD (n+1) 0*((n+1:Nat):Int)]:=by simp[uG,Wb]
theorem kV(p:Um)(z:Int):frow (zp (p++[z]))=frow (zp p)++[fr (z:Rat)]:=by simp[frow,zp]
theorem Qf8{p:Um}(hp:Bd 40000000 p)(hl:p.length<=1000000):Uj 229 [.one (rp (zp p))] [.one (rp (zp (Gw p)))]:=by
 have hpl:=ON p;have cc:=KR (p:=zp (uG p (p.length-1)));rw[Ex]at cc;refine Fv func229 rfl ?_;refine Ud [.o 3 61 4] rfl ?_;refine Ui (S:=Nat) 1 (λL1 j=>(4,.v (.oi ((j+1:Nat):Int)))::(3,.v (.one (.orow 0 4 none)))::L1) (λj=>[.row false 61 4 (frow (zp (uG p j)))]) (λj=>p.length-j) (λj=>j<=p.length-1) 0 (Qh _) rfl rfl λj hj=>?_
 have hfl:=ON (uG p j);rw[Qg7]at hfl;by_cases h:j+1<p.length
 ·have hk:Fe ((j+1:Nat):Int)<=40000000:=Qa (jE (t:=38) (k:=j+1) (Kh (show j+1<274877906944 by omega) (by decide))) (by decide);refine go tt [.T,.x (Sk h),.k (KF (n:=((j+1:Nat):Int)) (by omega)),.k (Qez (Ft hp (j+1)) hk),.s (sz:=4) (Qc0 _)] rfl (by simp[U3,hfl,-List.getD_eq_getElem?_getD] <;> omega) ?_;exact rd (j+1) (by omega) (by omega) (by rw[Qb9,kV];rfl)
 ·have e:j=p.length-1:=by omega
  rw[e];exact Uf [.F,.k cc] rfl
theorem Qp7:[LV.nils,LV.bool false].map FP=ri 0:=by
 show _=[nd 0,sg 0];unfold nd dl;rw[Hx];rfl
end Orr
namespace Orr
def Hg(p:Um):Int:=p.getD (p.length-1) 0
def ES(a b:Um):Int:=if Hg b<0 then -(Hg a)else Hg a
def WS(a b:Um)(i:Nat):Int:=a.getD i 0*((Hg b).natAbs:Int)-(if a.length-b.length<=i then ES a b*b.getD (i-(a.length-b.length)) 0 else 0)
def tK(a b:Um):Um:=A4 a.length (WS a b)
inductive RRun (b:List Int):Nat->List Int->List Int->Prop
 |stop {a:List Int}:a.length<b.length->RRun b 0 a a
 |step {k:Nat} {a r:List Int}:b.length<=a.length->a.length<=1000->Bd 9000000 a->Bd 9000000 b->RRun b k (tK a b) r->RRun b (k+1) a r
def I5(p:Um):Nat->Nat
 | 0=>0
 |i+1=>Int.gcd (I5 p i:Nat) (p.getD i 0)
def UT(p:Um):Nat:=I5 p p.length
theorem HE(p:Um):∀{i j:Nat},j<i->((I5 p i:Nat):Int)∣p.getD j 0
 | 0,_,h=>absurd h (Nat.not_lt_zero _)
 |
  i+1,j,h=>by
  simp only[I5];rcases Zb j i with h1|h1
  ·exact V5 (Int.gcd_dvd_left ..) (HE p h1)
  ·rw[show j=i by omega];exact Wv ..
theorem wA(p:Um)(j:Nat):((UT p:Nat):Int)∣p.getD j 0:=by
 rcases Zb j p.length with h|h
 ·exact HE p h
 ·rw[Qi,Qw h];exact Int.dvd_zero _
theorem ZO{s:Nat}{p:Um}(h:Bd s p):∀i,Fe ((I5 p i:Nat):Int)<=s
 | 0=>by simp[I5,Ni]
 |
  i+1=>by
  simp only[I5];by_cases h0:p.getD i 0=0
  ·rw[h0,Int.gcd_zero_right];exact ZO h i
  ·have h1:=Wv (I5 p i:Nat) (p.getD i 0);have h2:(Int.gcd (I5 p i:Nat) (p.getD i 0))<=(p.getD i 0).natAbs:=Kv (by omega) (by simpa using X4.2 h1);have h3:=Ft h i;rw[Sw]at h3 ⊢;simp only[Xh];omega
theorem Qb0{p:Um}{j i:Nat}(hj:j<i)(h:p.getD j 0≠0):0<I5 p i:=by
 have:=HE p hj;rcases Q3 (I5 p i)with h0|h0
 ·rw[h0]at this;exact absurd (Int.zero_dvd.1 this) h
 ·exact h0
theorem wI{p:Um}(ht:Ff p)(h:0<p.length):0<UT p:=Qb0 (j:=p.length-1) (by omega) (H8 ht h)
def Ef(p:Um):Int:=if Hg p<0 then -((UT p:Nat):Int)else((UT p:Nat):Int)
def To(p:Um):Um:=A4 p.length λi=>p.getD i 0 / Ef p
def Bn(p:Um):Um:=if Hg p<0 then Mv (To p)else To p
theorem Qce(p:Um)(j:Nat):Ef p∣p.getD j 0:=by
 unfold Ef
 split
 ·exact Uc.2 (wA p j)
 ·exact wA p j
theorem Qho{p:Um}(ht:Ff p)(h:0<p.length):Ef p≠0:=by
 have:=wI ht h;unfold Ef
 split <;> omega
theorem OJ{s:Nat}{p:Um}(h:Bd s p):Fe (Ef p)<=s:=by
 unfold Ef
 split
 ·rw[Hm];exact ZO h _
 ·exact ZO h _
theorem cR{p:Um}{c:Int}(hc:c≠0)(hd:∀j,c∣p.getD j 0):QO (zp p) (1 / (c:Rat))=zp (A4 p.length λi=>p.getD i 0 / c):=by
 unfold QO A4;rw[vS (g:=λi=>p.getD i 0 / c) _ λi _=>?_,Ex,A3];obtain⟨k,hk⟩:=hd i;have hc':(c:Rat)≠0:=λe=>hc (by exact_mod_cast e)
 rw[NP,hk,Je _ hc,X1];grind
theorem BZ{s:Nat}{p:Um}(h:Bd s p):Bd s (To p):=YQ λi _=>Qa (XM _ _) (Ft h i)
theorem RD(p:Um):(To p).length<=p.length:=I9 _ _
theorem Qa0{s:Nat}{p:Um}(h:Bd s p):Bd s (Bn p):=by
 unfold Bn
 split
 ·exact MX (BZ h)
 ·exact BZ h
theorem nS(p:Um):(Bn p).length<=p.length:=by
 unfold Bn
 split
 ·exact Qa (XD _) (RD p)
 ·exact RD p
inductive GRun:Nat->List Int->List Int->List Int->Prop
 |stop (a:List Int):GRun 0 a [] a
 |step {k m:Nat} {a b r g:List Int}:0<b.length->b.length<=1000->Bd 9000000 b->RRun b m a r->r.length<=1000->Bd 9000000 r->Ff r->GRun k b (To r) g->GRun (k+1) a b g
theorem GRun.inv{k:Nat}{a b g:Um}(h:GRun k a b g):(k=0/\b.length=0/\a=g)\/∃j m r,k=j+1/\0<b.length/\b.length<=1000/\Bd 9000000 b/\RRun b m a r/\r.length<=1000/\Bd 9000000 r/\Ff r/\GRun j b (To r) g:=by
 cases h with
 |stop=>exact .inl ⟨rfl,rfl,rfl⟩
 |step h1 h2 h3 h4 h5 h6 h7 h8=>exact .inr ⟨_,_,_,rfl,h1,h2,h3,h4,h5,h6,h7,h8⟩
def ZQ(k:Nat)(p:Um):Um:=List.replicate k 0++p
theorem cB(k:Nat)(p:Um):(ZQ k p).length=k+p.length:=by simp[ZQ]
theorem Qa1{s k:Nat}{p:Um}(h:Bd s p):Bd s (ZQ k p):=λz hz=>by
 rcases Qr.1 hz with h1|h1
 ·rw[Zx h1,Ni];exact Qh _
 ·exact h z h1
inductive DRun (b:List Int):Nat->List Int->List Int->List Int->List Int->Prop
 |stop {a q:List Int}:a.length<b.length->DRun b 0 a q q a
 |step {k:Nat} {a q qf r:List Int}:b.length<=a.length->a.length<=1000->Bd 9000000 a->Hg b≠0->Hg b∣Hg a->a.length-b.length<q.length ->
  DRun b k (Na a (ZQ (a.length-b.length) (Fw b (Hg a / Hg b)))) (q.set (a.length-b.length) (Hg a / Hg b)) qf r->DRun b (k+1) a q qf r
theorem DRun.inv{b a q qf r:Um}{k:Nat}(h:DRun b k a q qf r):(k=0/\q=qf/\a=r/\a.length<b.length)\/∃j,k=j+1/\b.length<=a.length/\a.length<=1000/\Bd 9000000 a/\Hg b≠0/\Hg b∣Hg a/\a.length-b.length<q.length /\
 DRun b j (Na a (ZQ (a.length-b.length) (Fw b (Hg a / Hg b)))) (q.set (a.length-b.length) (Hg a / Hg b)) qf r:=by
 cases h with
 |stop h=>exact .inl ⟨rfl,rfl,rfl,h⟩
 |step h1 h2 h3 h4 h5 h6 h7=>exact .inr ⟨_,rfl,h1,h2,h3,h4,h5,h6,h7⟩
def M5(l:Un):Um:=l.getD (l.length-1) []
inductive LRun:Nat->List (List Int)->List (List Int)->Prop
 |stop {l:List (List Int)}:(M5 l).length<=1->LRun 0 l l
 |step {k m:Nat} {l f:List (List Int)} {g:List Int}:1<(M5 l).length->(M5 l).length<=1000->Ff (M5 l)->Bd 9000000 (M5 l)->Bd 9000000 (Gw (M5 l))->GRun m (To (M5 l)) (To (Gw (M5 l))) g->l.length<=1000->LRun k (l++[g]) f->LRun (k+1) l f
theorem LRun.inv{k:Nat}{l f:Un}(h:LRun k l f):(k=0/\l=f/\(M5 l).length<=1)\/∃j m g,k=j+1/\1<(M5 l).length/\(M5 l).length<=1000/\Ff (M5 l)/\Bd 9000000 (M5 l)/\Bd 9000000 (Gw (M5 l))/\GRun m (To (M5 l)) (To (Gw (M5 l))) g/\l.length<=1000/\LRun j (l++[g]) f:=by
 cases h with
 |stop h=>exact .inl ⟨rfl,rfl,h⟩
 |step h1 h2 h3 h4 h5 h6 h7 h8=>exact .inr ⟨_,_,_,rfl,h1,h2,h3,h4,h5,h6,h7,h8⟩
def DOk(a b q:Um):Prop:=0<b.length/\b.length<=1000/\a.length<=1000/\Bd 9000000 b/\∃qf r n,Bd 9000000 qf/\qf.length<=1000/\DRun b n a (List.replicate (a.length+1-b.length) 0) qf r/\q=trim qf
theorem DOk.bd{a b q:Um}(h:DOk a b q):Bd 9000000 q:=by
 obtain⟨_,_,_,_,qf,r,n,h1,_,_,rfl⟩:=h;exact Tx h1
theorem DOk.len{a b q:Um}(h:DOk a b q):q.length<=1000:=by
 obtain⟨_,_,_,_,qf,r,n,_,h1,_,rfl⟩:=h;exact Qa (H7 _) h1
theorem DOk.trim{a b q:Um}(h:DOk a b q):Ff q:=by
 obtain⟨_,_,_,_,qf,r,n,_,_,_,rfl⟩:=h;exact Rq _
def Qw7(a b c f:Um):Prop:=∃x y z,DOk a b x/\DOk b c y/\DOk (To x) (To y) z/\f=To z
structure FRun(a:List Int)(m:Nat)(f:Nat->List Int):Prop where
 run:∃n l,LRun n [To a] l/\l.length=m+1/\∀k,k<m->Qw7 ((l++[[1]]).getD k []) ((l++[[1]]).getD (k+1) []) ((l++[[1]]).getD (k+2) []) (f k)
 small:m<=1000
def EE(f:Nat->Um)(n:Nat):Un:=(List.range n).map f
theorem sQ(f:Nat->Um)(n:Nat):(EE f n).length=n:=by simp[EE]
theorem Qdk(f:Nat->Um)(n:Nat):EE f (n+1)=EE f n++[f n]:=by simp[EE,Wb]
theorem Qla{f:Nat->Um}{n i:Nat}(h:i<n):(EE f n)[i]? = some (f i):=by simp[EE,X3 h]
theorem nV{l:Un}{i:Nat}(h:i<l.length):l[i]? = some (l.getD i []):=by
 rw[Qi,Qe h];rfl
def Oy(f:Nat->Um):Nat->Um
 | 0=>[1]
 |i+1=>Gl (Oy f i) (f i)
def Qw6(m:Nat)(f:Nat->Um):Prop:=∀i,i<m->Bd 9000000 (Oy f i)/\(Oy f i).length<=1000/\Bd 9000000 (f i)/\(f i).length<=1000
inductive CRun:Nat->List (List Int)->List Int->List (List Int)->Prop
 |stop {l:List (List Int)} {g:List Int}:g.length=0->CRun 0 l g l
 |step {k m:Nat} {l f:List (List Int)} {g r:List Int}:0<g.length->g.length<=1000->Bd 9000000 g->RRun g m (M5 l) r->Ff r->Bd 9000000 r->r.length<=1000->0<l.length->l.length<=1000->CRun k (l++[g]) (Mv (Bn r)) f->CRun (k+1) l g f
theorem CRun.inv{k:Nat}{l f:Un}{g:Um}(h:CRun k l g f):(k=0/\l=f/\g.length=0)\/∃j m r,k=j+1/\0<g.length/\g.length<=1000/\Bd 9000000 g/\RRun g m (M5 l) r/\Ff r/\Bd 9000000 r/\r.length<=1000/\0<l.length/\l.length<=1000/\CRun j (l++[g]) (Mv (Bn r)) f:=by
 cases h with
 |stop h=>exact .inl ⟨rfl,rfl,h⟩
 |step h1 h2 h3 h4 h5 h6 h7 h8 h9 h10=>exact .inr ⟨_,_,_,rfl,h1,h2,h3,h4,h5,h6,h7,h8,h9,h10⟩
structure ChRun(a:List Int)(sq:List Int)(c:List (List Int)):Prop where
 fac:∃m f,FRun a m f/\Qw6 m f/\sq=Oy f m
 Ed:∃n,CRun n [sq] (Bn (Gw sq)) c
 bd:Bd 8000000 sq
 len:sq.length<=1000
 small:c.length<=1000
def Qd2(q:Rat)(c:Un):Prop:=∃sq,ChRun [-q.num,(q.den:Int)] sq c
end Orr
namespace Orr
open Go Go.Proofs Tryz
set_option maxRecDepth 10000
theorem RRun.inv{b a r:Um}{k:Nat}(h:RRun b k a r):(k=0/\a=r/\a.length<b.length)\/(∃j,k=j+1/\b.length<=a.length/\a.length<=1000/\Bd 9000000 a/\Bd 9000000 b/\RRun b j (tK a b) r):=by
 cases h with
 |stop h=>exact .inl ⟨rfl,rfl,h⟩
 |step h1 h2 h3 h4 h5=>exact .inr ⟨_,rfl,h1,h2,h3,h4,h5⟩
theorem Qqc{a b:Um}(ha:Bd 9000000 a):Fe (ES a b)<=9000000:=by
 unfold ES;split
 ·rw[Hm];exact Ft ha _
 ·exact Ft ha _
theorem Qp6(n:Nat):ri (n:Int)=[nd n,.bool false]:=by
 show [nd n,sg (n:Int)]=_;unfold sg;rw[decide_eq_false (by omega)]
def vF(a b:Um)(n:Nat):Um:=(List.range n).map (WS a b)
theorem Qki(a b:Um)(n:Nat):(vF a b n).length=n:=by simp[vF]
theorem zW(a b:Um)(n:Nat):vF a b (n+1)=vF a b n++[WS a b n]:=by simp[vF,Wb]
theorem lL{a0 b res:Um}{n:Nat}(hb0:0<b.length)(hb1:b.length<=1000)(hbb0:Bd 9000000 b)(hrun:RRun b n a0 res):Uj 231 [.one (rp (zp a0)),.one (rp (zp b))] [.one (rp (zp res))]:=by
 have hbl:=ON b;have hle:Fe (((Hg b).natAbs:Nat):Int)<=9000000:=Ft hbb0 _;refine Fv func231 rfl ?_;refine Ue [.r 15 (eI (b:=((b.length-1:Nat):Int)) (by omega)),.x (Sk (p:=b) (i:=b.length-1) (by omega))] rfl ?_;refine sb [(0,.v (.one (rp (zp a0)))),(1,.v (.one (rp (zp b)))),(5,.v (.one (.ow 0 0))),(6,.v (.one (.ow 1 0)))] [.blk 59 (ri (Hg b)),.blk 59 [nd (Hg b).natAbs,.bool false]] rfl rfl ?_;refine Ui (S:=Nat×Um) 2 (λL1 s=>(0,.v (.one (rp (zp s.2))))::L1) (λ_=>[.blk 59 (ri (Hg b)),.blk 59 [nd (Hg b).natAbs,.bool false]]) (λs=>s.1) (λs=>RRun b s.1 s.2 res) (n,a0) hrun rfl rfl λ⟨k,a⟩ hs=>?_
 have hal:=ON a;have hs:RRun b k a res:=hs;rcases RRun.inv hs with⟨rfl,rfl,h1⟩|⟨j,rfl,h1,h2,ha,hb,hr⟩
 ·exact Uf [.f (decide_eq_false (by dsimp only;omega))] rfl
 obtain⟨K,hK⟩:=nmE (a.length-b.length);have htb:=Qqc (b:=b) ha;have cc:=KR (p:=zp (vF a b a.length));rw[Ex,show trim (vF a b a.length)=tK a b from rfl]at cc;refine Ue [.t (decide_eq_true (by dsimp only;omega)),.r 30 (eI (b:=(K:Int)) (by dsimp only;omega)),.r 34 (eI (b:=((a.length-1:Nat):Int)) (by dsimp only;omega)),.x (Sk (p:=a) (i:=a.length-1) (by omega))] rfl ?_;refine ct 1 (S:=Unit) (λ_=>[(0,.v (.one (rp (zp a)))),(1,.v (.one (rp (zp b)))),(5,.v (.one (.ow 0 0))),(6,.v (.one (.ow 1 0))),(7,.v (.oi K)),(8,.v (.one (.ow 2 0)))]) (λ_=>[.blk 59 (ri (Hg b)),.blk 59 [nd (Hg b).natAbs,.bool false],.blk 59 (ri (ES a b))]) (λ_=>True) rfl ?_ (λ_ _=>?_)
 ·by_cases hn:Hg b<0
  ·have e:ES a b=-(Hg a):=if_pos hn;rw[e];exact go tt [.t (decide_eq_true hn),.k (QK (z:=Hg a))] rfl trivial (rc () trivial rfl)
  ·have e:ES a b=Hg a:=if_neg hn;rw[e];exact go tt [.f (decide_eq_false hn)] rfl trivial (rc () trivial rfl)
 refine Ud [.o 9 61 4] rfl ?_;refine Ui (S:=Nat) 4 (λL1 i=>(44,.v (.oi i))::(9,.v (.one (.orow 3 4 none)))::L1) (λi=>[.blk 59 (ri (Hg b)),.blk 59 [nd (Hg b).natAbs,.bool false],.blk 59 (ri (ES a b)),.row false 61 4 (frow (zp (vF a b i)))]) (λi=>a.length-i) (λi=>i<=a.length) 0 (Qh _) rfl rfl λi hi=>?_
 have hfl:=ON (vF a b i);rw[Qki]at hfl;by_cases h:i<a.length
 ·have cm:=Af (a:=a.getD i 0) (b:=(((Hg b).natAbs:Nat):Int)) (Qa (Ft ha i) (by decide)) (by omega);have hm:=Ga (a.getD i 0) (((Hg b).natAbs:Nat):Int);have hai:=Ft ha i;rw[Qp6 (Hg b).natAbs]at cm;by_cases hk:K<=i
  ·have hbi:=Ft hb (i-K);have hm2:=Ga (ES a b) (b.getD (i-K) 0);have e:WS a b i=a.getD i 0*(((Hg b).natAbs:Nat):Int)-ES a b*b.getD (i-K) 0:=by unfold WS;rw[if_pos (by omega),hK]
   refine go tt [.T,.x (Sk h),.k cm,.T,.r 62 (eI (b:=((i-K:Nat):Int)) (by omega)),.x (Sk (p:=b) (i:=i-K) (by omega)),.k (Af (a:=ES a b) (b:=b.getD (i-K) 0) (by omega) (by omega)),.k (Qfx (by omega) (by omega)),.k (ZA (n:=1) (by decide)),.k (Ae (n:=a.getD i 0*(((Hg b).natAbs:Nat):Int)-ES a b*b.getD (i-K) 0)),.s (sz:=4) (Qc0 _)] rfl (by simp[U3,hfl,-List.getD_eq_getElem?_getD] <;> omega) ?_;exact rd (i+1) (by omega) h (by rw[zW,kV,e];rfl)
  ·have e:WS a b i=a.getD i 0*(((Hg b).natAbs:Nat):Int):=by unfold WS;rw[if_neg (by omega),Int.sub_zero]
   refine go tt [.T,.x (Sk h),.k cm,.F,.k (ZA (n:=1) (by decide)),.k (Ae (n:=a.getD i 0*(((Hg b).natAbs:Nat):Int))),.s (sz:=4) (Qc0 _)] rfl (by simp[U3,hfl,-List.getD_eq_getElem?_getD] <;> omega) ?_;exact rd (i+1) (by omega) h (by rw[zW,kV,e];rfl)
 ·have e:i=a.length:=by omega
  rw[e];exact go tt [.F,.k cc] rfl trivial (rd (j,tK a b) (by omega) hr rfl)
theorem Qtz:Uj 66 [.agg (ri 1),.agg (ri 1)] [.agg (ri 1)]:=Af (a:=1) (b:=1) (by decide) (by decide)
theorem Qnq:Uj 106 [.agg (ri 1),.agg (ri 1)] [.agg (ri 1)]:=xE (a:=1) (b:=1) (by decide) (by decide)
theorem Qm5{z:Int}(hz:Fe z<=90000000):Uj 66 [.agg (ri z),.agg (ri 1)] [.agg (ri z)]:=by
 have h:=Af (a:=z) (b:=1) (by omega) (by decide);rwa[Ub]at h
theorem lG{z:Int}(hz:Fe z<=90000000):Uj 107 [.agg (ri z),.agg (ri 1)] [.agg (ri z)]:=by
 have h:=BB (a:=z) (b:=1) hz (by decide) (by decide) (Int.emod_one z);rwa[Int.ediv_one]at h
theorem Qe0{z:Int}:Uj 186 [.agg (fr (z:Rat))] [.agg (fr ((-z:Int):Rat))]:=by
 have h:=Qtm (a:=(z:Rat));rwa[<-Vm]at h
theorem Qvw{c:Int}(hc:c≠0)(hs:Fe c<=9000000):Qs 40000000 (((1:Int):Rat) / (c:Rat)):=by
 have h0:(c:Rat)≠0:=λe=>hc (by exact_mod_cast e)
 rw[<-qO h0];unfold Gi;rw[if_neg (Jh (Dm _) (λe=>hc (by simpa using e)))];refine Qs.divInt (by show Fe (1*1)<=_;decide) ?_ (by decide);show Fe (1*c)<=_;rw[Kq];omega
theorem pO{p:Um}{c:Int}(hc:c≠0)(hs:Fe c<=9000000)(hd:∀j,c∣p.getD j 0)(hp:Bd 9000000 p)(hl:p.length<=1000):Uj 264 [.one (rp (zp p)),.agg (fr (((1:Int):Rat) / (c:Rat)))] [.one (rp (zp (A4 p.length λi=>p.getD i 0 / c)))]:=by
 have h:=BL ((zX hp (by omega)).mono (by omega)) (Qvw hc hs) (by rw[A3];omega);rwa[show((1:Int):Rat)=1 from rfl,cR hc hd]at h
theorem QU{p:Um}(tp:Ff p)(hp:Bd 9000000 p)(hl:p.length<=1000):Uj 261 [.one (rp (zp p))] [.agg (fr ((Ef p:Int):Rat)),.one (rp (zp (To p)))]:=by
 have hpl:=ON p;rcases Q3 p.length with h0|h0
 ·have e:=Qj h0;subst e;exact Ug func261 rfl [.t rfl,.k Qfw] rfl
 have hc:=Qho tp h0;refine Fv func261 rfl ?_;refine Ud [.F,.k (ZA (n:=1) (by decide))] rfl ?_;refine Ui (S:=Nat) 2 (λL1 i=>(16,.v (.oi i))::L1) (λi=>[.blk 61 [.nils,.bool false,.nils,.bool false],.blk 59 (ri 1)]) (λi=>p.length-i) (λi=>i<=p.length) 0 (Qh _) rfl rfl λi hi=>?_
 by_cases h:i<p.length
 ·refine Ue [.T,.x (Sk h),.k Qtz,.x (Sk h),.k Qnq,.k (lG (z:=1) (by decide))] rfl ?_;exact rd (i+1) (by omega) h rfl
 refine Ud [.F] rfl ?_;clear h hi;refine nlb 2 rfl rfl rfl ?_;rw[Qp7];refine Ui (S:=Nat) 3 (λL1 i=>(37,.v (.oi i))::L1) (λi=>[.blk 61 [.nils,.bool false,.nils,.bool false],.blk 59 (ri 1),.blk 59 (ri ((I5 p i:Nat):Int))]) (λi=>p.length-i) (λi=>i<=p.length) 0 (Qh _) rfl rfl λi hi=>?_
 by_cases h:i<p.length
 ·have hb:=Ft hp i;have hg:=ZO hp i;refine Ue [.T,.x (Sk h),.k (Qm5 (z:=p.getD i 0) (by omega)),.x (Sk h),.k (lG (z:=p.getD i 0) (by omega)),.k (xE (a:=((I5 p i:Nat):Int)) (b:=p.getD i 0) (by omega) (by omega))] rfl ?_;exact rd (i+1) (by omega) h rfl
 have e:i=p.length:=by omega
 rw[e];have co:=KF (n:=1) (by decide);have cs:=pO hc (OJ hp) (Qce p) hp hl;by_cases hn:Hg p<0
 ·have e2:Ef p=-((UT p:Nat):Int):=if_pos hn;rw[show(λi=>p.getD i 0 / Ef p)=λi=>p.getD i 0 / Ef p from rfl]at cs;have cn:=Qe0 (z:=((UT p:Nat):Int));rw[<-e2]at cn;exact Uf [.F,.k (Ae (n:=((UT p:Nat):Int))),.r 62 (eI (b:=((p.length-1:Nat):Int)) (by omega)),.x (Sk (p:=p) (i:=p.length-1) (by omega)),.t (decide_eq_true hn),.k cn,.k co,.k (pA (a:=((1:Int):Rat)) (b:=((Ef p:Int):Rat)) ⟨by decide,by decide⟩ (Aw (by have:=OJ hp;omega) (by decide)) (λe=>hc (by exact_mod_cast e))),.k cs] rfl rfl (by simp[U3];omega)
 ·have e2:Ef p=((UT p:Nat):Int):=if_neg hn;have cm:=Ae (n:=Ef p);rw[e2]at cm cs hc ⊢;exact Uf [.F,.k cm,.r 62 (eI (b:=((p.length-1:Nat):Int)) (by omega)),.x (Sk (p:=p) (i:=p.length-1) (by omega)),.f (decide_eq_false hn),.k co,.k (pA (a:=((1:Int):Rat)) (b:=((((UT p:Nat):Int):Int):Rat)) ⟨by decide,by decide⟩ (Aw (by have:=ZO hp p.length;unfold UT;omega) (by decide)) (λe=>hc (by exact_mod_cast e))),.k cs] rfl (by unfold To;rw[e2];rfl) (by simp[U3];omega)
theorem QW{p:Um}(tp:Ff p)(hp:Bd 9000000 p)(hl:p.length<=1000):Uj 285 [.one (rp (zp p))] [.one (rp (zp (To p)))] :=
 Ug func285 rfl [.k (QU tp hp hl)] rfl
theorem OY{p:Um}(tp:Ff p):Ef p<0↔Hg p<0:=by
 unfold Ef;rcases Q3 p.length with h0|h0
 ·have:=Qj h0;subst this;decide
 ·have:=wI tp h0
  split <;> omega
theorem Qf5{p:Um}(hp:Bd 9000000 p)(hl:p.length<=1000000):Uj 230 [.one (rp (zp p))] [.one (rp (zp (Mv p)))]:=by
 have h:=Qf9 ((zX hp (by decide)).mono (by decide)) (by rw[A3];exact hl);rwa[oI]at h
theorem wP{p:Um}(tp:Ff p)(hp:Bd 9000000 p)(hl:p.length<=1000):Uj 228 [.one (rp (zp p))] [.one (rp (zp (Bn p)))]:=by
 by_cases hn:Hg p<0
 ·have e:Bn p=Mv (To p):=if_pos hn;rw[e];exact Ug func228 rfl [.k (QU tp hp hl),.t (decide_eq_true ((OY tp).2 hn)),.k (Qf5 (BZ hp) (Qa (RD p) (by omega)))] rfl
 ·have e:Bn p=To p:=if_neg hn;rw[e];exact Ug func228 rfl [.k (QU tp hp hl),.f (decide_eq_false λh=>hn ((OY tp).1 h))] rfl
end Orr
namespace Orr
section
variable{x d:Int}(hd:0<d)(hg:Int.gcd x d=1)(hx:Fe x<=2000000)(hs:Fe d<=2000000)
include hd in
include hd in
include hd in
include hd hx hs in
include hd hx hs in
include hd hx hs in
include hd hg hx hs in
include hd hg hx hs in
end
end Orr
namespace Orr
open Go Go.Proofs Tryz
set_option maxRecDepth 10000
theorem Qt1{a b g:Um}{n:Nat}(ta:Ff a)(tb:Ff b)(ha:Bd 9000000 a)(hb:Bd 9000000 b)(la:a.length<=1000)(lb:b.length<=1000)(hrun:GRun n (To a) (To b) g):Uj 286 [.one (rp (zp a)),.one (rp (zp b))] [.one (rp (zp g))]:=by
 refine Fv func286 rfl ?_;refine Ud [.k (QW ta ha la),.k (QW tb hb lb)] rfl ?_;refine sb [(0,.v (.one (rp (zp (To a))))),(1,.v (.one (rp (zp (To b)))))] [] rfl rfl ?_;refine Ui (S:=Nat×Um×Um) 0 (λL1 s=>(0,.v (.one (rp (zp s.2.1))))::(1,.v (.one (rp (zp s.2.2))))::L1) (λ_=>[]) (λs=>s.1) (λs=>GRun s.1 s.2.1 s.2.2 g) (n,To a,To b) hrun rfl rfl λ⟨k,x,y⟩ hs=>?_
 have hs:GRun k x y g:=hs;have hyl:=ON y;rcases hs.inv with⟨hk,hy0,hxg⟩|⟨j,m2,r,hk,hy0,hy1,hyb,hrr,hrl,hrb,hrt,hgr⟩
 ·rw[<-hxg];exact Uf [.f (decide_eq_false (by dsimp only;omega))] rfl
 ·subst hk;refine Ud [.t (decide_eq_true (by dsimp only;omega)),.k (lL (a0:=x) (b:=y) (res:=r) hy0 hy1 hyb hrr),.k (QW (p:=r) hrt hrb hrl)] rfl ?_;exact rd (j,y,To r) (by dsimp only;omega) hgr rfl
theorem Qm8{x y:Int}(hx:Fe x<=9000000)(hy:Fe y<=9000000)(h0:y≠0)(hd:y∣x):Uj 289 [.agg (fr (x:Rat)),.agg (fr (y:Rat))] [.agg (fr ((x / y:Int):Rat))]:=by
 have hy0:(y:Rat)≠0:=λe=>h0 (by exact_mod_cast e)
 have h:=pA (Aw (s:=40000000) (z:=x) (by omega) (by omega)) (Aw (s:=40000000) (z:=y) (by omega) (by omega)) hy0;obtain⟨k,rfl⟩:=hd;rw[Je _ h0];rwa[show(((y*k:Int):Rat)) / (y:Rat)=(k:Rat) by rw[X1];grind]at h
theorem Qbv{p:Um}{c:Int}(hp:Bd 40000000 p)(hc:Fe c<=40000000)(hl:p.length<=1000000):Uj 264 [.one (rp (zp p)),.agg (fr (c:Rat))] [.one (rp (zp (Fw p c)))]:=by
 have h:=BL (zX hp (by omega)) (Aw hc (by omega)) (by rw[A3];exact hl);rwa[zK]at h
theorem Qqm(k:Nat)(p:Um):frow (zp (List.replicate k 0))++frow (zp p)=frow (zp (ZQ k p)):=by simp[zp,ZQ,frow]
theorem Qch(l:Um)(i:Nat)(z:Int):(frow (zp l)).set i [nd ((z:Rat)).num.natAbs,sg ((z:Rat)).num,nd (((z:Rat)).den:Int).natAbs,sg (((z:Rat)).den:Int)]=frow (zp (l.set i z)):=uO l i z
theorem Qnz{p q:Um}(hp:Bd 18000000 p)(hq:Bd 18000000 q)(hlp:p.length<=1000000)(hlq:q.length<=1000000):U6 prog 188 [.one (rp (zp p)),.one (.orow 0 4 none)] [.row false 61 4 (frow (zp q))] [.one (rp (zp (Na p q)))] [.gone]:=by
 have hn:=Qf9 ((zX hq (by decide)).mono (by decide)) (by rw[A3];exact hlq);have ha:=Qt0 (p:=zp p) (q:=vW (zp q)) ((zX hp (by decide)).mono (by decide)) ((Qvy (zX hq (by decide))).mono (by decide)) (by rw[A3];exact hlp) (Qa (Qkb _) (by rw[A3];exact hlq));have e:Qc9 (zp p) (vW (zp q))=zp (Na p q):=Qqb p q;rw[e]at ha;refine Fv func188 rfl ?_;exact Uh [] [0] [.k hn,.k ha] rfl
theorem Qbw{a0 b qf rem:Um}{n:Nat}(hb0:0<b.length)(hb1:b.length<=1000)(hl0:a0.length<=1000)(hbb:Bd 9000000 b)(hqb:Bd 9000000 qf)(hrun:DRun b n a0 (List.replicate (a0.length+1-b.length) 0) qf rem):Uj 287 [.one (rp (zp a0)),.one (rp (zp b))] [.one (rp (zp (trim qf))),.one (rp (zp rem))]:=by
 have h0l:=ON a0;have hbl:=ON b;obtain⟨N,hN⟩:=nmE (a0.length+1-b.length);rw[<-hN]at hrun;have cc:=KR (p:=zp qf);rw[Ex]at cc;refine Fv func287 rfl ?_;refine Ue [.r 18 (eI (b:=(N:Int)) (by omega)),.i N,.i N,.r 21 (eI (b:=(N:Int)) (by simp))] rfl ?_;refine Ui (S:=Nat) 1 (λL1 i=>(22,.v (.oi i))::L1) (λi=>[.row false 61 4 (List.replicate i (fr 0)++List.replicate (N-i) zR)]) (λi=>N-i) (λi=>i<=N) 0 (Qh _) rfl rfl λi hi=>?_
 by_cases hlt:i<N
 ·refine Ue [.T,.k Qfw,.i i] rfl ?_;rw[jP hlt];exact rd (i+1) (by omega) hlt rfl
 have hiN:i=N:=by omega
 rw[hiN,AX];clear hiN hlt hi;refine Ud [.F] rfl ?_;refine sb [(0,.v (.one (rp (zp a0)))),(1,.v (.one (rp (zp b)))),(6,.v (.one (.orow 0 4 none)))] [.row false 61 4 (frow (zp (List.replicate N 0)))] rfl rfl ?_;refine Ui (S:=Nat×Um×Um) 1 (λL1 s=>(0,.v (.one (rp (zp s.2.1))))::L1) (λs=>[.row false 61 4 (frow (zp s.2.2))]) (λs=>s.1) (λs=>DRun b s.1 s.2.1 s.2.2 qf rem/\s.2.2.length=N) (n,a0,List.replicate N 0) ⟨hrun,Jf⟩ rfl rfl λ⟨k,a,q⟩ ⟨hr0,hr1⟩=>?_
 have hr0:DRun b k a q qf rem:=hr0;have hr1:q.length=N:=hr1;have hal:=ON a;have hql:=ON q;rcases hr0.inv with⟨hk,hqf,har,hlt⟩|⟨j,hk,hba,hal2,hab,hpb,hpd,hkq,hrj⟩
 ·subst hqf;subst har;exact Uf [.f (decide_eq_false (by dsimp only;omega)),.k cc] rfl
 subst hk;obtain⟨K,hK⟩:=nmE (a.length-b.length);rw[<-hK]at hrj hkq;have hla:Fe (Hg a)<=9000000:=Ft hab _;have hlb:Fe (Hg b)<=9000000:=Ft hbb _;obtain⟨c,hc⟩:=nmE (Hg a / Hg b);have cq:=Qm8 hla hlb hpb hpd;have hcs:Fe (Hg a / Hg b)<=9000000:=Qa (XM _ _) hla;rw[<-hc]at cq hcs hrj;have hsl:=Fx b c;have hqs:∀x,(q.set K x).length=N:=λx=>by rw[Xd];exact hr1
 dsimp only;refine go tt [.T,.r 39 (eI (b:=(K:Int)) (by omega)),.r 43 (eI (b:=((a.length-1:Nat):Int)) (by omega)),.x (Sk (p:=a) (i:=a.length-1) (by omega)),.r 49 (eI (b:=((b.length-1:Nat):Int)) (by omega)),.x (Sk (p:=b) (i:=b.length-1) (by omega)),.k cq,.i K,.i K,.i K,.r 60 (eI (b:=(K:Int)) (by simp))] rfl (by simp[U3,hql] <;> omega) ?_;rw[Qch];refine Ui (S:=Nat) 3 (λL1 i=>(61,.v (.oi i))::L1) (λi=>[.row false 61 4 (frow (zp (q.set K c))),.blk 61 (fr (c:Rat)),.row false 61 4 (List.replicate i (fr 0)++List.replicate (K-i) zR)]) (λi=>K-i) (λi=>i<=K) 0 (Qh _) rfl rfl λi hi=>?_
 by_cases hlt:i<K
 ·refine Ue [.T,.k Qfw,.i i] rfl ?_;rw[jP hlt];exact rd (i+1) (by omega) hlt rfl
 have hiK:i=K:=by omega
 rw[hiK,AX];clear hiK hlt hi;have hzl:=ON (List.replicate K 0);rw[Jf]at hzl;have hpl:=ON (Fw b c);refine Ud [.F] rfl ?_;refine sb [(10,.v (.one (.orow 2 4 none))),(9,.v (.one (.ow 1 0))),(0,.v (.one (rp (zp a)))),(1,.v (.one (rp (zp b)))),(6,.v (.one (.orow 0 4 none)))] [.row false 61 4 (frow (zp (q.set K c))),.blk 61 (fr (c:Rat)),.row false 61 4 (frow (zp (List.replicate K 0)))] rfl rfl ?_;have p2:=Qnz (p:=a) (q:=ZQ K (Fw b c)) (U5 hab (by decide)) (U5 (Qa1 (Ge hbb hcs)) (by decide)) (by omega) (by rw[cB];omega);rw[<-Qqm]at p2;refine go tt [.k (Qbv (c:=c) (U5 hbb (by decide)) (by omega) (by omega)),.s (sz:=4) (Qcg (zp (Fw b c))),.c [2] p2] rfl (by simp[U3,hzl,hpl];omega) ?_;exact rd (j,Na a (ZQ K (Fw b c)),q.set K c) (by dsimp only;omega) ⟨hrj,hqs c⟩ rfl
def sM(l:Un):Us:=l.map λp=>[rp (zp p)]
theorem VG(l:Un):(sM l).length=l.length:=by simp[sM]
theorem HZ(l:Un)(g:Um):sM l++[[rp (zp g)]]=sM (l++[g]):=by simp[sM]
theorem VF{l:Un}{i:Nat}(h:i<l.length):(sM l)[i]? = some [rp (zp (l.getD i []))]:=G5 (nV h)
theorem Qpi(x:LV):∀c∈[[x]],c.length=1:=λc hc=>by rw[Qk.1 hc];rfl
theorem BD{a b q:Um}(h:DOk a b q):∃r,Uj 287 [.one (rp (zp a)),.one (rp (zp b))] [.one (rp (zp q)),.one (rp (zp r))]:=by
 obtain⟨h1,h2,h3,h4,qf,r,n,h5,h6,h7,rfl⟩:=h;exact⟨r,Qbw h1 h2 h3 h4 h5 h7⟩
theorem mK{a:Um}{mf:Nat}{f:Nat->Um}(ta:Ff a)(ha:Bd 9000000 a)(la:a.length<=1000)(h2:2<=a.length)(hF:FRun a mf f):Uj 259 [.one (rp (zp a))] [.one (.row (sM (EE f mf)))]:=by
 obtain⟨⟨n,ls,hrun,hlen,hq⟩,hms⟩:=hF;have hal:=ON a;refine Fv func259 rfl ?_;refine Ud [.F,.k (QW ta ha la),.o 3 171 1,.lo] rfl ?_;refine sb [(3,.v (.one (.orow 0 1 none))),(4,.v (.one (.orow 1 1 none)))] [.row false 171 1 [],.row false 171 1 (sM [To a])] rfl rfl ?_;refine Ui (S:=Nat×Un) 2 (λL1 s=>(4,.v (.one (.orow 1 1 none)))::L1) (λs=>[.row false 171 1 [],.row false 171 1 (sM s.2)]) (λs=>s.1) (λs=>LRun s.1 s.2 ls/\0<s.2.length/\s.2.length<=1001) (n,[To a]) ⟨hrun,by show 0<1;decide,by show 1<=1001;decide⟩ rfl rfl λ⟨k,l⟩ ⟨hs1,hs2,hs3⟩=>?_
 have hs1:LRun k l ls:=hs1;have hs2:0<l.length:=hs2;have hs3:l.length<=1001:=hs3;have hll:=VG l;have hlast:(sM l)[l.length-1]? = some [rp (zp (M5 l))]:=VF (by omega);have hpl:=ON (M5 l);dsimp only;rcases hs1.inv with⟨hk,hlf,hl1⟩|⟨j,m2,g,hk,hg1,hg2,hg3,hg4,hg5,hg6,hg7,hlr⟩
 ·have hlm:l.length=mf+1:=by rw[hlf];exact hlen
  rw[<-hlf]at hq;have hl2:=VG (l++[[1]]);have hl3:(l++[[1]]).length=mf+2:=by simp[hlm]
  refine go tt [.r 23 (eI (b:=((l.length-1:Nat):Int)) (by omega)),.i (l.length-1),.x hlast,.F,.k Qga,.s (sz:=1) (Qpi _)] rfl (by simp[U3,hll];omega) ?_;rw[HZ];refine Ui (S:=Nat) 2 (λL1 i=>(6,.v (.oi i))::(3,.v (.one (.orow 0 1 none)))::L1) (λi=>[.row false 171 1 (sM (EE f i)),.row false 171 1 (sM (l++[[1]]))]) (λi=>mf-i) (λi=>i<=mf) 0 (Qh _) rfl rfl λi hi=>?_
  have htl:=VG (EE f i);rw[sQ]at htl;by_cases h:i<mf
  ·obtain⟨x,y,z,hx,hy,hz,hf⟩:=hq i h;obtain⟨rx,hdx⟩:=BD hx;obtain⟨ry,hdy⟩:=BD hy;obtain⟨rz,hdz⟩:=BD hz;refine go tt [.T,.i i,.x (VF (by omega)),.i (i+1),.x (VF (by omega)),.k hdx,.i (i+1),.x (VF (by omega)),.i (i+2),.x (VF (by omega)),.k hdy,.k (QW hx.trim hx.bd hx.len),.k (QW hy.trim hy.bd hy.len),.k hdz,.k (QW hz.trim hz.bd hz.len),.s (sz:=1) (Qpi _)] rfl (by simp[U3,hl2,htl];omega) ?_;exact rd (i+1) (by omega) h (by rw[HZ,Qdk,hf];rfl)
  ·have e:i=mf:=by omega
   rw[e];exact Uf [.F] rfl rfl (by simp[U3];omega)
 ·subst hk;refine go tt [.r 23 (eI (b:=((l.length-1:Nat):Int)) (by omega)),.i (l.length-1),.x hlast,.T,.r 31 (eI (b:=((l.length-1:Nat):Int)) (by omega)),.i (l.length-1),.x hlast,.k (Qf8 (U5 hg4 (by decide)) (by omega)),.k (Qt1 hg3 (Fy _ _) hg4 hg5 hg2 (Qa (Nj _) (by omega)) hg6),.s (sz:=1) (Qpi _)] rfl (by simp[U3,hll];omega) ?_;exact rd (j,l++[g]) (by dsimp only;omega) ⟨hlr,by simp,by simp;omega⟩ (by rw[HZ];rfl)
theorem Qbx{a:Um}{mf:Nat}{f:Nat->Um}(ta:Ff a)(ha:Bd 9000000 a)(la:a.length<=1000)(h2:2<=a.length)(hF:FRun a mf f)(hP:Qw6 mf f):Uj 227 [.one (rp (zp a))] [.one (rp (zp (Oy f mf)))]:=by
 have hms:=hF.small;have hal:=ON a;have htl:=VG (EE f mf);rw[sQ]at htl;refine Fv func227 rfl ?_;refine Ud [.F,.k Qga,.k (mK ta ha la h2 hF)] rfl ?_;refine Ui (S:=Nat) 0 (λL1 i=>(15,.v (.oi i))::(3,.v (.one (rp (zp (Oy f i)))))::L1) (λ_=>[]) (λi=>mf-i) (λi=>i<=mf) 0 (Qh _) rfl rfl λi hi=>?_
 by_cases h:i<mf
 ·obtain⟨g1,g2,g3,g4⟩:=hP i h;refine Ue [.T,.x (G5 (f:=λp=>[rp (zp p)]) (Qla h)),.k (Qt2 (p:=Oy f i) (q:=f i) (by omega) (by omega) g1 g3 (by decide))] rfl ?_;exact rd (i+1) (by omega) h rfl
 ·have e:i=mf:=by omega
  rw[e];exact Uf [.F] rfl
theorem Qcq{l:Un}(g:Um)(h:0<l.length):(sM l++[[rp (zp g)]])[l.length-1]? = some [rp (zp (M5 l))]:=by
 rw[Zi (by rw[VG];omega)];exact VF (by omega)
theorem Qf7{a sq:Um}{c:Un}(ta:Ff a)(ha:Bd 9000000 a)(la:a.length<=1000)(h2:2<=a.length)(hC:ChRun a sq c):Uj 187 [.one (rp (zp a))] [.one (.row (sM c))]:=by
 obtain⟨⟨mf,f,hF,hP,rfl⟩,⟨n,hcr⟩,hbd,hle,hsm⟩:=hC;refine Fv func187 rfl ?_;refine Ud [.k (Qbx ta ha la h2 hF hP),.lo,.k (Qf8 (p:=Oy f mf) (U5 hbd (by decide)) (by omega)),.k (wP (p:=Gw (Oy f mf)) (Fy _ _) (U5 (xU (t:=10) hbd (by omega)) (by decide)) (Qa (Nj _) (by omega)))] rfl ?_;refine sb [(5,.v (.one (rp (zp (Bn (Gw (Oy f mf))))))),(4,.v (.one (.orow 0 1 none)))] [.row false 171 1 (sM [Oy f mf])] rfl rfl ?_;refine Ui (S:=Nat×Un×Um) 1 (λL1 s=>(5,.v (.one (rp (zp s.2.2))))::(4,.v (.one (.orow 0 1 none)))::L1) (λs=>[.row false 171 1 (sM s.2.1)]) (λs=>s.1) (λs=>CRun s.1 s.2.1 s.2.2 c/\0<s.2.1.length/\s.2.1.length<=1001) (n,[Oy f mf],Bn (Gw (Oy f mf))) ⟨hcr,by show 0<1;decide,by show 1<=1001;decide⟩ rfl rfl λ⟨k,l,g⟩ ⟨hs1,hs2,hs3⟩=>?_
 have hs1:CRun k l g c:=hs1;have hs2:0<l.length:=hs2;have hs3:l.length<=1001:=hs3;have hll:=VG l;have hgl:=ON g;dsimp only;rcases hs1.inv with⟨hk,hlf,hg0⟩|⟨j,m2,r,hk,hg1,hg2,hg3,hrr,hrt,hrb,hrl,hl0,hl1,hcj⟩
 ·subst hlf;exact Uf [.F] rfl
 ·subst hk;refine go tt [.T,.s (sz:=1) (Qpi _),.r 23 (eI (b:=((l.length-1:Nat):Int)) (by simp;omega)),.i (l.length-1),.x (Qcq g hl0),.k (lL (a0:=M5 l) (b:=g) (res:=r) hg1 hg2 hg3 hrr),.k (wP (p:=r) hrt hrb hrl),.k (Qf5 (p:=Bn r) (Qa0 hrb) (Qa (nS r) (by omega)))] rfl (by simp[U3,hll];omega) ?_;exact rd (j,l++[g],Mv (Bn r)) (by dsimp only;omega) ⟨hcj,by simp,by simp;omega⟩ (by rw[HZ];rfl)
theorem Qxc{q:Rat}(h1:Fe q.num<=2000000)(h2:Fe (q.den:Int)<=2000000):Bd 9000000 [-q.num,(q.den:Int)]:=λz hz=>by
 simp only[Qm,X2,or_false]at hz;rcases hz with rfl|rfl
 ·rw[Hm];omega
 ·omega
abbrev aq(q:Rat)(c:Un):Ur:=[rp (zp [-q.num,(q.den:Int)]),.row (sM c)]++fr q++fr q
theorem wS{q:Rat}{c:Un}(hq:Qs 2000000 q)(hC:Qd2 q c):Uj 147 [.agg (fr q)] [.agg (aq q c)]:=by
 obtain⟨sq,hch⟩:=hC;have co:=ZA (n:=1) (by decide);exact Ug func147 rfl [.k co,.k (Ae (n:=q.num)),.k (Qe0 (z:=q.num)),.k co,.k (Ae (n:=(q.den:Int))),.k (Qf7 (a:=[-q.num,(q.den:Int)]) (Qan q) (Qxc hq.1 hq.2) (by show 2<=1000;decide) (Ql 2) hch)] rfl
end Orr
namespace Orr
end Orr
namespace Orr
open Go Go.Proofs Tryz
set_option maxRecDepth 10000
structure Rs(k:Crv):Prop where
 n:ZL k
 c:Cs 100000 16 k



theorem Qo3(l:Uo)(n:Nat):(lm l).take (min l.length n)=lm (l.take n):=by
 rw[lm,lm,<-Jv];rcases Nat.le_total l.length n with h|h
 ·rw[Zy h,Q6,Qn h]
 ·rw[V3 h]
theorem Qtx{l:Uo}{n:Nat}(hn:n<=1000):Uj 190 [.one (.row (lm l)),.oi n] [.one (.row (lm (l.take n)))]:=by
 rw[<-Qo3];have hll:(lm l).length=l.length:=by simp[lm]
 exact Ug func190 rfl [.r 9 (eI (b:=((min l.length n:Nat):Int)) (by omega)),.i (min l.length n)] rfl rfl (by simp[U3,hll];omega)
def Io(l:List RawInt):Us:=l.map Ea
theorem O5(l:List RawInt):(Io l).length=l.length:=by simp[Io]
abbrev rcw(z:RawPt):Ur:=[.row (Io z.x),.row (Io z.y),.bool z.d.b,.row (lm z.d.l)]
theorem UF{z:RawInt}(hz:z.Ok){most:Int}(hm:0<=most/\most<=999):Uj 152 [.agg (Ea z),.oi most] [.agg (G8 (H5 most z))]:=by
 obtain⟨b,l⟩:=z;have hb:=WQ hm.1 ⟨b,l⟩;have hs:Fe (H5 most ⟨b,l⟩)<=100000000:=Qa (Sw.2 (show(H5 most ⟨b,l⟩).natAbs<2^10 by omega)) (by decide);cases l with
 |nil=>exact Ug func152 rfl [.t rfl] rfl (by simp[H5,Ll]) trivial
 |
  cons u l =>
  have hu:=hz.u u (Qy ..);have co:=ZA (n:=H5 most ⟨b,u::l⟩) (by omega);have ct:=Qtt hs;have hr:Int.tmod (u:Int) (most+1)=(u:Int) % (most+1):=Y5 (by omega);have h1:=Ye (u:Int) (b:=most+1) (by omega);have h2:=Js (u:Int) (b:=most+1) (by omega);cases b with
  |
   true =>
   rw[show H5 most ⟨true,u::l⟩=-((u:Int) % (most+1)) from rfl]at co ct ⊢;exact Ug func152 rfl [.f (decide_eq_false (by simp[lm];try omega)),.x (l:=lm (u::l)) (i:=0) (xs:=[.int .u32 (u:Int)]) rfl,.r 18 (eI hr),.t rfl,.k co,.k ct] rfl rfl (by simp[U3];omega)
  |
   false =>
   rw[show H5 most ⟨false,u::l⟩=(u:Int) % (most+1) from rfl]at co ct ⊢;exact Ug func152 rfl [.f (decide_eq_false (by simp[lm];try omega)),.x (l:=lm (u::l)) (i:=0) (xs:=[.int .u32 (u:Int)]) rfl,.r 18 (eI hr),.f rfl,.k co,.k ct] rfl rfl (by simp[U3];omega)
theorem oz2{P:Program}[Mo P]{n:Nat}{Q:Exit->Sg->Ut->Prop}{L L':Sg}{B B':Ut}(d off T sz:Nat){it:List It}(hs:Rk it=true)(h:bE (P:=P) d L B [.oc d off T sz]=some (L',B',[],[]))(k:AK P n Q it L' B'):AK P n Q it L B:=AK.sub (EW h EqOk.nil) hs k
theorem pz{P:Program}[Mo P]{n:Nat}{Q:Exit->Sg->Ut->Prop}{L L':Sg}{B B':Ut}(i:Nat){it:List It}(hs:Rk it=true)(h:Qc7 [i] L B=some (L',B'))(k:AK P n Q it L' B'):AK P n Q it L B:=AK.sub (GV h) hs k
def Ap(l:Um):Us:=l.map G8
theorem qJ(l:Um):(Ap l).length=l.length:=by simp[Ap]
theorem RA{most:Int}{l:List RawInt}{i:Nat}{a:RawInt}(hi:i<3)(h:l[i]? = some a):Ap (Gp most (l.take (i+1)))=Ap (Gp most (l.take i))++[G8 (H5 most a)]:=by
 rw[yJ hi h];simp[Ap]
theorem yZ{most:Int}{l:List RawInt}{i:Nat}(hi:i<=3)(h:i<=l.length):(Ap (Gp most (l.take i))).length=i:=by
 rw[qJ];unfold Gp;rw[List.length_map,List.length_take,List.length_take];omega
def rwq(z:RawPt):Ur:=rcw z++[.int .i64 z.id]
end Orr
namespace Orr
open Go Go.Proofs Tryz Orq
set_option maxRecDepth 10000
theorem Qnf{l:Uo}(hl:l.length<=1000000000):Uj 156 [.one (.row (lm l)),.one (.row (lm l))] [.one (.bool true)]:=by
 have hll:(lm l).length=l.length:=by simp[lm]
 refine Fv func156 rfl ?_;refine Ud [.f (decide_eq_false (λh=>h rfl))] rfl ?_;refine Ui (S:=Nat) 0 (λL1 i=>(5,.v (.oi i))::L1) (λ_=>[]) (λi=>l.length-i) (λi=>i<=l.length) 0 (Qh _) rfl rfl λi hi=>?_
 by_cases h:i<l.length
 ·have hx:(lm l)[i]? = some [.int .u32 ((l[i]:Nat):Int)]:=G5 (Qe h);refine Ue [.T,.x hx,.x hx,.f (decide_eq_false (λh=>h rfl))] rfl ?_;exact rd (i+1) (by omega) h rfl
 ·exact Uf [.F] rfl
theorem Qnd{z:Int}(hz:Fe z<=4294967295):Uj 102 [.agg (G8 z),.agg (G8 z)] [.one (.bool true)] :=
 Ug func102 rfl [.g 10 true (decide_eq_true rfl),.k (Qnf (l:=Gb z.natAbs) (by have:=Rm (x:=z.natAbs) (k:=4294967295) hz;omega))] rfl
theorem Qne{p:Um}(hp:Bd 4294967295 p)(hl:p.length<=1000000):Uj 60 [pr p,pr p] [.one (.bool true)]:=by
 have hpl:(p.map G8).length=p.length:=by simp
 show Uj 60 [.one (.row (p.map G8)),.one (.row (p.map G8))] _;refine Fv func60 rfl ?_;refine Ud [.f (decide_eq_false (λh=>h rfl))] rfl ?_;refine Ui (S:=Nat) 0 (λL1 i=>(13,.v (.oi i))::L1) (λ_=>[]) (λi=>p.length-i) (λi=>i<=p.length) 0 (Qh _) rfl rfl λi hi=>?_
 by_cases h:i<p.length
 ·have hx:=Pg (Ri h);refine Ue [.T,.x hx,.x hx,.k (Qnd (Ft hp i)),.f rfl] rfl ?_;exact rd (i+1) (by omega) h rfl
 ·exact Uf [.F] rfl
theorem Qfh{l:List Ct}(hl:∀c∈l,Cp c.p)(hn:l.length≤1000000):Uj 17 [.one (.row (U8 l)),.one (.row (U8 l))] [.one (.bool true)]:=by
 have hcl:=Po l;refine Fv func17 rfl ?_;refine Ud [.f (decide_eq_false (λh=>h rfl))] rfl ?_;refine Ui (S:=Nat) 0 (λL1 i=>(13,.v (.oi i))::L1) (λ_=>[]) (λi=>l.length-i) (λi=>i<=l.length) 0 (Qh _) rfl rfl λi hi=>?_
 by_cases h:i<l.length
 ·obtain⟨c,hc⟩:=gxE (l:=l) (i:=i) h;have hx:=XQ hc;have hp:=hl c (Qc hc);refine Ue [.T,.x hx,.x hx,.g 27 false (by simp),.x hx,.x hx,.g 40 false (by simp),.x hx,.x hx,.k (Qne (U5 hp.b (by decide)) (by have:=hp.l;omega)),.f rfl] rfl ?_;exact rd (i+1) (by omega) h rfl
 ·exact Uf [.F] rfl
end Orr
namespace Orr
open Go Go.Proofs Tryz
set_option maxRecDepth 10000
theorem Cs.up{s n s' n':Nat}{k:Crv}(h:Cs s n k)(hs:s<=s')(hn:n<=n'):Cs s' n' k:=⟨U5 h.x hs,U5 h.y hs,Qa h.d hs,Qa h.lx hn,Qa h.ly hn⟩
end Orr
namespace Orr
open Go Go.Proofs Tryz Orq
set_option maxRecDepth 10000


theorem BM{c:Cr}{l l':List Pt}{r1:Us×Us}{ws:List Wt}(hc:CrOk c)(hl:∀p∈l',Sc p.c)(hn:l'.length≤1000)(h:Tl c.l c.now (Fo (AS l' c.now))=some ws) :
 U6 prog 397 [.one (.ow 0 0),.agg [pts l'],.oi 0] [.blk 199 (Te c (U0 l) r1)] [.oi 0] [.blk 199 (Te ⟨c.now,ws,c.ev⟩ (U0 l') (pP l' c.now))]:=by
 have hB:=pV hl hn;have cn:=mZ (T:=199) (c:=c) (r0:=U0 l') (r1:=r1) hc.n;have cb:=IH (c:=c) (r1:=r1) hl hn hc.n;have cg:=Qbl (T:=199) (r0:=U0 l') (r1:=pP l' c.now) hc hc.n (I4 hc.n) (Yd 0) (hB.p _ hc.n) (hB.n _ hc.n) h;refine Fv func397 rfl ?_;exact Uh [] [0] [.f rfl,.c [0] cn,.c [0] cb,.c [0] cg] rfl
theorem Qnm{lx ly:Us}{px py:Um}{x y:LV}{d id:Int}{c:Cr}{l:List Pt}{r1:Us×Us}{ws:List Wt}(hx:IsInts lx px)(hy:IsInts ly py)(hd:Gd x y d)(hk:Cs 4294967294 1073741824 (Crv.mk px py d))(hll:l.length<=900)
 (he:WF l ⟨Crv.norm (Crv.mk px py d),id⟩=0) (hc:CrOk c) (hl:∀p∈put l ⟨Crv.norm (Crv.mk px py d),id⟩,Sc p.c) (hn:(put l ⟨Crv.norm (Crv.mk px py d),id⟩).length≤1000) (h:Tl c.l c.now (Fo (AS (put l ⟨Crv.norm (Crv.mk px py d),id⟩) c.now))=some ws) :
 U6 prog 395 [.one (.ow 0 0),.agg [.row lx,.row ly,x,y,.int .i64 id]] [.blk 199 (Te c (U0 l) r1)] [.oi 0] [.blk 199 (Te ⟨c.now,ws,c.ev⟩ (U0 (put l ⟨Crv.norm (Crv.mk px py d),id⟩)) (pP (put l ⟨Crv.norm (Crv.mk px py d),id⟩) c.now))]:=by
 have cp:=wW (l:=l) (id:=id) hx hy hd hk (by omega);rw[if_pos he,he]at cp;have cw:=BM (l:=l) (r1:=r1) hc hl hn h;refine Fv func395 rfl ?_;obtain⟨b,l',rfl,rfl,_⟩:=hd;exact Uh [] [0] [.k cp,.c [0] cw] rfl
theorem Qfn{lx ly:Us}{px py:Um}{x y:LV}{d id:Int}{c:Cr}{l l':List Pt}{r1:Us×Us}{ws:List Wt}(hx:IsInts lx px)(hy:IsInts ly py)(hd:Gd x y d)(hk:Cs 4294967294 1073741824 (Crv.mk px py d))(hll:l.length<=1000)(h:has l id=true)(hc:CrOk c)
 (hl':l'=l.set (Rw l id) (Pt.mk (Crv.norm (Crv.mk px py d)) id)) (hs:∀p∈l',Sc p.c) (hw:Tl c.l c.now (Fo (AS l' c.now))=some ws) :
 U6 prog 396 [.one (.ow 0 0),.agg [.row lx,.row ly,x,y,.int .i64 id]] [.blk 199 (Te c (U0 l) r1)] [.oi 0] [.blk 199 (Te ⟨c.now,ws,c.ev⟩ (U0 l') (pP l' c.now))]:=by
 have ct1:=UW (l:=l) hx hy hd hk (by omega) h;rw[<-hl']at ct1;have cw:=BM (c:=c) (l:=l) (l':=l') (r1:=r1) hc hs (by rw[hl',Xd];omega) hw;obtain⟨b,r,rfl,rfl,_⟩:=hd;refine Fv func396 rfl ?_;exact Uh [] [0] [.k ct1,.c [0] cw] rfl
theorem Qfm{id:Int}{c:Cr}{l l':List Pt}{r1:Us×Us}{ws:List Wt}(hll:l.length<=1000)(h:has l id=true)(hc:CrOk c)
 (hl':l'=l.take (Rw l id)++l.drop (Rw l id+1)) (hs:∀p∈l',Sc p.c) (hw:Tl c.l c.now (Fo (AS l' c.now))=some ws) :
 U6 prog 394 [.one (.ow 0 0),.oi id] [.blk 199 (Te c (U0 l) r1)] [.oi 0] [.blk 199 (Te ⟨c.now,ws,c.ev⟩ (U0 l') (pP l' c.now))]:=by
 have ct1:=UV (l:=l) (id:=id) (by omega) h;rw[<-hl']at ct1;have cw:=BM (c:=c) (l:=l) (l':=l') (r1:=r1) hc hs (by rw[hl',Qu,Qq,Q7];omega) hw;refine Fv func394 rfl ?_;exact Uh [] [0] [.k ct1,.c [0] cw] rfl
theorem Qbn{c:Cr}{r0:Us}{r1:Us×Us}:U6 prog 52 [.one (.ow 0 0)] [.blk 199 (Te c r0 r1)] [.one (.ow 1 0)] [.blk 199 (Te c r0 r1),.blk 199 (Te c r0 r1)]:=by
 refine Fv func52 rfl ?_;exact Uh [] [0,1] [] rfl
end Orr
namespace Orq
open Orr Go
def p3j(W:List Pt)(x:Pt)(i j:Nat):List P3:=Lt i W++(H6 j (W.drop (i+1))).map (λm=>(x,m))
def qT(W:List Pt)(x y:Pt)(i j k:Nat):List P3:=Lt i W++(H6 j (W.drop (i+1))++(((W.drop (i+1)).drop (j+1)).take k).map (λz=>(y,z))).map (λm=>(x,m))
theorem LM(W:List Pt)(x:Pt)(i:Nat):p3j W x i 0=Lt i W:=by simp[p3j,H6]
theorem LC(W:List Pt)(x y:Pt)(i j:Nat):qT W x y i j 0=p3j W x i j:=by simp[qT,p3j]
theorem LN{W:List Pt}{x y z:Pt}{i j k:Nat}(h:((W.drop (i+1)).drop (j+1))[k]? = some z):qT W x y i j (k+1)=qT W x y i j k++[(x,y,z)]:=by
 unfold qT;rw[Zv,h];simp
theorem yB{W:List Pt}{x y:Pt}{i j k:Nat}(hy:(W.drop (i+1))[j]? = some y)(hk:((W.drop (i+1)).drop (j+1)).length<=k):qT W x y i j k=p3j W x i (j+1):=by
 unfold qT p3j;rw[Qn hk,Ln _ j y hy]
theorem yN{W:List Pt}{x:Pt}{i j:Nat}(hx:W[i]? = some x)(hj:j=(W.drop (i+1)).length):p3j W x i j=Lt (i+1) W:=by
 unfold p3j;rw[hj,VY W i x hx];rfl
theorem Qam{W:List Pt}{i:Nat}(h:i=W.length):Lt i W=Rv W:=by rw[h];rfl
def p4j(W:List Pt)(x:Pt)(i j:Nat):List P4:=Ev i W++(Lt j (W.drop (i+1))).map (λm=>(x,m))
def p4k(W:List Pt)(x y:Pt)(i j k:Nat):List P4:=Ev i W++(p3j (W.drop (i+1)) y j k).map (λm=>(x,m))
def p4m(W:List Pt)(x y z:Pt)(i j k m:Nat):List P4:=Ev i W++(qT (W.drop (i+1)) y z j k m).map (λm=>(x,m))
theorem Qjh(W:List Pt)(x:Pt)(i:Nat):p4j W x i 0=Ev i W:=by simp[p4j,Lt]
theorem Qji(W:List Pt)(x y:Pt)(i j:Nat):p4k W x y i j 0=p4j W x i j:=by unfold p4k p4j;rw[LM]
theorem Qjk(W:List Pt)(x y z:Pt)(i j k:Nat):p4m W x y z i j k 0=p4k W x y i j k:=by unfold p4m p4k;rw[LC]
theorem Qjj{W:List Pt}{x y z u:Pt}{i j k m:Nat}(h:(((W.drop (i+1)).drop (j+1)).drop (k+1))[m]? = some u):p4m W x y z i j k (m+1)=p4m W x y z i j k m++[(x,y,z,u)]:=by
 unfold p4m;rw[LN h];simp
theorem Qpn{W:List Pt}{x y z:Pt}{i j k m:Nat}(hz:((W.drop (i+1)).drop (j+1))[k]? = some z)(hm:(((W.drop (i+1)).drop (j+1)).drop (k+1)).length<=m):p4m W x y z i j k m=p4k W x y i j (k+1):=by
 unfold p4m p4k;rw[yB hz hm]
theorem Qpm{W:List Pt}{x y:Pt}{i j k:Nat}(hy:(W.drop (i+1))[j]? = some y)(hk:k=((W.drop (i+1)).drop (j+1)).length):p4k W x y i j k=p4j W x i (j+1):=by
 unfold p4k p4j;rw[yN hy hk]
theorem Qpl{W:List Pt}{x:Pt}{i j:Nat}(hx:W[i]? = some x)(hj:j=(W.drop (i+1)).length):p4j W x i j=Ev (i+1) W:=by
 unfold p4j;rw[hj,TU W i x hx];rfl
theorem Qp2{W:List Pt}{i:Nat}(h:i=W.length):Ev i W=O4 W:=by rw[h];rfl
theorem WV:∀(k:Nat) (l:List Pt),∃r,Gs l=H6 k l++r
 | 0,l=>⟨Gs l,rfl⟩
 |k+1,[]=>⟨[],rfl⟩
 |
  k+1,x::l=>by
  obtain⟨r,h⟩:=WV k l;exact⟨r,by show l.map _++H6 l.length l=l.map _++H6 k l++r;rw[show H6 l.length l=Gs l from rfl,h,Zd]⟩
theorem AQ:∀(k:Nat) (l:List Pt),∃r,Rv l=Lt k l++r
 | 0,l=>⟨Rv l,rfl⟩
 |k+1,[]=>⟨[],rfl⟩
 |
  k+1,x::l=>by
  obtain⟨r,h⟩:=AQ k l;exact⟨r,by show(Gs l).map _++Lt l.length l=(Gs l).map _++Lt k l++r;rw[show Lt l.length l=Rv l from rfl,h,Zd]⟩
theorem rE:∀(k:Nat) (l:List Pt),∃r,O4 l=Ev k l++r
 | 0,l=>⟨O4 l,rfl⟩
 |k+1,[]=>⟨[],rfl⟩
 |
  k+1,x::l=>by
  obtain⟨r,h⟩:=rE k l;exact⟨r,by show(Rv l).map _++Ev l.length l=(Rv l).map _++Ev k l++r;rw[show Ev l.length l=O4 l from rfl,h,Zd]⟩
theorem iL{W:List Pt}(h6:W.length<=6){x y:Pt}{i j k:Nat}(hx:W[i]? = some x)(hy:(W.drop (i+1))[j]? = some y):(qT W x y i j k).length<=20:=by
 have h0:=(VQ h6).1;obtain⟨r,hr⟩:=AQ (i+1) W;rw[VY W i x hx]at hr;obtain⟨r2,hr2⟩:=WV (j+1) (W.drop (i+1));rw[Ln _ j y hy]at hr2;have e1:=congrArg List.length hr;have e2:=congrArg List.length hr2;have e3:(((W.drop (i+1)).drop (j+1)).take k).length<=((W.drop (i+1)).drop (j+1)).length:=by rw[Qq];exact Nat.min_le_right _ _
 unfold qT;simp only[Qu,Q8]at e1 e2 ⊢;omega
theorem Qpo{W:List Pt}(h6:W.length<=6){x y z:Pt}{i j k m:Nat}(hx:W[i]? = some x)(hy:(W.drop (i+1))[j]? = some y)(hz:((W.drop (i+1)).drop (j+1))[k]? = some z):(p4m W x y z i j k m).length<=15:=by
 have h0:=(VQ h6).2;obtain⟨r,hr⟩:=rE (i+1) W;rw[TU W i x hx]at hr;obtain⟨r1,hr1⟩:=AQ (j+1) (W.drop (i+1));rw[VY _ j y hy]at hr1;obtain⟨r2,hr2⟩:=WV (k+1) ((W.drop (i+1)).drop (j+1));rw[Ln _ k z hz]at hr2;have e1:=congrArg List.length hr;have e2:=congrArg List.length hr1;have e4:=congrArg List.length hr2;have e3:((((W.drop (i+1)).drop (j+1)).drop (k+1)).take m).length<=(((W.drop (i+1)).drop (j+1)).drop (k+1)).length:=by rw[Qq];exact Nat.min_le_right _ _
 unfold p4m qT;simp only[Qu,Q8]at e1 e2 e4 ⊢;omega
theorem Qcn{sg:Um->Int}(hg:∀p,-1<=Hj sg p/\Hj sg p<=1)(ps:List P3):kG (A1 (ZN sg ps)):=by
 have key:∀(ps:List P3) (M:Bb),kG M->kG ((ZN sg ps).foldl (λM e=>L9 M e.1 (.int .i64 e.2)) M):=by
  intro ps
  induction ps with
  |nil=>intro M h;exact h
  |cons m ps ih=>intro M h;exact ih _ (Qih h (hg _))
 exact key ps [] Qig
theorem pR(sg:Um->Int)(T:Bb)(ps:List P4):VN (Od T (VS sg ps)):=by
 have key:∀(ps:List P4) (F:Bb),VN F->VN ((VS sg ps).foldl (λF e=>OV T e.2 e.1 F) F):=by
  intro ps
  induction ps with
  |nil=>intro M h;exact h
  |cons m ps ih=>intro M h;exact ih _ (pH h)
 exact key ps [] Qa3
theorem qE(p:Um)(q:Rat):-1<=Ra p q/\Ra p q<=1:=by
 rw[Np];unfold Fg
 split
 ·exact⟨by decide,by decide⟩
 ·split <;> exact⟨by decide,by decide⟩
theorem Qkv{p:Um}{a:Tm}{s:Int}(h:GR p a=some s):-1<=s/\s<=1:=by
 unfold GR at h
 split at h
 ·injection h with h;subst h;exact⟨by decide,by decide⟩
 ·split at h
  ·injection h with h;subst h;exact qE _ _
  ·obtain⟨g,_,h⟩:=Qd.1 h
   split at h
   ·injection h with h;subst h;exact⟨by decide,by decide⟩
   ·obtain⟨c,_,h⟩:=Qd.1 h;obtain⟨x,_,h⟩:=Qd.1 h;injection h with h;subst h;exact qE _ _
theorem Qh4(a:Tm)(p:Um):-1<=Hj (Fu a) p/\Hj (Fu a) p<=1:=by
 have hs:∀p,-1<=Fu a p/\Fu a p<=1:=λp=>by
  unfold Fu;cases h:GR p a with
  |none=>exact⟨by decide,by decide⟩
  |some s=>exact Qkv h
 have key:∀(k:Nat) (p:Um),-1<=Tv (Fu a) k p/\Tv (Fu a) k p<=1:=by
  intro k
  induction k with
  |zero=>intro p;exact⟨by simp[Tv],by simp[Tv]⟩
  |
   succ k ih =>
   intro p;simp only[Tv]
   split
   ·exact⟨by decide,by decide⟩
   ·split
    ·exact ih _
    ·exact hs p
 exact key _ p
end Orq
namespace Orr
open Go Go.Proofs Tryz Orq
set_option maxRecDepth 10000
theorem lK{a b c:Pt}{t:Tm}(ha:Sc a.c)(hb:Sc b.c)(hc:Sc c.c)(ht:Va t):Uj 167 [.oi 3,.agg (ta t),.one (.row [Fc a,Fc b,Fc c])] [.agg (Dq (Lh (Fu t) a b c)),.oi 0]:=by
 have hp:=(YU ha hb hc).dp;have e:Dq (Lh (Fu t) a b c)=[.int .i64 3,.int .i64 a.id,.int .i64 b.id,.int .i64 c.id,.int .i64 0,pl (Hh a.c b.c c.c),.int .i64 (Hj (Fu t) (Hh a.c b.c c.c))]:=by rw[Lh]
 rw[e];have cg:=SJ hp ht;have cf:=wV ha hb hc;generalize Hh a.c b.c c.c=F at *;refine Fv func167 rfl ?_;refine Ud [.k Qbs,.f rfl] rfl ?_;refine Ui (S:=Nat) 3 (λL1 i=>(22,.v (.oi i))::L1) (λi=>[.blk 189 (ta t),.blk 126 zCt,.blk 126 [.int .i64 3,.int .i64 (if 1<=i then a.id else 0),.int .i64 (if 2<=i then b.id else 0),.int .i64 (if 3<=i then c.id else 0),.int .i64 0,.nils,.int .i64 0]]) (λi=>3-i) (λi=>i<=3) 0 (Qh _) rfl rfl λi hi=>?_
 rcases(show i=0\/i=1\/i=2\/i=3 by omega)with rfl|rfl|rfl|rfl
 ·refine Ud [.t rfl,.x (i:=0) (xs:=Fc a) rfl,.i 0] rfl ?_ (by simp[U3]);exact rd 1 (by omega) (by omega) rfl
 ·refine Ud [.t rfl,.x (i:=1) (xs:=Fc b) rfl,.i 1] rfl ?_ (by simp[U3]);exact rd 2 (by omega) (by omega) rfl
 ·refine Ud [.t rfl,.x (i:=2) (xs:=Fc c) rfl,.i 2] rfl ?_ (by simp[U3]);exact rd 3 (by omega) (by omega) rfl
 ·exact Uf [.f rfl,.f rfl,.f rfl,.t rfl,.x (i:=0) (xs:=Fc a) rfl,.x (i:=1) (xs:=Fc b) rfl,.x (i:=2) (xs:=Fc c) rfl,.k cf,.k cg] rfl
theorem Ib{α:Type}(s:α->α->α->Bool):∀(l acc:List α) (c:α),P7 s acc (l++[c])=c::Lq s c (P7 s acc l)
 | [],_,_=>rfl
 |_::l,_,c=>Ib s l _ c
theorem lP{R:List Pt}{t:Tm}(hR:∀p∈R,Sc p.c)(hn:R.length≤1000000)(ht:Va t):Uj 211 [.agg (ta t),.one (pts R)] [.one (pts (Pn (Fu t) R))]:=by
 have hcl:=G6 R;show Uj 211 [.agg (ta t),.one (.row (U0 R))] [.one (.row (U0 (P7 (FU (Fu t)) [] R).reverse))];obtain⟨s,hs⟩:=nmE (FU (Fu t));have hs':∀a b c,s a b c=decide (0<Hj (Fu t) (Hh a.c b.c c.c)):=λa b c=>by rw[hs];rfl
 rw[<-hs];refine Fv func211 rfl ?_;refine Ud [.o 5 41 5] rfl ?_;refine Ui (S:=Nat) 2 (λL1 i=>(10,.v (.oi i))::(5,.v (.one (.orow 1 5 none)))::L1) (λi=>[.blk 189 (ta t),.row false 41 5 (U0 (P7 s [] (R.take i)).reverse)]) (λi=>R.length-i) (λi=>i<=R.length) 0 (Qh _) rfl rfl λi hi=>?_
 by_cases hlt:i<R.length
 ·obtain⟨c,hc⟩:=gxE (l:=R) (i:=i) hlt;have hcp:=hR c (Qc hc);have hst:P7 s [] (R.take (i+1))=c::Lq s c (P7 s [] (R.take i)):=by rw[Zv,hc];exact Ib s _ _ c
  obtain⟨O,hO⟩:=nmE (P7 s [] (R.take i));have hOl:O.length<=1000000:=by
   have:=KP s (R.take i) [];rw[<-hO,Qq]at this;simp at this;omega
  have hOm:∀x∈O,Sc x.c:=λx hx=>by
   rw[hO]at hx;rcases KN hx with h|h
   ·cases h
   ·exact hR x (Qo h)
  rw[<-hO]at hst ⊢;have hrl:(U0 O.reverse).length=O.length:=by rw[G6,Xp]
  have hm:∀y∈[Fc c],y.length=5:=λy hy=>by rw[Qk.1 hy];rfl
  have hget:∀{pre r:List Pt} {x:Pt},O=pre++x::r->∀j,j=r.length->(U0 O.reverse)[j]? = some (Fc x):=λ{pre r x} e j hj=>by
   refine S6 ?_;rw[e,hj];simp
  have hfin:∀{pre st:List Pt},O=pre++st->U0 (c::st).reverse=(U0 O.reverse).take st.length++[Fc c]:=λ{pre st} e=>by
   rw[e];simp[U0,Jv,List.take_append]
  have hfull:U0 (c::O).reverse=U0 O.reverse++[Fc c]:=by simp[U0]
  refine Ud [.t (by simp[hcl];omega),.x (S6 hc)] rfl ?_;refine Ui (S:=Bool×List Pt) 3 (λL1 s=>(5,.v (.one (.orow 1 5 (cond s.1 (some (0,s.2.length)) none))))::L1) (λ_=>[.blk 189 (ta t),.row false 41 5 (U0 O.reverse),.blk 41 (Fc c)]) (λs=>s.2.length) (λst=>(∃pre,O=pre++st.2/\(st.1=false->pre=[]))/\Lq s c st.2=Lq s c O) (false,O) ⟨⟨[],rfl,λ_=>rfl⟩,rfl⟩ rfl rfl λ⟨b,st⟩ ⟨⟨pre,h1,h2⟩,h3⟩=>?_
  have h1:O=pre++st:=h1;have h3:Lq s c st=Lq s c O:=h3;have hl1:O.length=pre.length+st.length:=by rw[h1,Qu]
  have fin:∀{st:List Pt},O=pre++st->Lq s c st=Lq s c O->Lq s c st=st->U0 (P7 s [] (R.take (i+1))).reverse=(U0 O.reverse).take st.length++[Fc c]/\(pre=[]->U0 (P7 s [] (R.take (i+1))).reverse=U0 O.reverse++[Fc c]):=λ{st} e1 e2 e3=>by
   rw[hst,<-e2,e3];refine⟨hfin e1,λhp=>?_⟩;rw[hp]at e1;rw[<-hfull,e1];rfl
  rcases st with _|⟨z,_|⟨y,r⟩⟩
  ·obtain⟨f1,f2⟩:=fin h1 h3 rfl;cases b with
   |
    false =>
    have hp:=h2 rfl;have f2:=f2 hp;rw[hp]at hl1;have hl2:(U0 O.reverse).length<=1:=by rw[hrl,hl1];simp
    refine Ue [.g 17 false Uk,.f rfl,.s (sz:=5) hm] rfl ?_;exact rd (i+1) (by omega) hlt (by rw[f2];rfl)
   |
    true =>
    refine Ue [.g 17 false (decide_eq_false (by simp)),.f rfl,.s (sz:=5) hm] rfl ?_;exact rd (i+1) (by omega) hlt (by rw[f1];rfl)
  ·obtain⟨f1,f2⟩:=fin h1 h3 rfl;cases b with
   |
    false =>
    have hp:=h2 rfl;have f2:=f2 hp;rw[hp]at hl1;have hl2:(U0 O.reverse).length<=1:=by rw[hrl,hl1];simp
    refine Ue [.g 17 false Uk,.f rfl,.s (sz:=5) hm] rfl ?_;exact rd (i+1) (by omega) hlt (by rw[f2];rfl)
   |
    true =>
    refine Ue [.g 17 false (decide_eq_false (by simp)),.f rfl,.s (sz:=5) hm] rfl ?_;exact rd (i+1) (by omega) hlt (by rw[f1];rfl)
  ·have sz:=hOm z (by rw[h1];simp);have sy:=hOm y (by rw[h1];simp);have co:=wV sy sz hcp;have cg:=SJ (YU sy sz hcp).dp ht;have gz:=hget h1 (r.length+1) rfl;have gy:=hget (pre:=pre++[z]) (r:=r) (x:=y) (by rw[h1];simp) r.length rfl;have hl1:O.length=pre.length+(r.length+2):=hl1;have hls:=hs' y z c;by_cases hq:s y z c=true
   ·have hg:¬Hj (Fu t) (Hh y.c z.c c.c)<=0:=by rw[hls]at hq;have:=of_decide_eq_true hq;omega
    obtain⟨f1,f2⟩:=fin h1 h3 (by simp only[Lq];rw[if_pos hq]);cases b with
    |
     false =>
     have hp:=h2 rfl;have f2:=f2 hp;rw[hp]at hl1;have hl2:(U0 O.reverse).length=r.length+2:=by rw[hrl,hl1];simp
     refine Ue [.g 17 true Ul,.r 21 (eI (b:=(r.length:Int)) (by omega)),.i r.length,.x gy,.r 28 (eI (b:=((r.length+1:Nat):Int)) (by omega)),.i (r.length+1),.x gz,.k co,.k cg,.f (decide_eq_false hg),.s (sz:=5) hm] rfl ?_;exact rd (i+1) (by omega) hlt (by rw[f2];rfl)
    |
     true =>
     refine Ue [.g 17 true (decide_eq_true (by simp;omega)),.r 21 (eI (b:=(r.length:Int)) (by simp;omega)),.i r.length,.x (l:=U0 O.reverse) (i:=0+r.length) (xs:=Fc y) (by rw[Zz];exact gy),.r 28 (eI (b:=((r.length+1:Nat):Int)) (by simp)),.i (r.length+1),.x (l:=U0 O.reverse) (i:=0+(r.length+1)) (xs:=Fc z) (by rw[Zz];exact gz),.k co,.k cg,.f (decide_eq_false hg),.s (sz:=5) hm] rfl ?_;exact rd (i+1) (by omega) hlt (by rw[f1];rfl)
   ·have hg:Hj (Fu t) (Hh y.c z.c c.c)<=0:=by
     rw[hls]at hq;have:=of_decide_eq_false (Wu.2 hq);omega
    have hpop:Lq s c (y::r)=Lq s c O:=by rw[<-h3];simp only[Lq];rw[if_neg hq]
    have hin:(∃pre',O=pre'++(y::r)/\((true:Bool)=false->pre'=[]))/\Lq s c (y::r)=Lq s c O:=⟨⟨pre++[z],by rw[h1];simp,λh=>by cases h⟩,hpop⟩;cases b with
    |
     false =>
     have hp:=h2 rfl;rw[hp]at hl1;have hl2:(U0 O.reverse).length=r.length+2:=by rw[hrl,hl1];simp
     refine Ue [.g 17 true Ul,.r 21 (eI (b:=(r.length:Int)) (by omega)),.i r.length,.x gy,.r 28 (eI (b:=((r.length+1:Nat):Int)) (by omega)),.i (r.length+1),.x gz,.k co,.k cg,.t (decide_eq_true hg),.r 42 (eI (b:=((r.length+1:Nat):Int)) (by omega)),.i (r.length+1)] rfl ?_;exact rd (true,y::r) (by simp) hin rfl
    |
     true =>
     refine Ue [.g 17 true (decide_eq_true (by simp;omega)),.r 21 (eI (b:=(r.length:Int)) (by simp;omega)),.i r.length,.x (l:=U0 O.reverse) (i:=0+r.length) (xs:=Fc y) (by rw[Zz];exact gy),.r 28 (eI (b:=((r.length+1:Nat):Int)) (by simp)),.i (r.length+1),.x (l:=U0 O.reverse) (i:=0+(r.length+1)) (xs:=Fc z) (by rw[Zz];exact gz),.k co,.k cg,.t (decide_eq_true hg),.r 42 (eI (b:=((r.length+1:Nat):Int)) (by simp)),.i (r.length+1)] rfl ?_;exact rd (true,y::r) (by simp) hin rfl
 ·obtain rfl:i=R.length:=by omega
  rw[Q6];exact Uf [.f (by simp[hcl])] rfl
theorem mH{sg:Um->Int}{R:List Pt}(h:R≠[]):0<(Pn sg R).length:=by
 unfold Pn;rw[Xp];obtain⟨x,hx⟩:∃x,R.getLast? = some x:=⟨_,Yq h⟩;obtain⟨l,hl⟩:=Y8.1 hx;rw[hl,Ib];simp
theorem rW{α:Type}(s:α->α->α->Bool)(c:α):∀{st:List α},st≠[]->0<(Lq s c st).length
 | [],h=>absurd rfl h
 | [_],_=>by simp[Lq]
 |
  b::a::r,_=>by
  simp only[Lq]
  split
  ·simp
  ·exact rW s c (by simp)
theorem BO{sg:Um->Int}{R:List Pt}(h:2<=R.length):2<=(Pn sg R).length:=by
 unfold Pn;rw[Xp];obtain⟨x,hx⟩:∃x,R.getLast? = some x:=⟨_,Yq (by intro e;rw[e]at h;simp at h)⟩;obtain⟨l,hl⟩:=Y8.1 hx;have hl0:l≠[]:=by intro e;rw[hl,e]at h;simp at h
 have:=mH (sg:=sg) hl0;unfold Pn at this;rw[Xp]at this;have:=rW (FU sg) x (st:=P7 (FU sg) [] l) (by intro e;rw[e]at this;simp at this);rw[hl,Ib,Q5];omega
theorem lE{R:List Pt}{t:Tm}(hR:∀p∈R,Sc p.c)(hn:R.length≤1000000)(ht:Va t):Uj 168 [.agg (ta t),.one (pts R)] [.one (pts (Eb (Fu t) R))]:=by
 have hcl:=G6 R;have hrl:=G6 R.reverse;rw[Xp]at hrl;show Uj 168 [.agg (ta t),.one (.row (U0 R))] [.one (.row (U0 (Eb (Fu t) R)))];refine Fv func168 rfl ?_;by_cases h3:R.length<3
 ·have e:Eb (Fu t) R=R:=if_pos h3;rw[e];exact Uf [.T] rfl
 have c1:=lP hR hn ht;have c2:=lP (R:=R.reverse) (λp hp=>hR p (Jm.1 hp)) (by rw[Xp];exact hn) ht;have p1:=BO (sg:=Fu t) (R:=R) (by omega);have p2:=BO (sg:=Fu t) (R:=R.reverse) (by rw[Xp];omega);have k1:=QF (Fu t) R;have k2:=QF (Fu t) R.reverse;rw[Xp]at k2;refine go tt [.F,.o 5 41 5,.r 15 (eI (b:=(R.length:Int)-1-((0:Nat):Int)) (by omega))] rfl (by simp[U3,hcl];omega) ?_;refine Ui (S:=Nat) 2 (λL1 j=>(6,.v (.oi ((R.length:Int)-1-(j:Int))))::(5,.v (.one (.orow 1 5 none)))::L1) (λj=>[.blk 189 (ta t),.row false 41 5 (U0 (R.reverse.take j))]) (λj=>R.length-j) (λj=>j<=R.length) 0 (Qh _) rfl rfl λj hj=>?_
 by_cases hlt:j<R.length
 ·obtain⟨x,hx⟩:=gxE (l:=R) (i:=R.length-1-j) (by omega);have hx':R.reverse[j]? = some x:=by rw[List.getElem?_reverse (by omega)];exact hx
  have hm:∀y∈[Fc x],y.length=5:=λy hy=>by rw[Qk.1 hy];rfl
  have e:U0 (R.reverse.take (j+1))=U0 (R.reverse.take j)++[Fc x]:=by rw[Zv,hx'];simp[U0]
  have htl:(U0 (R.reverse.take j)).length=j:=by rw[G6,Qq,Xp];omega
  refine go tt [.T,.r 22 (eI (b:=((R.length-1-j:Nat):Int)) (by omega)),.x (S6 hx),.s (sz:=5) hm,.r 19 (eI (b:=(R.length:Int)-1-((j+1:Nat):Int)) (by omega))] rfl (by simp[U3,htl];omega) ?_;exact rd (j+1) (by omega) hlt (by rw[e];rfl)
 ·obtain rfl:j=R.length:=by omega
  rw[Qn (by rw[Xp];exact Ql _)];obtain⟨A,hA⟩:=nmE (Pn (Fu t) R);obtain⟨C,hC⟩:=nmE (Pn (Fu t) R.reverse);have e:Eb (Fu t) R=A.dropLast++C.dropLast:=by rw[hA,hC];exact if_neg h3
  rw[<-hA]at c1 p1 k1;rw[<-hC]at c2 p2 k2;rw[e];have hs:∀y∈(C.map Fc).take (C.length-1),y.length=5:=λy hy=>YI C y (Qo hy)
  have hs2:∀y∈(A.map Fc).take (A.length-1),y.length=5:=λy hy=>YI A y (Qo hy)
  refine Uf [.F,.p 1,.k c1,.k c2,.r 36 (eI (b:=((A.length-1:Nat):Int)) (by simp;omega)),.r 39 (eI (b:=((A.length-1:Nat):Int)) (by simp;omega)),.i (A.length-1),.r 44 (eI (b:=((C.length-1:Nat):Int)) (by simp;omega)),.i (C.length-1),.s (sz:=5) hs] rfl (by simp[U0,Jv,List.dropLast_eq_take]) ?_;simp only[U3,Qq,Q8]
  and_intros <;> first|exact hs2|omega
theorem SX{l:List Pt}{t:Tm}(hl:∀p∈l,Sc p.c)(hn:l.length≤1000000)(ht:Va t):U6 prog 165 [.agg (ta t),.one (pts l)] [] [.one (.orow 0 7 none)] [.row false 126 7 (U8 (S8 (Fu t) l))]:=by
 have hcl:=G6 l;show U6 prog 165 [.agg (ta t),.one (.row (U0 l))] [] [.one (.orow 0 7 none)] [.row false 126 7 (U8 (S8 (Fu t) l))];refine Fv func165 rfl ?_;refine Ud [.o 5 126 7] rfl ?_;refine Ui (S:=Nat) 2 (λL1 i=>(6,.v (.oi ((i+1:Nat):Int)))::(5,.v (.one (.orow 1 7 none)))::L1) (λi=>[.blk 189 (ta t),.row false 126 7 (U8 ((S8 (Fu t) l).take i))]) (λi=>l.length-i) (λi=>i<=l.length-1) 0 (Qh _) rfl rfl λi hi=>?_
 by_cases hlt:i+1<l.length
 ·obtain⟨a,ha⟩:=gxE (l:=l) (i:=i) (by omega);obtain⟨b,hb⟩:=gxE (l:=l) (i:=i+1) hlt;have hg:=TR (Fu t) ha hb;have hm:∀y∈[Dq (QA (Fu t) a b)],y.length=7:=λy hy=>by rw[Qk.1 hy];rfl
  refine go tt [.t (by simp[hcl];omega),.r 19 (eI (b:=(i:Int)) (by simp)),.x (S6 ha),.x (S6 hb),.k (lV (hl a (Qc ha)) (hl b (Qc hb)) ht),.s (sz:=7) hm,.r 14 (eI (b:=((i+1+1:Nat):Int)) (by simp))] rfl (by simp[U3,G6,Po,B6];omega) ?_;exact rd (i+1) (by omega) (by omega) (by rw[hg];simp[U8];rfl)
 ·have e:(S8 (Fu t) l).take i=S8 (Fu t) l:=Qn (by rw[B6];omega);rw[e];exact Uh [] [1] [.f (by simp[hcl];omega)] rfl
theorem uS{C:List Pt}{i:Nat}{a b:Pt}(ha:C[i]? = some a)(hb:C[(i+1) % C.length]? = some b):(Rt C)[i]? = some (a,b):=by
 have hi:=(Qf.1 ha).1;unfold Rt;rw[List.getElem?_zip_eq_some];refine⟨ha,?_⟩;by_cases h:i+1<C.length
 ·rw[Xu h]at hb;rw[Zi (by rw[Q7];omega),Xc,Ju];exact hb
 ·have e:i+1=C.length:=by omega
  rw[e,Nat.mod_self]at hb;rw[Z8 (by rw[Q7];omega),Q7,show i-(C.length-1)=0 by omega,Kf (by omega)];exact hb
theorem uP(C:List Pt):(Rt C).length=C.length:=by
 unfold Rt;rw[List.length_zip,Qu,Q7,Qq];omega
theorem EI{α β:Type}{f:α->List β}{l:List α}{i:Nat}{x:α}(h:l[i]? = some x):(l.take (i+1)).flatMap f=(l.take i).flatMap f++f x:=by
 rw[Zv,h];simp
theorem TB{α β:Type}{f:α->β}{p:α->Bool}{l:List α}{i:Nat}{x:α}(h:l[i]? = some x):((l.take (i+1)).filter p).map f=((l.take i).filter p).map f++if p x=true then [f x]else []:=by
 rw[Zv,h,Vj,Yh];congr 1;simp only[Option.toList];by_cases hp:p x=true
 ·rw[if_pos hp,X6 hp];rfl
 ·rw[if_neg hp,Jy hp];rfl
theorem uE{α β:Type}{f:α->List β}{n:Nat}(hf:∀x,(f x).length<=n)(l:List α):(l.flatMap f).length<=l.length*n:=KD f n l λx _=>hf x
theorem Qat{l:List Pt}(hl:∀p∈l,Sc p.c):∀p∈l,Qax 4294967294 1073741824 p:=λp hp=>⟨(hl p hp).n,(hl p hp).c.mono (by decide) (by decide)⟩
set_option maxHeartbeats 4000000 in
theorem IU{l:List Pt}{a:Tm}{c:Cr}{r1:Us}(hl:∀p∈l,Sc p.c)(hn:l.length≤10)(ha:Va a):U6 prog 124 [.one (.ow 0 0),.agg (ta a)] [.blk 201 (Hl c (U0 l) r1)] [.one (.row (U8 (NL l a)))] [.blk 201 (Hl c (U0 l) (brH l a))]:=by
 have hwl:=O9 l;have cw:=mX (l:=l) (Qat hl) (by omega);have cr:=wU (l:=Tp l) (λp hp=>hl p (Nv hp)) (by omega) ha;have cn:=lE (R:=Tz a (Tp l)) (λp hp=>hl p (Nv (Hq.1 hp))) (by rw[Ns];omega) ha;have cr2:=wU hl (by omega) ha;have cc:=SX (l:=Tz a l) (t:=a) (λp hp=>hl p (Hq.1 hp)) (by rw[Ns];omega) ha;have hCm:∀p∈S7 l a,p∈l:=λp hp=>I6 hp
 have hCl:=YW l a;have e0:NL l a=VC l a++Bi (Fu a) l (S7 l a):=rfl;rw[e0];show U6 prog 124 _ _ _ [.blk 201 (Hl c (U0 l) (U0 (S7 l a)))];have cn:Uj 168 [.agg (ta a),.one (pts (Tz a (Tp l)))] [.one (pts (S7 l a))]:=cn;have cc:U6 prog 165 [.agg (ta a),.one (pts (Tz a l))] [] [.one (.orow 0 7 none)] [.row false 126 7 (U8 (VC l a))]:=cc;have hbl:(VC l a).length<=10:=by unfold VC;rw[B6,Ns];omega
 obtain⟨C,hC⟩:=nmE (S7 l a);obtain⟨cs0,hc0⟩:=nmE (VC l a);rw[<-hC]at cn hCm hCl ⊢;rw[<-hc0]at cc hbl ⊢;have hcp:=G6 C;have hlp:=G6 l;have eel:∀x,(Aj (Fu a) l x).length<=l.length:=λx=>by unfold Aj;rw[List.length_map];exact List.length_filter_le _ _
 refine Fv func124 rfl ?_;refine Ud [.k cw,.k cr,.k cn,.k Iq,.k cr2,.c [2] cc] rfl ?_;by_cases h2:C.length<2
 ·have e:Bi (Fu a) l C=[]:=if_pos h2;rw[e,Zw];exact Uh [2] [0] [.t (decide_eq_true (by simp;omega))] rfl
 have e:Bi (Fu a) l C=(Rt C).flatMap (Aj (Fu a) l):=if_neg h2;rw[e];refine Ud [.f (decide_eq_false (by simp;omega))] rfl ?_;refine sb [(48,.v (.oi 0)),(47,.v (.oi ((C.map Fc).length:Int))),(46,.v (.one (pts C))),(6,.v (.one (.orow 2 7 none))),(3,.v (.one (.ow 1 0))),(0,.v (.one (.ow 0 0)))] [.blk 201 (Hl c (U0 l) (U0 C)),.blk 189 (ta a),.row false 126 7 (U8 cs0)] rfl rfl ?_;rw[show U8 cs0=U8 (cs0++((Rt C).take 0).flatMap (Aj (Fu a) l)) by simp];refine Ui (S:=Nat) 3 (λL1 i=>(48,.v (.oi i))::(6,.v (.one (.orow 2 7 none)))::L1) (λi=>[.blk 201 (Hl c (U0 l) (U0 C)),.blk 189 (ta a),.row false 126 7 (U8 (cs0++((Rt C).take i).flatMap (Aj (Fu a) l)))]) (λi=>C.length-i) (λi=>i<=C.length) 0 (Qh _) rfl rfl λi hi=>?_
 by_cases hlt:i<C.length
 ·obtain⟨x,hx⟩:=gxE (l:=C) (i:=i) hlt;obtain⟨y,hy⟩:=gxE (l:=C) (i:=(i+1) % C.length) (Z4 _ (by omega));have he:=uS hx hy;have sx:=hl x (hCm x (Qc hx));have sy:=hl y (hCm y (Qc hy));have hflat:=EI (f:=Aj (Fu a) l) he;obtain⟨F,hF⟩:=nmE (cs0++((Rt C).take i).flatMap (Aj (Fu a) l));have hFl:F.length<=10+20*10:=by
   have h1:=uE eel ((Rt C).take i);have h2:((Rt C).take i).length*l.length<=20*10:=Zc (by rw[Qq];omega) hn;rw[hF,Qu];omega
  have hmod:(((i+1:Nat):Int)).tmod ((C.map Fc).length:Int)=(((i+1) % C.length:Nat):Int):=by rw[Q8];exact(Int.ofNat_tmod _ _).symm
  have hm0:=Ye ((i+1:Nat):Int) (show(C.length:Int)≠0 by omega);have hm1:=Js ((i+1:Nat):Int) (show(0:Int)<C.length by omega);have hnext:cs0++((Rt C).take (i+1)).flatMap (Aj (Fu a) l)=F++(l.filter (VT (x,y))).map λc=>Lh (Fu a) x y c:=by rw[hflat,<-Zd,<-hF];rfl
  rw[<-hF];refine go tt [.t (decide_eq_true (by simp;omega)),.x (S6 hx),.r 58 (eI (b:=((i+1:Nat):Int)) (by simp)),.r 64 (eI (b:=(((i+1) % C.length:Nat):Int)) hmod),.x (S6 hy),.k Iq] rfl (by simp only[U3];omega) ?_;rw[show U8 F=U8 (F++((l.take 0).filter (VT (x,y))).map λc=>Lh (Fu a) x y c) by simp];refine Ui (S:=Nat) 5 (λL1 k=>(73,.v (.oi k))::(6,.v (.one (.orow 2 7 none)))::L1) (λk=>[.blk 201 (Hl c (U0 l) (U0 C)),.blk 189 (ta a),.row false 126 7 (U8 (F++((l.take k).filter (VT (x,y))).map λc=>Lh (Fu a) x y c)),.blk 41 (Fc x),.blk 41 (Fc y)]) (λk=>l.length-k) (λk=>k<=l.length) 0 (Qh _) rfl rfl λk hk=>?_
  by_cases hlk:k<l.length
  ·obtain⟨z,hz⟩:=gxE (l:=l) (i:=k) hlk;have sz:=hl z (Qc hz);have hflt:=TB (f:=λc=>Lh (Fu a) x y c) (p:=VT (x,y)) hz;obtain⟨G,hG⟩:=nmE (((l.take k).filter (VT (x,y))).map λc=>Lh (Fu a) x y c);have hGl:G.length<=10:=by
    have h1:=Y0 (VT (x,y)) (l.take k);rw[Qq]at h1;rw[hG,Q8];omega
   rw[<-hG]at hflt ⊢;by_cases h1:z.id=x.id
   ·rw[if_neg (show ¬VT (x,y) z=true by simp[VT,h1]),Zw]at hflt;refine Ue [.t (decide_eq_true (by simp;omega)),.x (S6 hz),.g 82 false (decide_eq_false (by simp[h1])),.f rfl] rfl ?_;exact rd (k+1) (by omega) hlk (by rw[hflt];rfl)
   ·by_cases h2:z.id=y.id
    ·rw[if_neg (show ¬VT (x,y) z=true by simp[VT,h2]),Zw]at hflt;refine Ue [.t (decide_eq_true (by simp;omega)),.x (S6 hz),.g 82 true (decide_eq_true h1),.f (decide_eq_false (by simp[h2]))] rfl ?_;exact rd (k+1) (by omega) hlk (by rw[hflt];rfl)
    ·rw[if_pos (show VT (x,y) z=true by simp[VT,h1,h2])]at hflt;have hm:∀q∈[Dq (Lh (Fu a) x y z)],q.length=7:=λq hq=>by rw[Qk.1 hq];rfl
     refine go tt [.t (decide_eq_true (by simp;omega)),.x (S6 hz),.g 82 true (decide_eq_true h1),.t (decide_eq_true h2),.k (lK sx sy sz ha),.s (sz:=7) hm] rfl (by simp[U3,Po];omega) ?_;have e3:U8 (F++(G++[Lh (Fu a) x y z]))=U8 (F++G)++[Dq (Lh (Fu a) x y z)]:=by simp[U8]
     exact rd (k+1) (by omega) hlk (by rw[hflt,e3];rfl)
  ·obtain rfl:k=l.length:=by omega
   rw[Q6,<-hnext];refine Ue [.f (decide_eq_false (by simp))] rfl ?_;exact rd (i+1) (by omega) hlt rfl
 ·obtain rfl:i=C.length:=by omega
  rw[Qn (by rw[uP];exact Ql _)];exact Uh [2] [0] [.f (decide_eq_false (by simp))] rfl
theorem ozM{P:Program}[Mo P]{n:Nat}{Q:Exit->Sg->Ut->Prop}{L L':Sg}{B B':Ut}(d off T sz:Nat){it:List It}(hs:Rk it=true)(h:bE (P:=P) d L B [.oc d off T sz]=some (L',B',[],[]))(k:AK P n Q it L' B'):AK P n Q it L B:=AK.sub (EW h EqOk.nil) hs k
theorem xB{k:Crv}(hk:Sc k):Uj 251 [.agg (cl k)] [.one (.row (JS (ZF k)))]:=by
 have ok:=FA hk.n hk.c;have l1:=Tw k.x k.x;have l2:=Tw k.y k.y;have:=hk.c.lx;have:=hk.c.ly;have bx:Bd 258 (Gl k.x k.x):=Pm (u:=2) hk.c.x hk.c.x (by omega);have by_:Bd 258 (Gl k.y k.y):=Pm (u:=2) hk.c.y hk.c.y (by omega);have c1:=Pu (p:=k.x) (c:=k.d) (by omega) (U5 hk.c.x (by decide)) (Qa hk.c.d (by decide));have c2:=Pu (p:=k.y) (c:=k.d) (by omega) (U5 hk.c.y (by decide)) (Qa hk.c.d (by decide));have c3:=KG (p:=k.x) (q:=k.x) hk.n.1 hk.n.1 (by omega) (by omega) hk.c.x hk.c.x (by decide);have c4:=KG (p:=k.y) (q:=k.y) hk.n.2.1 hk.n.2.1 (by omega) (by omega) hk.c.y hk.c.y (by decide);have c5:=BG (p:=Gl k.x k.x) (q:=Gl k.y k.y) (by omega) (by omega) (U5 bx (by decide)) (U5 by_ (by decide));have c6:=P5 (U4 k.d) (U4 k.d) (Qa hk.c.d (by decide)) (Qa hk.c.d (by decide));have hl:∀p∈ZF k,p.length≤1000000:=λp hp=>by
  obtain⟨j,hj⟩:=Xv hp;have h1:=ok.2 j p hj;have:[2,2,4,0].getD j 0<=4:=by
   match j with
   | 0=>decide
   | 1=>decide
   | 2=>decide
   | 3=>decide
   |j+4=>simp
  omega
 have cd:=Qej (r:=ZF k) (λp hp=>(ok.1 p hp).1) (λp hp=>U5 (ok.1 p hp).2 (by decide)) hl (by show 4<=1000;decide);exact Ug func251 rfl [.k (Dx hk.n (hk.c.mono (by decide) (by decide))),.k c1,.k c2,.k c3,.k c4,.k c5,.k c6,.k cd] rfl
theorem Qet{a b c d:Crv}(ha:Sc a)(hb:Sc b)(hc:Sc c)(hd:Sc d):Uj 210 [.agg (cl a),.agg (cl b),.agg (cl c),.agg (cl d)] [pr (VI a b c d)]:=by
 have cd:=Qrn (by decide) (k:=4) (ds:=[2,2,4,0]) (by decide) rfl (by decide) (tC ha.n hb.n hc.n hd.n ha.c hb.c hc.c hd.c);exact Ug func210 rfl [.k (xB ha),.k (xB hb),.k (xB hc),.k (xB hd),.k cd] rfl
set_option maxHeartbeats 1000000 in
theorem Qm2{a b c d:Pt}{t:Tm}(ha:Sc a.c)(hb:Sc b.c)(hc:Sc c.c)(hd:Sc d.c)(ht:Va t):Uj 167 [.oi 4,.agg (ta t),.one (.row [Fc a,Fc b,Fc c,Fc d])] [.agg (Dq (qK (Fu t) a b c d)),.oi 0]:=by
 have hp:=(eN ha hb hc hd).dp;have e:Dq (qK (Fu t) a b c d)=[.int .i64 4,.int .i64 a.id,.int .i64 b.id,.int .i64 c.id,.int .i64 d.id,pl (VI a.c b.c c.c d.c),.int .i64 (Hj (Fu t) (VI a.c b.c c.c d.c))]:=by rw[qK]
 rw[e];have cg:=SJ hp ht;have cf:=Qet ha hb hc hd;generalize VI a.c b.c c.c d.c=F at *;refine Fv func167 rfl ?_;refine Ud [.k Qbt,.f rfl] rfl ?_;refine Ui (S:=Nat) 3 (λL1 i=>(22,.v (.oi i))::L1) (λi=>[.blk 189 (ta t),.blk 126 zCt,.blk 126 [.int .i64 4,.int .i64 (if 1<=i then a.id else 0),.int .i64 (if 2<=i then b.id else 0),.int .i64 (if 3<=i then c.id else 0),.int .i64 (if 4<=i then d.id else 0),.nils,.int .i64 0]]) (λi=>4-i) (λi=>i<=4) 0 (Qh _) rfl rfl λi hi=>?_
 rcases(show i=0\/i=1\/i=2\/i=3\/i=4 by omega)with rfl|rfl|rfl|rfl|rfl
 ·refine Ud [.t rfl,.x (i:=0) (xs:=Fc a) rfl,.i 0] rfl ?_ (by simp[U3]);exact rd 1 (by omega) (by omega) rfl
 ·refine Ud [.t rfl,.x (i:=1) (xs:=Fc b) rfl,.i 1] rfl ?_ (by simp[U3]);exact rd 2 (by omega) (by omega) rfl
 ·refine Ud [.t rfl,.x (i:=2) (xs:=Fc c) rfl,.i 2] rfl ?_ (by simp[U3]);exact rd 3 (by omega) (by omega) rfl
 ·refine Ud [.t rfl,.x (i:=3) (xs:=Fc d) rfl,.i 3] rfl ?_ (by simp[U3]);exact rd 4 (by omega) (by omega) rfl
 ·exact Uf [.f rfl,.f rfl,.f rfl,.f rfl,.t rfl,.x (i:=0) (xs:=Fc a) rfl,.x (i:=1) (xs:=Fc b) rfl,.x (i:=2) (xs:=Fc c) rfl,.x (i:=3) (xs:=Fc d) rfl,.k cf,.k cg] rfl
def uL(T:Bb)(s:Int)(n:Um)(F:Bb)(k:Nat):Bb:=(List.range k).foldl (Oa T s n) F
theorem mO(T:Bb)(s:Int)(n:Um)(F:Bb)(k:Nat):uL T s n F (k+1)=Oa T s n (uL T s n F k) k:=by unfold uL;rw[List.range_succ,List.foldl_append];rfl
theorem mI(T:Bb)(s:Int)(n:Um)(F:Bb):uL T s n F 4=OV T s n F:=rfl
set_option maxHeartbeats 4000000 in
theorem Qtw{F T:Bb}{s n0 n1 n2 n3:Int}(hT:kG T)(hs:-1<=s/\s<=1):U6 prog 175 [.one (.omap 0),.one (.omap 1),.oi s,.agg [.int .i64 n0,.int .i64 n1,.int .i64 n2,.int .i64 n3]] [.mpb F,.mpb T] [] [.mpb (OV T s [n0,n1,n2,n3] F),.mpb T]:=by
 have hm:Ql9 T:=λk=>(hT k).1
 have hb:=λ(k:Um) (x:Int) (hx:-1<=x/\x<=1)=>Qcu (hT k).2 hx
 rw[<-mI];obtain⟨f,hf⟩:=nmE (uL T s [n0,n1,n2,n3] F);have f0:F=f 0:=by rw[hf];rfl
 have fs:∀k,f (k+1)=Oa T s [n0,n1,n2,n3] (f k) k:=λk=>by rw[hf];exact mO ..
 rw[<-hf];rw[f0];clear hf f0;refine Fv func175 rfl ?_;refine Ud [] rfl ?_;refine Ui (S:=Nat) 3 (λL1 k=>(14,.v (.oi k))::L1) (λk=>[.mpb (f k),.mpb T,.blk 122 [.int .i64 n0,.int .i64 n1,.int .i64 n2,.int .i64 n3]]) (λk=>4-k) (λk=>k<=4) 0 (by decide) rfl rfl λk hk=>?_
 rcases(show k=0\/k=1\/k=2\/k=3\/k=4 by omega)with rfl|rfl|rfl|rfl|rfl
 ·have e1:=fs 0;have e2:Oa T s [n0,n1,n2,n3] (f 0) 0=if ZP T [n1,n2,n3]*(-s)>0 then L9 (f 0) [n1,n2,n3] (.bool true)else f 0:=rfl
  rw[e2]at e1;refine Ud [.t rfl] rfl ?_;refine Ui (S:=Nat) 4 (λL1 i=>(18,.v (.oi i))::(10,.v (.oi (if i<=0 then(i:Int)else(i:Int)-1)))::L1) (λi=>[.mpb (f 0),.mpb T,.blk 122 [.int .i64 n0,.int .i64 n1,.int .i64 n2,.int .i64 n3],.blk 101 [.int .i64 (if 2<=i then n1 else 0),.int .i64 (if 3<=i then n2 else 0),.int .i64 (if 4<=i then n3 else 0)]]) (λi=>4-i) (λi=>i<=4) 0 (by decide) rfl rfl λi hi=>?_
  rcases(show i=0\/i=1\/i=2\/i=3\/i=4 by omega)with rfl|rfl|rfl|rfl|rfl
  ·refine Ud [.t rfl,.i 0,.f rfl] rfl ?_ (by simp[U3]);exact rd 1 (by omega) (by omega) rfl
  ·refine Ud [.t rfl,.i 1,.t rfl,.i 0] rfl ?_ (by simp[U3]);exact rd 2 (by omega) (by omega) rfl
  ·refine Ud [.t rfl,.i 2,.t rfl,.i 1] rfl ?_ (by simp[U3]);exact rd 3 (by omega) (by omega) rfl
  ·refine Ud [.t rfl,.i 3,.t rfl,.i 2] rfl ?_ (by simp[U3]);exact rd 4 (by omega) (by omega) rfl
  ·have hbb:=hb [n1,n2,n3] (-s) (by omega);by_cases hc:ZP T [n1,n2,n3]*(-s)>0
   ·rw[if_pos hc]at e1;refine go tt [.f rfl,.t rfl,.t (decide_eq_true hc)] rfl (by simp only[U3];first|exact⟨⟨by omega,by omega⟩,hbb,hm,⟨by omega,by omega⟩,by decide,by omega,by omega⟩|exact⟨⟨by omega,by omega⟩,hbb,hm,by decide,by omega,by omega⟩) ?_;exact rd 1 (by omega) (by omega) (by rw[e1];rfl)
   ·rw[if_neg hc]at e1;refine go tt [.f rfl,.t rfl,.f (decide_eq_false hc)] rfl (by simp only[U3];first|exact⟨⟨by omega,by omega⟩,hbb,hm,⟨by omega,by omega⟩,by decide,by omega,by omega⟩|exact⟨⟨by omega,by omega⟩,hbb,hm,by decide,by omega,by omega⟩) ?_;exact rd 1 (by omega) (by omega) (by rw[e1];rfl)
 ·have e1:=fs 1;have e2:Oa T s [n0,n1,n2,n3] (f 1) 1=if ZP T [n0,n2,n3]*s>0 then L9 (f 1) [n0,n2,n3] (.bool true)else f 1:=rfl
  rw[e2]at e1;refine Ud [.t rfl] rfl ?_;refine Ui (S:=Nat) 4 (λL1 i=>(18,.v (.oi i))::(10,.v (.oi (if i<=1 then(i:Int)else(i:Int)-1)))::L1) (λi=>[.mpb (f 1),.mpb T,.blk 122 [.int .i64 n0,.int .i64 n1,.int .i64 n2,.int .i64 n3],.blk 101 [.int .i64 (if 1<=i then n0 else 0),.int .i64 (if 3<=i then n2 else 0),.int .i64 (if 4<=i then n3 else 0)]]) (λi=>4-i) (λi=>i<=4) 0 (by decide) rfl rfl λi hi=>?_
  rcases(show i=0\/i=1\/i=2\/i=3\/i=4 by omega)with rfl|rfl|rfl|rfl|rfl
  ·refine Ud [.t rfl,.i 0,.t rfl,.i 0] rfl ?_ (by simp[U3]);exact rd 1 (by omega) (by omega) rfl
  ·refine Ud [.t rfl,.i 1,.f rfl] rfl ?_ (by simp[U3]);exact rd 2 (by omega) (by omega) rfl
  ·refine Ud [.t rfl,.i 2,.t rfl,.i 1] rfl ?_ (by simp[U3]);exact rd 3 (by omega) (by omega) rfl
  ·refine Ud [.t rfl,.i 3,.t rfl,.i 2] rfl ?_ (by simp[U3]);exact rd 4 (by omega) (by omega) rfl
  ·have hbb:=hb [n0,n2,n3] s (by omega);by_cases hc:ZP T [n0,n2,n3]*s>0
   ·rw[if_pos hc]at e1;refine go tt [.f rfl,.f rfl,.t (decide_eq_true hc)] rfl (by simp only[U3];first|exact⟨⟨by omega,by omega⟩,hbb,hm,⟨by omega,by omega⟩,by decide,by omega,by omega⟩|exact⟨⟨by omega,by omega⟩,hbb,hm,by decide,by omega,by omega⟩) ?_;exact rd 2 (by omega) (by omega) (by rw[e1];rfl)
   ·rw[if_neg hc]at e1;refine go tt [.f rfl,.f rfl,.f (decide_eq_false hc)] rfl (by simp only[U3];first|exact⟨⟨by omega,by omega⟩,hbb,hm,⟨by omega,by omega⟩,by decide,by omega,by omega⟩|exact⟨⟨by omega,by omega⟩,hbb,hm,by decide,by omega,by omega⟩) ?_;exact rd 2 (by omega) (by omega) (by rw[e1];rfl)
 ·have e1:=fs 2;have e2:Oa T s [n0,n1,n2,n3] (f 2) 2=if ZP T [n0,n1,n3]*(-s)>0 then L9 (f 2) [n0,n1,n3] (.bool true)else f 2:=rfl
  rw[e2]at e1;refine Ud [.t rfl] rfl ?_;refine Ui (S:=Nat) 4 (λL1 i=>(18,.v (.oi i))::(10,.v (.oi (if i<=2 then(i:Int)else(i:Int)-1)))::L1) (λi=>[.mpb (f 2),.mpb T,.blk 122 [.int .i64 n0,.int .i64 n1,.int .i64 n2,.int .i64 n3],.blk 101 [.int .i64 (if 1<=i then n0 else 0),.int .i64 (if 2<=i then n1 else 0),.int .i64 (if 4<=i then n3 else 0)]]) (λi=>4-i) (λi=>i<=4) 0 (by decide) rfl rfl λi hi=>?_
  rcases(show i=0\/i=1\/i=2\/i=3\/i=4 by omega)with rfl|rfl|rfl|rfl|rfl
  ·refine Ud [.t rfl,.i 0,.t rfl,.i 0] rfl ?_ (by simp[U3]);exact rd 1 (by omega) (by omega) rfl
  ·refine Ud [.t rfl,.i 1,.t rfl,.i 1] rfl ?_ (by simp[U3]);exact rd 2 (by omega) (by omega) rfl
  ·refine Ud [.t rfl,.i 2,.f rfl] rfl ?_ (by simp[U3]);exact rd 3 (by omega) (by omega) rfl
  ·refine Ud [.t rfl,.i 3,.t rfl,.i 2] rfl ?_ (by simp[U3]);exact rd 4 (by omega) (by omega) rfl
  ·have hbb:=hb [n0,n1,n3] (-s) (by omega);by_cases hc:ZP T [n0,n1,n3]*(-s)>0
   ·rw[if_pos hc]at e1;refine go tt [.f rfl,.t rfl,.t (decide_eq_true hc)] rfl (by simp only[U3];first|exact⟨⟨by omega,by omega⟩,hbb,hm,⟨by omega,by omega⟩,by decide,by omega,by omega⟩|exact⟨⟨by omega,by omega⟩,hbb,hm,by decide,by omega,by omega⟩) ?_;exact rd 3 (by omega) (by omega) (by rw[e1];rfl)
   ·rw[if_neg hc]at e1;refine go tt [.f rfl,.t rfl,.f (decide_eq_false hc)] rfl (by simp only[U3];first|exact⟨⟨by omega,by omega⟩,hbb,hm,⟨by omega,by omega⟩,by decide,by omega,by omega⟩|exact⟨⟨by omega,by omega⟩,hbb,hm,by decide,by omega,by omega⟩) ?_;exact rd 3 (by omega) (by omega) (by rw[e1];rfl)
 ·have e1:=fs 3;have e2:Oa T s [n0,n1,n2,n3] (f 3) 3=if ZP T [n0,n1,n2]*s>0 then L9 (f 3) [n0,n1,n2] (.bool true)else f 3:=rfl
  rw[e2]at e1;refine Ud [.t rfl] rfl ?_;refine Ui (S:=Nat) 4 (λL1 i=>(18,.v (.oi i))::(10,.v (.oi (if i<=3 then(i:Int)else(i:Int)-1)))::L1) (λi=>[.mpb (f 3),.mpb T,.blk 122 [.int .i64 n0,.int .i64 n1,.int .i64 n2,.int .i64 n3],.blk 101 [.int .i64 (if 1<=i then n0 else 0),.int .i64 (if 2<=i then n1 else 0),.int .i64 (if 3<=i then n2 else 0)]]) (λi=>4-i) (λi=>i<=4) 0 (by decide) rfl rfl λi hi=>?_
  rcases(show i=0\/i=1\/i=2\/i=3\/i=4 by omega)with rfl|rfl|rfl|rfl|rfl
  ·refine Ud [.t rfl,.i 0,.t rfl,.i 0] rfl ?_ (by simp[U3]);exact rd 1 (by omega) (by omega) rfl
  ·refine Ud [.t rfl,.i 1,.t rfl,.i 1] rfl ?_ (by simp[U3]);exact rd 2 (by omega) (by omega) rfl
  ·refine Ud [.t rfl,.i 2,.t rfl,.i 2] rfl ?_ (by simp[U3]);exact rd 3 (by omega) (by omega) rfl
  ·refine Ud [.t rfl,.i 3,.f rfl] rfl ?_ (by simp[U3]);exact rd 4 (by omega) (by omega) rfl
  ·have hbb:=hb [n0,n1,n2] s (by omega);by_cases hc:ZP T [n0,n1,n2]*s>0
   ·rw[if_pos hc]at e1;refine go tt [.f rfl,.f rfl,.t (decide_eq_true hc)] rfl (by simp only[U3];first|exact⟨⟨by omega,by omega⟩,hbb,hm,⟨by omega,by omega⟩,by decide,by omega,by omega⟩|exact⟨⟨by omega,by omega⟩,hbb,hm,by decide,by omega,by omega⟩) ?_;exact rd 4 (by omega) (by omega) (by rw[e1];rfl)
   ·rw[if_neg hc]at e1;refine go tt [.f rfl,.f rfl,.f (decide_eq_false hc)] rfl (by simp only[U3];first|exact⟨⟨by omega,by omega⟩,hbb,hm,⟨by omega,by omega⟩,by decide,by omega,by omega⟩|exact⟨⟨by omega,by omega⟩,hbb,hm,by decide,by omega,by omega⟩) ?_;exact rd 4 (by omega) (by omega) (by rw[e1];rfl)
 ·exact Uh [] [0,1] [.f rfl] rfl
end Orr
