/- X22 SD2 H4 En2 X20 X21 En3 EnZ En4 EnO EnP EnR RawO EnA EnE RatZ EnB W24 EnG EnQ WX24 ReadN LastN LastR LastS ArgR ArgO -/
import Derived.Test.YthgaepodbpcjdaaGreatPart09
import Derived.Test.YthgaepodbpcjdaaGreatPart00
import Derived.Test.YthgaepodbpcjdaaGreatPart08
import Derived.Test.YthgaepodbpcjdaaGreatPart05
import Derived.Test.YthgaepodbpcjdaaGreatPart07
import Derived.Deep.Slices
import Derived.ProofKit
import Derived.OpenShut
import Derived.WideKeyArgs
import Derived.SizedLaws
set_option linter.all false
namespace Orr
open Go Go.Proofs Tryz Orq
set_option maxRecDepth 10000
theorem BW {c:Cr} {l l':List Pt} {r1:Us} {ws:List Wt} (hc:CrOk c) (hl:∀ p∈l',Sc p.c) (hn:l'.length≤6) (h:Tk c.l c.now (Fo (xF l' c.now))=some ws) :
 U6 prog 381 [.one (.ow 0 0),.agg [pts l'],.oi 0] [.blk 168 (Hl c (U0 l) r1)] [.oi 0] [.blk 168 (Hl ⟨c.now,ws,c.ev⟩ (U0 l') (pN l' c.now))]:=by
 have hB:=pK hl hn;have cn:=QW (T:=168) (c:=c) (r0:=U0 l') (r1:=r1) hc.n;have cb:=IR (c:=c) (r1:=r1) hl hn hc.n;have cg:=YW (T:=168) (r0:=U0 l') (r1:=pN l' c.now) hc hc.n (I5 hc.n) (Yd 0) (hB.p _ hc.n) (hB.n _ hc.n) h;refine Fv func381 rfl ?_;exact Uh [] [0] [.f rfl,.c [0] cn,.c [0] cb,.c [0] cg] rfl
theorem Qmz {lx ly:Us} {px py:Um} {x y:LV} {d id:Int} {c:Cr} {l:List Pt} {r1:Us} {ws:List Wt} (hx:IsInts lx px) (hy:IsInts ly py) (hd:Gd x y d) (hk:Cs 4294967294 1073741824 (Crv.mk px py d)) (hll:l.length<=900)
 (he:WR l ⟨Crv.norm (Crv.mk px py d),id⟩=0) (hc:CrOk c) (hl:∀ p∈put l ⟨Crv.norm (Crv.mk px py d),id⟩,Sc p.c) (hn:(put l ⟨Crv.norm (Crv.mk px py d),id⟩).length≤6) (h:Tk c.l c.now (Fo (xF (put l ⟨Crv.norm (Crv.mk px py d),id⟩) c.now))=some ws) :
 U6 prog 379 [.one (.ow 0 0),.agg [.row lx,.row ly,x,y,.int .i64 id]] [.blk 168 (Hl c (U0 l) r1)] [.oi 0] [.blk 168 (Hl ⟨c.now,ws,c.ev⟩ (U0 (put l ⟨Crv.norm (Crv.mk px py d),id⟩)) (pN (put l ⟨Crv.norm (Crv.mk px py d),id⟩) c.now))]:=by
 have cp:=wG (l:=l) (id:=id) hx hy hd hk (by omega);rw [if_pos he,he] at cp;have cw:=BW (l:=l) (r1:=r1) hc hl hn h;refine Fv func379 rfl ?_;obtain ⟨b,l',rfl,rfl,_⟩:=hd;exact Uh [] [0] [.k cp,.c [0] cw] rfl
theorem Qek {lx ly:Us} {px py:Um} {x y:LV} {d id:Int} {c:Cr} {l l':List Pt} {r1:Us} {ws:List Wt} (hx:IsInts lx px) (hy:IsInts ly py) (hd:Gd x y d) (hk:Cs 4294967294 1073741824 (Crv.mk px py d)) (hll:l.length<=6) (h:has l id=true) (hc:CrOk c)
 (hl':l'=l.set (Rw l id) (Pt.mk (Crv.norm (Crv.mk px py d)) id)) (hs:∀ p∈l',Sc p.c) (hw:Tk c.l c.now (Fo (xF l' c.now))=some ws) :
 U6 prog 380 [.one (.ow 0 0),.agg [.row lx,.row ly,x,y,.int .i64 id]] [.blk 168 (Hl c (U0 l) r1)] [.oi 0] [.blk 168 (Hl ⟨c.now,ws,c.ev⟩ (U0 l') (pN l' c.now))]:=by
 have ct1:=UG (l:=l) hx hy hd hk (by omega) h;rw [<-hl'] at ct1;have cw:=BW (c:=c) (l:=l) (l':=l') (r1:=r1) hc hs (by rw [hl',Xd]; omega) hw;obtain ⟨b,r,rfl,rfl,_⟩:=hd;refine Fv func380 rfl ?_;exact Uh [] [0] [.k ct1,.c [0] cw] rfl
theorem Qej {id:Int} {c:Cr} {l l':List Pt} {r1:Us} {ws:List Wt} (hll:l.length<=6) (h:has l id=true) (hc:CrOk c)
 (hl':l'=l.take (Rw l id)++l.drop (Rw l id+1)) (hs:∀ p∈l',Sc p.c) (hw:Tk c.l c.now (Fo (xF l' c.now))=some ws) :
 U6 prog 378 [.one (.ow 0 0),.oi id] [.blk 168 (Hl c (U0 l) r1)] [.oi 0] [.blk 168 (Hl ⟨c.now,ws,c.ev⟩ (U0 l') (pN l' c.now))]:=by
 have ct1:=UU (l:=l) (id:=id) (by omega) h;rw [<-hl'] at ct1;have cw:=BW (c:=c) (l:=l) (l':=l') (r1:=r1) hc hs (by rw [hl',Qu,Qq,Q7]; omega) hw;refine Fv func378 rfl ?_;exact Uh [] [0] [.k ct1,.c [0] cw] rfl
theorem Qa7 {c:Cr} {r0:Us} {r1:Us}:U6 prog 59 [.one (.ow 0 0)] [.blk 168 (Hl c r0 r1)] [.one (.ow 1 0)] [.blk 168 (Hl c r0 r1),.blk 168 (Hl c r0 r1)]:=by
 refine Fv func59 rfl ?_;exact Uh [] [0,1] [] rfl
theorem Qng {lx ly:Us} {px py:Um} {x y:LV} {d id:Int} {c:Cr} {l l':List Pt} {r1:Us} {ws:List Wt} (hx:IsInts lx px) (hy:IsInts ly py) (hd:Gd x y d) (hk:Cs 4294967294 1073741824 (Crv.mk px py d)) (hll:l.length<=900) (h:has l id=true) (hc:CrOk c)
 (hl':l'=l.set (Rw l id) (Pt.mk (Crv.norm (Crv.mk px py d)) id)) (hs:∀ p∈l',Sc p.c) (hw:Tk c.l c.now (Fo (ZL l' c.now))=some ws) :
 U6 prog 339 [.one (.ow 0 0),.agg [.row lx,.row ly,x,y,.int .i64 id]] [.blk 156 (Hl c (U0 l) r1)] [.oi 0] [.blk 156 (Hl ⟨c.now,ws,c.ev⟩ (U0 l') (IG l' c.now))]:=by
 have ct1:=UG (l:=l) hx hy hd hk (by omega) h;rw [<-hl'] at ct1;have cw:=xB (c:=c) (l:=l) (l':=l') (r1:=r1) hc hs (by rw [hl',Xd]; omega) hw;obtain ⟨b,r,rfl,rfl,_⟩:=hd;refine Fv func339 rfl ?_;exact Uh [] [0] [.k ct1,.c [0] cw] rfl
theorem Qne {id:Int} {c:Cr} {l l':List Pt} {r1:Us} {ws:List Wt} (hll:l.length<=900) (h:has l id=true) (hc:CrOk c)
 (hl':l'=l.take (Rw l id)++l.drop (Rw l id+1)) (hs:∀ p∈l',Sc p.c) (hw:Tk c.l c.now (Fo (ZL l' c.now))=some ws) :
 U6 prog 335 [.one (.ow 0 0),.oi id] [.blk 156 (Hl c (U0 l) r1)] [.oi 0] [.blk 156 (Hl ⟨c.now,ws,c.ev⟩ (U0 l') (IG l' c.now))]:=by
 have ct1:=UU (l:=l) (id:=id) (by omega) h;rw [<-hl'] at ct1;have cw:=xB (c:=c) (l:=l) (l':=l') (r1:=r1) hc hs (by rw [hl',Qu,Qq,Q7]; omega) hw;refine Fv func335 rfl ?_;exact Uh [] [0] [.k ct1,.c [0] cw] rfl
theorem Qxq {T:Nat} {t:Rat} {Bc:Tm->List Ct} {Br:Tm->Us} {r0:Us} (ht:Qs 1640000 t) (hB:BuildOk Bc)
 (hb:∀ a c r1,Va a->CrOk c->U6 prog 73 [.one (.ow 0 0),.agg (ta a)] [.blk T (Hl c r0 r1)] [.one (.row (U8 (Bc a)))] [.blk T (Hl c r0 (Br a))])
 {K:Nat} {c c':Cr} {r1 r1':Us} {n:Int} (hc:CrOk c) (hev:0<=c.ev/\c.ev+K<=1000000000000000000) (h:Fp c.now t<=0) (hg:WO Bc Br t K c r1 0=some (c',r1',n)) :
 U6 prog 341 [.one (.ow 0 0),.agg (rl t),.one (.ofn 73 [.ow 0 0] [])] [.blk T (Hl c r0 r1)] [.oi n,.oi 0] [.blk T (Hl c' r0 r1')]:=by
 have qt:Qb t:=ht.mono (by decide);have c1:=Dk hc.n.tb qt;refine Fv func341 rfl ?_;refine Ud [.c [0] (QW hc.n),.k c1,.f (by simpa using h)] rfl ?_;refine Ui (S:=Nat×Cr×Us×Int) 2 (λL1 s=>(8,.v (.oi s.2.2.2))::L1) (λs=>[.blk T (Hl s.2.1 r0 s.2.2.1),.blk 38 (rl t)]) (λs=>s.1) (λs=>CrOk s.2.1/\(0<=s.2.1.ev/\s.2.1.ev+s.1<=1000000000000000000)/\(0<=s.2.2.2/\s.2.2.2+s.1<=1000000000000000000)/\WO Bc Br t s.1 s.2.1 s.2.2.1 s.2.2.2=some (c',r1',n)) (K,c,r1,0) ⟨hc,hev,⟨Int.le_refl 0,by dsimp only; omega⟩,hg⟩ rfl rfl λ⟨k,x,r,m⟩ ⟨j1,j2,j3,j4⟩=>?_
 dsimp only at j1 j2 j3 j4 ⊢;cases k with
 | zero=>cases j4
 |
  succ k =>
  simp only [WO] at j4;obtain ⟨ws,w1,j4⟩:=Qd.1 j4;obtain ⟨o,o1,j4⟩:=Qd.1 j4;have cn:=MY (T:=T) (r0:=r0) (r1:=r) j1 w1 o1;have ca:=VI (U4 t.num) (U4 (t.den:Int)) (Qa ht.1 (by decide)) (Qa ht.2 (by decide)) (by rw [Su]; exact ht.mono (by decide));rw [Su] at ca;cases o with
  |
   none =>
   injection j4 with j4; injection j4 with e1 j4; injection j4 with e2 e3;subst e1; subst e2; subst e3;exact Uh [] [0] [.c [0] cn,.g 25 true rfl,.t rfl,.k ca] rfl
  |
   some a =>
   have ha:=LC j1 w1 o1;dsimp only at j4;have cc:=Dk ha.tb qt;by_cases h0:0<Fp a t
   ·rw [if_pos h0] at j4;injection j4 with j4; injection j4 with e1 j4; injection j4 with e2 e3;subst e1; subst e2; subst e3;exact Uh [] [0] [.c [0] cn,.g 25 false rfl,.k cc,.t (by simpa using h0),.k ca] rfl
   ·rw [if_neg h0] at j4;obtain ⟨w2,l1,j4⟩:=Qd.1 j4;have j1':=Et j1 w1;have cl:=S9 (b:=a) (l:=[]) ha.tb (λt ht=>by cases ht) (by decide) rfl;have cb:=hb a { x with l:=ws } r ha j1';have cy:=UK (T:=T) (r0:=r0) (r1:=Br a) j1' ha (hB.p a ha) (hB.n a ha) l1;have hf:decide (0<Fp a t)=false:=by simpa using h0
    refine Ue [.c [0] cn,.g 25 false rfl,.k cc,.f hf,.k cl,.c [0] cb,.c [0] cy] rfl ?_;exact rd (k,⟨a,w2,x.ev+1⟩,Br a,m+1) (by dsimp only; omega) ⟨lay_ok _ j1' ha (hB.p a ha) (hB.n a ha) l1,by dsimp only; omega,by dsimp only; omega,j4⟩ rfl
def Qxk (l:List Pt) (a:Tm):Cr:=⟨a,(Fo (NA l a)).map fresh,0⟩
theorem Qtl {t:Rat} {l:List Pt} {K:Nat} {c c':Cr} {r1 r1':Us} {n:Int} (ht:Qs 1640000 t) (hl:∀ p∈l,Sc p.c) (hn:l.length≤10) (hc:CrOk c) (hev:0≤c.ev/\c.ev+K≤1000000000000000000) (h:Fp c.now t≤0) (hg:WO (NA l) (brH l) t K c r1 0=some (c',r1',n)) :
 U6 prog 367 [.one (.ow 0 0),.agg (rl t)] [.blk 164 (Hl c (U0 l) r1)] [.oi n,.oi 0] [.blk 164 (Hl c' (U0 l) r1')]:=by
 have cg:=Qxq (T:=164) (r0:=U0 l) ht (pW hl hn) (λa c r1 ha _=>IS (c:=c) (r1:=r1) hl hn ha) hc hev h hg;refine Fv func367 rfl ?_;exact Uh [] [0] [.k (Nx (ht.mono (by decide))),.c [0] cg] rfl
theorem Qtm {c:Cr} {l s:List Pt} (hs:s.length<=1000000):U6 prog 36 [.one (.ow 0 0)] [.blk 164 (Hl c (U0 l) (U0 s))] [.one (ids (s.map (·.id)))] [.blk 164 (Hl c (U0 l) (U0 s))]:=by
 have hcl:=G6 s;refine Fv func36 rfl ?_;refine Ud [.o 3 3 1] rfl ?_;refine Ui (S:=Nat) 2 (λL1 i=>(11,.v (.oi i))::(3,.v (.one (.orow 1 1 none)))::L1) (λi=>[.blk 164 (Hl c (U0 l) (U0 s)),.row false 3 1 (((s.take i).map (·.id)).map λ(z:Int)=>[LV.int .i64 z])]) (λi=>s.length-i) (λi=>i<=s.length) 0 (Qh _) rfl rfl λi hi=>?_
 by_cases hlt:i<s.length
 ·obtain ⟨p,hp⟩:=gxE (l:=s) (i:=i) hlt;have hg:(((s.take (i+1)).map (·.id)).map λ(z:Int)=>[LV.int .i64 z])=(((s.take i).map (·.id)).map λ(z:Int)=>[LV.int .i64 z])++[[.int .i64 p.id]]:=by
   rw [Zv,hp]; simp
  refine Ue [.t (by simp [hcl]; omega),.x (S6 hp),.s (sz:=1) (l:=[[.int .i64 p.id]]) (λc hc=>by rw [Qk.1 hc]; rfl)] rfl ?_;exact rd (i+1) (by omega) hlt (by rw [hg]; rfl)
 ·obtain rfl:i=s.length:=by omega
  rw [Q6];exact Uh [1] [0] [.f (by simp [hcl])] rfl
abbrev ZE (k:Nat) (np nd:Int) (M:List Pt) (q:Rat) (s t h p d:Cr):Ut:=[.blk 51 (uL k q),tB np nd M,bS s M q,bT t M q,bH h M q,bP p M q,bD d M q]
abbrev Q0b (k:Nat):Ur:=[.oif 45 (k+2) 0,.oif 46 (k+3) 0,.oif 47 (k+4) 0,.oif 48 (k+5) 0,.oif 49 (k+6) 0]
theorem IB {np nd:Int} {Mt M:List Pt} {q:Rat} {s t h p d:Cr}:U6 prog 40 [.one (.ow 0 0)] [.blk 51 (uL 0 q),tB np nd Mt,bS s M q,bT t M q,bH h M q,bP p M q,bD d M q] [.agg (Q0b 0)] [.blk 51 (uL 0 q),tB np nd Mt,bS s M q,bT t M q,bH h M q,bP p M q,bD d M q]:=by
 refine Fv func40 rfl ?_;exact Uh [] [0,1,2,3,4,5,6] [] rfl
abbrev zB (k i:Nat) (a b:OB):OB:=match Nat.blt k i with
 | true=>b
 | false=>a
theorem Qet {np nd id:Int} {M M':List Pt} {q:Rat} {s t h p d s' t' h' p' d':Cr} {lx ly l3:Us} {bn:Bool} {e1 e2 e3 e4 e5:Int}
 (ht:U6 prog 76 [.one (.ow 0 0),.agg [.row lx,.row ly,.bool bn,.row l3,.int .i64 id]] [tB np nd M] [.oi 0] [tB np nd M'])
 (h1:U6 prog 338 [.one (.ow 0 0),.agg [.row lx,.row ly,.bool bn,.row l3,.int .i64 id]] [bS s M q] [.oi e1] [bS s' M' q])
 (h2:U6 prog 364 [.one (.ow 0 0),.agg [.row lx,.row ly,.bool bn,.row l3,.int .i64 id]] [bT t M q] [.oi e2] [bT t' M' q])
 (h3:U6 prog 369 [.one (.ow 0 0),.agg [.row lx,.row ly,.bool bn,.row l3,.int .i64 id]] [bH h M q] [.oi e3] [bH h' M' q])
 (h4:U6 prog 374 [.one (.ow 0 0),.agg [.row lx,.row ly,.bool bn,.row l3,.int .i64 id]] [bP p M q] [.oi e4] [bP p' M' q])
 (h5:U6 prog 379 [.one (.ow 0 0),.agg [.row lx,.row ly,.bool bn,.row l3,.int .i64 id]] [bD d M q] [.oi e5] [bD d' M' q]) :
 U6 prog 28 [.one (.ow 0 0),.oi id,.agg [.row lx,.row ly,.bool bn,.row l3]] (ZE 0 np nd M q s t h p d) [.oi 0] (ZE 0 np nd M' q s' t' h' p' d'):=by
 refine Fv func28 rfl ?_;refine Ud [.c [1] ht,.f rfl,.c Uv IB] rfl ?_;refine Ui (S:=Nat) 9 (λL1 i=>(25,.v (.oi i))::L1) (λi=>[.blk 51 (uL 0 q),tB np nd M',zB 0 i (bS s M q) (bS s' M' q),zB 1 i (bT t M q) (bT t' M' q),zB 2 i (bH h M q) (bH h' M' q),zB 3 i (bP p M q) (bP p' M' q),zB 4 i (bD d M q) (bD d' M' q),.blk 60 [.row lx,.row ly,.bool bn,.row l3],.blk 62 [.row lx,.row ly,.bool bn,.row l3,.int .i64 id]]) (λi=>5-i) (λi=>i<=5) 0 (by decide) rfl rfl λi hi=>?_
 rcases (show i=0\/i=1\/i=2\/i=3\/i=4\/i=5 by omega) with rfl | rfl | rfl | rfl | rfl | rfl
 ·exact go tt [.t rfl,.i 0,.c [2] h1] rfl (by simp [U3]) (rd 1 (by omega) (by omega) rfl)
 ·exact go tt [.t rfl,.i 1,.c [3] h2] rfl (by simp [U3]) (rd 2 (by omega) (by omega) rfl)
 ·exact go tt [.t rfl,.i 2,.c [4] h3] rfl (by simp [U3]) (rd 3 (by omega) (by omega) rfl)
 ·exact go tt [.t rfl,.i 3,.c [5] h4] rfl (by simp [U3]) (rd 4 (by omega) (by omega) rfl)
 ·exact go tt [.t rfl,.i 4,.c [6] h5] rfl (by simp [U3]) (rd 5 (by omega) (by omega) rfl)
 ·exact Uh [] [0,1,2,3,4,5,6] [.f rfl] rfl
theorem Qbd {np nd id:Int} {M:List Pt} {q:Rat} {s t h p d:Cr} {lx ly l3:Us} {bn:Bool} {e:Int} (he:e≠0)
 (ht:U6 prog 76 [.one (.ow 0 0),.agg [.row lx,.row ly,.bool bn,.row l3,.int .i64 id]] [tB np nd M] [.oi e] [tB np nd M]) :
 U6 prog 28 [.one (.ow 0 0),.oi id,.agg [.row lx,.row ly,.bool bn,.row l3]] (ZE 0 np nd M q s t h p d) [.oi e] (ZE 0 np nd M q s t h p d):=by
 refine Fv func28 rfl ?_;exact Uh [] [0,1,2,3,4,5,6] [.c [1] ht,.t (by simpa using he)] rfl
theorem Qfb {np nd id:Int} {M M':List Pt} {q:Rat} {s t h p d s' t' h' p' d':Cr} {lx ly l3:Us} {bn:Bool} {e1 e2 e3 e4 e5:Int}
 (ht:U6 prog 94 [.one (.ow 0 0),.agg [.row lx,.row ly,.bool bn,.row l3,.int .i64 id]] [tB np nd M] [.oi 0] [tB np nd M'])
 (h1:U6 prog 339 [.one (.ow 0 0),.agg [.row lx,.row ly,.bool bn,.row l3,.int .i64 id]] [bS s M q] [.oi e1] [bS s' M' q])
 (h2:U6 prog 365 [.one (.ow 0 0),.agg [.row lx,.row ly,.bool bn,.row l3,.int .i64 id]] [bT t M q] [.oi e2] [bT t' M' q])
 (h3:U6 prog 370 [.one (.ow 0 0),.agg [.row lx,.row ly,.bool bn,.row l3,.int .i64 id]] [bH h M q] [.oi e3] [bH h' M' q])
 (h4:U6 prog 375 [.one (.ow 0 0),.agg [.row lx,.row ly,.bool bn,.row l3,.int .i64 id]] [bP p M q] [.oi e4] [bP p' M' q])
 (h5:U6 prog 380 [.one (.ow 0 0),.agg [.row lx,.row ly,.bool bn,.row l3,.int .i64 id]] [bD d M q] [.oi e5] [bD d' M' q]) :
 U6 prog 50 [.one (.ow 0 0),.oi id,.agg [.row lx,.row ly,.bool bn,.row l3]] (ZE 0 np nd M q s t h p d) [.oi 0] (ZE 0 np nd M' q s' t' h' p' d'):=by
 refine Fv func50 rfl ?_;refine Ud [.c [1] ht,.f rfl,.c Uv IB] rfl ?_;refine Ui (S:=Nat) 9 (λL1 i=>(25,.v (.oi i))::L1) (λi=>[.blk 51 (uL 0 q),tB np nd M',zB 0 i (bS s M q) (bS s' M' q),zB 1 i (bT t M q) (bT t' M' q),zB 2 i (bH h M q) (bH h' M' q),zB 3 i (bP p M q) (bP p' M' q),zB 4 i (bD d M q) (bD d' M' q),.blk 60 [.row lx,.row ly,.bool bn,.row l3],.blk 62 [.row lx,.row ly,.bool bn,.row l3,.int .i64 id]]) (λi=>5-i) (λi=>i<=5) 0 (by decide) rfl rfl λi hi=>?_
 rcases (show i=0\/i=1\/i=2\/i=3\/i=4\/i=5 by omega) with rfl | rfl | rfl | rfl | rfl | rfl
 ·exact go tt [.t rfl,.i 0,.c [2] h1] rfl (by simp [U3]) (rd 1 (by omega) (by omega) rfl)
 ·exact go tt [.t rfl,.i 1,.c [3] h2] rfl (by simp [U3]) (rd 2 (by omega) (by omega) rfl)
 ·exact go tt [.t rfl,.i 2,.c [4] h3] rfl (by simp [U3]) (rd 3 (by omega) (by omega) rfl)
 ·exact go tt [.t rfl,.i 3,.c [5] h4] rfl (by simp [U3]) (rd 4 (by omega) (by omega) rfl)
 ·exact go tt [.t rfl,.i 4,.c [6] h5] rfl (by simp [U3]) (rd 5 (by omega) (by omega) rfl)
 ·exact Uh [] [0,1,2,3,4,5,6] [.f rfl] rfl
theorem Qbh {np nd id:Int} {M:List Pt} {q:Rat} {s t h p d:Cr} {lx ly l3:Us} {bn:Bool} {e:Int} (he:e≠0)
 (ht:U6 prog 94 [.one (.ow 0 0),.agg [.row lx,.row ly,.bool bn,.row l3,.int .i64 id]] [tB np nd M] [.oi e] [tB np nd M]) :
 U6 prog 50 [.one (.ow 0 0),.oi id,.agg [.row lx,.row ly,.bool bn,.row l3]] (ZE 0 np nd M q s t h p d) [.oi e] (ZE 0 np nd M q s t h p d):=by
 refine Fv func50 rfl ?_;exact Uh [] [0,1,2,3,4,5,6] [.c [1] ht,.t (by simpa using he)] rfl
theorem Qel {np nd id:Int} {M M':List Pt} {q:Rat} {s t h p d s' t' h' p' d':Cr} {e1 e2 e3 e4 e5:Int}
 (ht:U6 prog 93 [.one (.ow 0 0),.oi id] [tB np nd M] [.oi 0] [tB np nd M'])
 (h1:U6 prog 335 [.one (.ow 0 0),.oi id] [bS s M q] [.oi e1] [bS s' M' q])
 (h2:U6 prog 363 [.one (.ow 0 0),.oi id] [bT t M q] [.oi e2] [bT t' M' q])
 (h3:U6 prog 368 [.one (.ow 0 0),.oi id] [bH h M q] [.oi e3] [bH h' M' q])
 (h4:U6 prog 373 [.one (.ow 0 0),.oi id] [bP p M q] [.oi e4] [bP p' M' q])
 (h5:U6 prog 378 [.one (.ow 0 0),.oi id] [bD d M q] [.oi e5] [bD d' M' q]) :
 U6 prog 49 [.one (.ow 0 0),.oi id] (ZE 0 np nd M q s t h p d) [.oi 0] (ZE 0 np nd M' q s' t' h' p' d'):=by
 refine Fv func49 rfl ?_;refine Ud [.c [1] ht,.f rfl,.c Uv IB] rfl ?_;refine Ui (S:=Nat) 7 (λL1 i=>(19,.v (.oi i))::L1) (λi=>[.blk 51 (uL 0 q),tB np nd M',zB 0 i (bS s M q) (bS s' M' q),zB 1 i (bT t M q) (bT t' M' q),zB 2 i (bH h M q) (bH h' M' q),zB 3 i (bP p M q) (bP p' M' q),zB 4 i (bD d M q) (bD d' M' q)]) (λi=>5-i) (λi=>i<=5) 0 (by decide) rfl rfl λi hi=>?_
 rcases (show i=0\/i=1\/i=2\/i=3\/i=4\/i=5 by omega) with rfl | rfl | rfl | rfl | rfl | rfl
 ·exact go tt [.t rfl,.i 0,.c [2] h1] rfl (by simp [U3]) (rd 1 (by omega) (by omega) rfl)
 ·exact go tt [.t rfl,.i 1,.c [3] h2] rfl (by simp [U3]) (rd 2 (by omega) (by omega) rfl)
 ·exact go tt [.t rfl,.i 2,.c [4] h3] rfl (by simp [U3]) (rd 3 (by omega) (by omega) rfl)
 ·exact go tt [.t rfl,.i 3,.c [5] h4] rfl (by simp [U3]) (rd 4 (by omega) (by omega) rfl)
 ·exact go tt [.t rfl,.i 4,.c [6] h5] rfl (by simp [U3]) (rd 5 (by omega) (by omega) rfl)
 ·exact Uh [] [0,1,2,3,4,5,6] [.f rfl] rfl
theorem Qa8 {np nd id:Int} {M:List Pt} {q:Rat} {s t h p d:Cr} {e:Int} (he:e≠0)
 (ht:U6 prog 93 [.one (.ow 0 0),.oi id] [tB np nd M] [.oi e] [tB np nd M]) :
 U6 prog 49 [.one (.ow 0 0),.oi id] (ZE 0 np nd M q s t h p d) [.oi e] (ZE 0 np nd M q s t h p d):=by
 refine Fv func49 rfl ?_;exact Uh [] [0,1,2,3,4,5,6] [.c [1] ht,.t (by simpa using he)] rfl
theorem Qa6 {np nd:Int} {M:List Pt} {q r:Rat} {s t h p d s' t' h' p' d':Cr} {x0 x1 x2 x3:LV} {a b n1 n2 n3 n4 n5:Int} (ha:Gd x0 x1 a) (hb:Gd x2 x3 b) (sa:Fe a<=4294967295) (sb:Fe b<=4294967295) (hr:Gh a b=r) (hs:Qs 128 r) (hq:Qs 128 q) (hqr:q<=r)
 (h1:U6 prog 333 [.one (.ow 0 0),.agg (rl r)] [bS s M q] [.oi n1,.oi 0] [bS s' M r])
 (h2:U6 prog 362 [.one (.ow 0 0),.agg (rl r)] [bT t M q] [.oi n2,.oi 0] [bT t' M r])
 (h3:U6 prog 367 [.one (.ow 0 0),.agg (rl r)] [bH h M q] [.oi n3,.oi 0] [bH h' M r])
 (h4:U6 prog 372 [.one (.ow 0 0),.agg (rl r)] [bP p M q] [.oi n4,.oi 0] [bP p' M r])
 (h5:U6 prog 377 [.one (.ow 0 0),.agg (rl r)] [bD d M q] [.oi n5,.oi 0] [bD d' M r]) :
 U6 prog 31 [.one (.ow 0 0),.agg [x0,x1,x2,x3]] (ZE 0 np nd M q s t h p d) [.oi 0] (ZE 0 np nd M r s' t' h' p' d'):=by
 have cm:=BO ha hb sa sb;rw [hr] at cm;obtain ⟨b1,r1,rfl,rfl,_⟩:=ha;obtain ⟨b2,r2,rfl,rfl,_⟩:=hb;have cc:=Ci (a:=r) (b:=q) (hs.mono (by decide)) (hq.mono (by decide));have l1:=ZN.2 hs.1;have l2:(Gb r.den).length<=4:=by simpa using ZN.2 hs.2
 have hc:¬He r q<0:=λh=>absurd (Ny.1 h) (Rat.not_lt.2 hqr)
 refine Fv func31 rfl ?_;refine Ud [.k cm,.f (by simp [kG]; omega),.f (by simp [kG]; omega),.k cc,.f (by simpa using hc),.c Uv IB] rfl ?_;refine Ui (S:=Nat) 8 (λL1 i=>(32,.v (.oi i))::L1) (λi=>[.blk 51 (uL 0 q),tB np nd M,zB 0 i (bS s M q) (bS s' M r),zB 1 i (bT t M q) (bT t' M r),zB 2 i (bH h M q) (bH h' M r),zB 3 i (bP p M q) (bP p' M r),zB 4 i (bD d M q) (bD d' M r),.blk 38 (rl r)]) (λi=>5-i) (λi=>i<=5) 0 (by decide) rfl rfl λi hi=>?_
 rcases (show i=0\/i=1\/i=2\/i=3\/i=4\/i=5 by omega) with rfl | rfl | rfl | rfl | rfl | rfl
 ·exact go tt [.t rfl,.i 0,.c [2] h1] rfl (by simp [U3]) (rd 1 (by omega) (by omega) rfl)
 ·exact go tt [.t rfl,.i 1,.c [3] h2] rfl (by simp [U3]) (rd 2 (by omega) (by omega) rfl)
 ·exact go tt [.t rfl,.i 2,.c [4] h3] rfl (by simp [U3]) (rd 3 (by omega) (by omega) rfl)
 ·exact go tt [.t rfl,.i 3,.c [5] h4] rfl (by simp [U3]) (rd 4 (by omega) (by omega) rfl)
 ·exact go tt [.t rfl,.i 4,.c [6] h5] rfl (by simp [U3]) (rd 5 (by omega) (by omega) rfl)
 ·exact Uh [] [0,1,2,3,4,5,6] [.f rfl] rfl
theorem xT {np nd:Int} {M:List Pt} {q r:Rat} {s t h p d:Cr} {x0 x1 x2 x3:LV} {a b:Int} (ha:Gd x0 x1 a) (hb:Gd x2 x3 b) (sa:Fe a<=4294967295) (sb:Fe b<=4294967295) (hr:Gh a b=r) (hs:¬Qs 128 r) :
 U6 prog 31 [.one (.ow 0 0),.agg [x0,x1,x2,x3]] (ZE 0 np nd M q s t h p d) [.oi 1] (ZE 0 np nd M q s t h p d):=by
 have cm:=BO ha hb sa sb;rw [hr] at cm;obtain ⟨b1,r1,rfl,rfl,_⟩:=ha;obtain ⟨b2,r2,rfl,rfl,_⟩:=hb;refine Fv func31 rfl ?_;by_cases h1:Fe r.num<=128
 ·have h2:¬Fe (r.den:Int)<=128:=λh=>hs ⟨h1,h⟩
  have l1:=ZN.2 h1;have l2:=mt ZN.1 h2;exact Uh [] [0,1,2,3,4,5,6] [.k cm,.f (by simp [kG]; omega),.t (by simp [kG] at l2 ⊢; omega)] rfl
 ·have l1:=mt ZN.1 h1;exact Uh [] [0,1,2,3,4,5,6] [.k cm,.t (by simp [kG]; omega),.t rfl] rfl
theorem AL {np nd:Int} {M:List Pt} {q r:Rat} {s t h p d:Cr} {x0 x1 x2 x3:LV} {a b:Int} (ha:Gd x0 x1 a) (hb:Gd x2 x3 b) (sa:Fe a<=4294967295) (sb:Fe b<=4294967295) (hr:Gh a b=r) (hs:Qs 128 r) (hq:Qs 128 q) (hqr:r<q) :
 U6 prog 31 [.one (.ow 0 0),.agg [x0,x1,x2,x3]] (ZE 0 np nd M q s t h p d) [.oi 8] (ZE 0 np nd M q s t h p d):=by
 have cm:=BO ha hb sa sb;rw [hr] at cm;obtain ⟨b1,r1,rfl,rfl,_⟩:=ha;obtain ⟨b2,r2,rfl,rfl,_⟩:=hb;have cc:=Ci (a:=r) (b:=q) (hs.mono (by decide)) (hq.mono (by decide));have l1:=ZN.2 hs.1;have l2:(Gb r.den).length<=4:=by simpa using ZN.2 hs.2
 have hc:He r q<0:=Ny.2 hqr;refine Fv func31 rfl ?_;exact Uh [] [0,1,2,3,4,5,6] [.k cm,.f (by simp [kG]; omega),.f (by simp [kG]; omega),.k cc,.t (by simpa using hc)] rfl
theorem BF {c:Cr} {l l':List Pt} {r1:Us} {ws:List Wt} (hc:CrOk c) (hl:∀ p∈l',Sc p.c) (hn:l'.length≤10) (h:Tk c.l c.now (Fo (NA l' c.now))=some ws) :
 U6 prog 371 [.one (.ow 0 0),.agg [pts l'],.oi 0] [.blk 164 (Hl c (U0 l) r1)] [.oi 0] [.blk 164 (Hl ⟨c.now,ws,c.ev⟩ (U0 l') (brH l' c.now))]:=by
 have hB:=pW hl hn;have cn:=QW (T:=164) (c:=c) (r0:=U0 l') (r1:=r1) hc.n;have cb:=IS (c:=c) (r1:=r1) hl hn hc.n;have cg:=YW (T:=164) (r0:=U0 l') (r1:=brH l' c.now) hc hc.n (I5 hc.n) (Yd 0) (hB.p _ hc.n) (hB.n _ hc.n) h;refine Fv func371 rfl ?_;exact Uh [] [0] [.f rfl,.c [0] cn,.c [0] cb,.c [0] cg] rfl
theorem Qm3 {lx ly:Us} {px py:Um} {x y:LV} {d id:Int} {c:Cr} {l:List Pt} {r1:Us} {ws:List Wt} (hx:IsInts lx px) (hy:IsInts ly py) (hd:Gd x y d) (hk:Cs 4294967294 1073741824 (Crv.mk px py d)) (hll:l.length<=900)
 (he:WR l ⟨Crv.norm (Crv.mk px py d),id⟩=0) (hc:CrOk c) (hl:∀ p∈put l ⟨Crv.norm (Crv.mk px py d),id⟩,Sc p.c) (hn:(put l ⟨Crv.norm (Crv.mk px py d),id⟩).length≤10) (h:Tk c.l c.now (Fo (NA (put l ⟨Crv.norm (Crv.mk px py d),id⟩) c.now))=some ws) :
 U6 prog 369 [.one (.ow 0 0),.agg [.row lx,.row ly,x,y,.int .i64 id]] [.blk 164 (Hl c (U0 l) r1)] [.oi 0] [.blk 164 (Hl ⟨c.now,ws,c.ev⟩ (U0 (put l ⟨Crv.norm (Crv.mk px py d),id⟩)) (brH (put l ⟨Crv.norm (Crv.mk px py d),id⟩) c.now))]:=by
 have cp:=wG (l:=l) (id:=id) hx hy hd hk (by omega);rw [if_pos he,he] at cp;have cw:=BF (l:=l) (r1:=r1) hc hl hn h;refine Fv func369 rfl ?_;obtain ⟨b,l',rfl,rfl,_⟩:=hd;exact Uh [] [0] [.k cp,.c [0] cw] rfl
theorem Qer {lx ly:Us} {px py:Um} {x y:LV} {d id:Int} {c:Cr} {l l':List Pt} {r1:Us} {ws:List Wt} (hx:IsInts lx px) (hy:IsInts ly py) (hd:Gd x y d) (hk:Cs 4294967294 1073741824 (Crv.mk px py d)) (hll:l.length<=10) (h:has l id=true) (hc:CrOk c)
 (hl':l'=l.set (Rw l id) (Pt.mk (Crv.norm (Crv.mk px py d)) id)) (hs:∀ p∈l',Sc p.c) (hw:Tk c.l c.now (Fo (NA l' c.now))=some ws) :
 U6 prog 370 [.one (.ow 0 0),.agg [.row lx,.row ly,x,y,.int .i64 id]] [.blk 164 (Hl c (U0 l) r1)] [.oi 0] [.blk 164 (Hl ⟨c.now,ws,c.ev⟩ (U0 l') (brH l' c.now))]:=by
 have ct1:=UG (l:=l) hx hy hd hk (by omega) h;rw [<-hl'] at ct1;have cw:=BF (c:=c) (l:=l) (l':=l') (r1:=r1) hc hs (by rw [hl',Xd]; omega) hw;obtain ⟨b,r,rfl,rfl,_⟩:=hd;refine Fv func370 rfl ?_;exact Uh [] [0] [.k ct1,.c [0] cw] rfl
theorem Qeq {id:Int} {c:Cr} {l l':List Pt} {r1:Us} {ws:List Wt} (hll:l.length<=10) (h:has l id=true) (hc:CrOk c)
 (hl':l'=l.take (Rw l id)++l.drop (Rw l id+1)) (hs:∀ p∈l',Sc p.c) (hw:Tk c.l c.now (Fo (NA l' c.now))=some ws) :
 U6 prog 368 [.one (.ow 0 0),.oi id] [.blk 164 (Hl c (U0 l) r1)] [.oi 0] [.blk 164 (Hl ⟨c.now,ws,c.ev⟩ (U0 l') (brH l' c.now))]:=by
 have ct1:=UU (l:=l) (id:=id) (by omega) h;rw [<-hl'] at ct1;have cw:=BF (c:=c) (l:=l) (l':=l') (r1:=r1) hc hs (by rw [hl',Qu,Qq,Q7]; omega) hw;refine Fv func368 rfl ?_;exact Uh [] [0] [.k ct1,.c [0] cw] rfl
theorem Qbc {c:Cr} {r0:Us} {r1:Us}:U6 prog 57 [.one (.ow 0 0)] [.blk 164 (Hl c r0 r1)] [.one (.ow 1 0)] [.blk 164 (Hl c r0 r1),.blk 164 (Hl c r0 r1)]:=by
 refine Fv func57 rfl ?_;exact Uh [] [0,1] [] rfl
theorem BS {c:Cr} {l l':List Pt} {r1:Us} {ws:List Wt} (hc:CrOk c) (hl:∀ p∈l',Sc p.c) (hn:l'.length≤10) (h:Tk c.l c.now (Fo (sL l' c.now))=some ws) :
 U6 prog 376 [.one (.ow 0 0),.agg [pts l'],.oi 0] [.blk 166 (Hl c (U0 l) r1)] [.oi 0] [.blk 166 (Hl ⟨c.now,ws,c.ev⟩ (U0 l') (brP l' c.now))]:=by
 have hB:=Qeb hl hn;have cn:=QW (T:=166) (c:=c) (r0:=U0 l') (r1:=r1) hc.n;have cb:=IP (c:=c) (r1:=r1) hl hn hc.n;have cg:=YW (T:=166) (r0:=U0 l') (r1:=brP l' c.now) hc hc.n (I5 hc.n) (Yd 0) (hB.p _ hc.n) (hB.n _ hc.n) h;refine Fv func376 rfl ?_;exact Uh [] [0] [.f rfl,.c [0] cn,.c [0] cb,.c [0] cg] rfl
theorem Qnb {lx ly:Us} {px py:Um} {x y:LV} {d id:Int} {c:Cr} {l:List Pt} {r1:Us} {ws:List Wt} (hx:IsInts lx px) (hy:IsInts ly py) (hd:Gd x y d) (hk:Cs 4294967294 1073741824 (Crv.mk px py d)) (hll:l.length<=900)
 (he:WR l ⟨Crv.norm (Crv.mk px py d),id⟩=0) (hc:CrOk c) (hl:∀ p∈put l ⟨Crv.norm (Crv.mk px py d),id⟩,Sc p.c) (hn:(put l ⟨Crv.norm (Crv.mk px py d),id⟩).length≤10) (h:Tk c.l c.now (Fo (sL (put l ⟨Crv.norm (Crv.mk px py d),id⟩) c.now))=some ws) :
 U6 prog 374 [.one (.ow 0 0),.agg [.row lx,.row ly,x,y,.int .i64 id]] [.blk 166 (Hl c (U0 l) r1)] [.oi 0] [.blk 166 (Hl ⟨c.now,ws,c.ev⟩ (U0 (put l ⟨Crv.norm (Crv.mk px py d),id⟩)) (brP (put l ⟨Crv.norm (Crv.mk px py d),id⟩) c.now))]:=by
 have cp:=wG (l:=l) (id:=id) hx hy hd hk (by omega);rw [if_pos he,he] at cp;have cw:=BS (l:=l) (r1:=r1) hc hl hn h;refine Fv func374 rfl ?_;obtain ⟨b,l',rfl,rfl,_⟩:=hd;exact Uh [] [0] [.k cp,.c [0] cw] rfl
theorem Qe5 {lx ly:Us} {px py:Um} {x y:LV} {d id:Int} {c:Cr} {l l':List Pt} {r1:Us} {ws:List Wt} (hx:IsInts lx px) (hy:IsInts ly py) (hd:Gd x y d) (hk:Cs 4294967294 1073741824 (Crv.mk px py d)) (hll:l.length<=10) (h:has l id=true) (hc:CrOk c)
 (hl':l'=l.set (Rw l id) (Pt.mk (Crv.norm (Crv.mk px py d)) id)) (hs:∀ p∈l',Sc p.c) (hw:Tk c.l c.now (Fo (sL l' c.now))=some ws) :
 U6 prog 375 [.one (.ow 0 0),.agg [.row lx,.row ly,x,y,.int .i64 id]] [.blk 166 (Hl c (U0 l) r1)] [.oi 0] [.blk 166 (Hl ⟨c.now,ws,c.ev⟩ (U0 l') (brP l' c.now))]:=by
 have ct1:=UG (l:=l) hx hy hd hk (by omega) h;rw [<-hl'] at ct1;have cw:=BS (c:=c) (l:=l) (l':=l') (r1:=r1) hc hs (by rw [hl',Xd]; omega) hw;obtain ⟨b,r,rfl,rfl,_⟩:=hd;refine Fv func375 rfl ?_;exact Uh [] [0] [.k ct1,.c [0] cw] rfl
theorem Qe4 {id:Int} {c:Cr} {l l':List Pt} {r1:Us} {ws:List Wt} (hll:l.length<=10) (h:has l id=true) (hc:CrOk c)
 (hl':l'=l.take (Rw l id)++l.drop (Rw l id+1)) (hs:∀ p∈l',Sc p.c) (hw:Tk c.l c.now (Fo (sL l' c.now))=some ws) :
 U6 prog 373 [.one (.ow 0 0),.oi id] [.blk 166 (Hl c (U0 l) r1)] [.oi 0] [.blk 166 (Hl ⟨c.now,ws,c.ev⟩ (U0 l') (brP l' c.now))]:=by
 have ct1:=UU (l:=l) (id:=id) (by omega) h;rw [<-hl'] at ct1;have cw:=BS (c:=c) (l:=l) (l':=l') (r1:=r1) hc hs (by rw [hl',Qu,Qq,Q7]; omega) hw;refine Fv func373 rfl ?_;exact Uh [] [0] [.k ct1,.c [0] cw] rfl
theorem Qbf {c:Cr} {r0:Us} {r1:Us}:U6 prog 58 [.one (.ow 0 0)] [.blk 166 (Hl c r0 r1)] [.one (.ow 1 0)] [.blk 166 (Hl c r0 r1),.blk 166 (Hl c r0 r1)]:=by
 refine Fv func58 rfl ?_;exact Uh [] [0,1] [] rfl
theorem lQ {np nd:Int} {M:List Pt} {q:Rat} {s t h p d:Cr} (hq:Qs 128 q):U6 prog 10 [.one (.ow 0 0)] (ZE 0 np nd M q s t h p d) [.agg (rl q)] (ZE 0 np nd M q s t h p d):=by
 refine Fv func10 rfl ?_;exact Uh [] [0,1,2,3,4,5,6] [.k (Nx (hq.mono (by decide)))] rfl
abbrev en2 (np nd:Int) (M:List Pt) (q:Rat) (s t h p d:Cr) (np' nd':Int) (M':List Pt) (q':Rat) (s' t' h' p' d':Cr):Ut:=[.blk 51 (uL 0 q),tB np nd M,bS s M q,bT t M q,bH h M q,bP p M q,bD d M q,.blk 51 (uL 7 q'),tB np' nd' M',bS s' M' q',bT t' M' q',bH h' M' q',bP p' M' q',bD d' M' q']
theorem xP {np nd:Int} {M:List Pt} {q:Rat} {s t h p d:Cr} (hq:Qs 128 q):U6 prog 17 [.one (.ow 0 0)] (ZE 0 np nd M q s t h p d) [.one (.ow 7 0)] (en2 np nd M q s t h p d np nd M q s t h p d):=by
 refine Fv func17 rfl ?_;exact Uh [] [0,1,2,3,4,5,6,13,7,8,9,10,11,12] [.lo,.c [1,7] Qgh,.lo,.c Uv (lQ hq),.lo,.c [2,8] Qfe,.lo,.c [3,9] Qbm,.lo,.c [4,10] Qbc,.lo,.c [5,11] Qbf,.lo,.c [6,12] Qa7] rfl
abbrev anw (S W H P:List Pt) (T:List P3):Ur:=[ids (S.map (·.id)),ids (W.map (·.id)),ids (H.map (·.id)),ids (P.map (·.id)),.row (ZV T)]
theorem Qnp {np nd:Int} {M S W H P:List Pt} {T:List P3} {r2:Us} {q:Rat} {s t h p d:Cr} (hS:S.length<=1000000) (hH:H.length<=1000000) (hT:T.length<=1000) (hW:W=[]\/∃ w,W=[w]) (hP:P=[]\/∃ a b,P=[a,b]) :
 U6 prog 7 [.one (.ow 0 0)] [.blk 51 (uL 0 q),tB np nd M,.blk 156 (Hl s (U0 M) (U0 S)),.blk 162 (Td t (U0 M) (W.map Fc,r2)),.blk 164 (Hl h (U0 M) (U0 H)),.blk 166 (Hl p (U0 M) (U0 P)),.blk 168 (Hl d (U0 M) (ZV T))]
  [.agg (anw S W H P T)] [.blk 51 (uL 0 q),tB np nd M,.blk 156 (Hl s (U0 M) (U0 S)),.blk 162 (Td t (U0 M) (W.map Fc,r2)),.blk 164 (Hl h (U0 M) (U0 H)),.blk 166 (Hl p (U0 M) (U0 P)),.blk 168 (Hl d (U0 M) (ZV T))]:=by
 have c1:=Qtx (c:=s) (l:=M) hS;have c2:=Qtm (c:=h) (l:=M) hH;have c3:=pA (c:=d) (r0:=U0 M) hT;rcases hW with rfl | ⟨w,rfl⟩
 ·have c4:=Qfo (c:=t) (r0:=U0 M) (r2:=r2);rcases hP with rfl | ⟨a,b,rfl⟩
  ·have c5:=wF (c:=p) (r0:=U0 M);refine Fv func7 rfl ?_;exact Uh [] [0,1,2,3,4,5,6] [.c [2] c1,.c [4] c2,.c [6] c3,.c [3] c4,.f rfl,.c [5] c5,.f rfl] rfl
  ·have c5:=lU (c:=p) (r0:=U0 M) (a:=a) (b:=b);refine Fv func7 rfl ?_;exact Uh [] [0,1,2,3,4,5,6] [.c [2] c1,.c [4] c2,.c [6] c3,.c [3] c4,.f rfl,.c [5] c5,.t rfl] rfl
 ·have c4:=Qns (c:=t) (r0:=U0 M) (r2:=r2) (w:=w);rcases hP with rfl | ⟨a,b,rfl⟩
  ·have c5:=wF (c:=p) (r0:=U0 M);refine Fv func7 rfl ?_;exact Uh [] [0,1,2,3,4,5,6] [.c [2] c1,.c [4] c2,.c [6] c3,.c [3] c4,.t rfl,.c [5] c5,.f rfl] rfl
  ·have c5:=lU (c:=p) (r0:=U0 M) (a:=a) (b:=b);refine Fv func7 rfl ?_;exact Uh [] [0,1,2,3,4,5,6] [.c [2] c1,.c [4] c2,.c [6] c3,.c [3] c4,.t rfl,.c [5] c5,.t rfl] rfl
abbrev Qd7 (M:List Pt) (q:Rat):Ur:=anw (Ty (tq q) M) (Bm (Fu (tq q)) M).1 (Pi M (tq q)) (ZR (Fu (tq q)) M) (qF (Fu (tq q)) M)
theorem Qas (sg:Um->Int) (M:List Pt):(Bm sg M).1=[]\/∃ w,(Bm sg M).1=[w]:=by
 by_cases h:0<M.length
 ·obtain ⟨a,ha,_⟩:=Nl sg M.length M (Ql _) h;exact .inr ⟨a,ha⟩
 ·obtain rfl:=Qj (by omega:M.length=0);exact .inl rfl
theorem gG (sg:Um->Int) (M:List Pt):ZR sg M=[]\/∃ a b,ZR sg M=[a,b]:=by
 match M with
 | []=>exact .inl rfl
 | [_]=>exact .inl rfl
 | _::_::_=>exact .inr ⟨_,_,rfl⟩
theorem BB {np nd:Int} {M:List Pt} {q:Rat} {s t h p d:Cr} (hM:M.length<=6):U6 prog 7 [.one (.ow 0 0)] (ZE 0 np nd M q s t h p d) [.agg (Qd7 M q)] (ZE 0 np nd M q s t h p d) :=
 Qnp (by rw [No]; omega) (by have:=YH M (tq q); omega) (by have:=qG (Fu (tq q)) hM; omega) (Qas _ _) (gG _ _)
theorem Qbg {np nd:Int} {M:List Pt} {q r:Rat} {s t h p d s' t' h' p' d':Cr} {b1 b2:Bool} {r1 r2:Us} (hq:Qs 128 q) (hM:M.length<=6)
 (ha:U6 prog 31 [.one (.ow 0 0),.agg [.bool b1,.row r1,.bool b2,.row r2]] (ZE 0 np nd M q s t h p d) [.oi 0] (ZE 0 np nd M r s' t' h' p' d')) :
 U6 prog 52 [.one (.ow 0 0),.agg [.bool b1,.row r1,.bool b2,.row r2]] (ZE 0 np nd M q s t h p d) [.agg (Qd7 M r),.oi 0] (ZE 0 np nd M q s t h p d):=by
 refine Fv func52 rfl ?_;exact Uh [] [0,1,2,3,4,5,6] [.c Uz (xP hq),.c Ux ha,.f rfl,.c Ux (BB hM)] rfl
abbrev Qxf:Ur:=[.row [],.row [],.row [],.row [],.row []]
theorem Qe9 {np nd:Int} {M:List Pt} {q:Rat} {s t h p d:Cr} {b1 b2:Bool} {r1 r2:Us} {e:Int} (he:e≠0) (hq:Qs 128 q)
 (ha:U6 prog 31 [.one (.ow 0 0),.agg [.bool b1,.row r1,.bool b2,.row r2]] (ZE 0 np nd M q s t h p d) [.oi e] (ZE 0 np nd M q s t h p d)) :
 U6 prog 52 [.one (.ow 0 0),.agg [.bool b1,.row r1,.bool b2,.row r2]] (ZE 0 np nd M q s t h p d) [.agg Qxf,.oi e] (ZE 0 np nd M q s t h p d):=by
 refine Fv func52 rfl ?_;exact Uh [] [0,1,2,3,4,5,6] [.c Uz (xP hq),.c Ux ha,.t (by simpa using he)] rfl
abbrev Qkp (k i:Nat) (e:Int):LV:=match Nat.blt k i with
 | true=>.int .i64 e
 | false=>.int .i64 0
theorem wY {np nd:Int} {M:List Pt} {q:Rat} {s t h p d:Cr}:U6 prog 12 [.one (.ow 0 0)] (ZE 0 np nd M q s t h p d) [.agg [.int .i64 s.ev,.int .i64 t.ev,.int .i64 h.ev,.int .i64 p.ev,.int .i64 d.ev]] (ZE 0 np nd M q s t h p d):=by
 refine Fv func12 rfl ?_;refine Ud [.c Uv IB] rfl ?_;refine Ui (S:=Nat) 9 (λL1 i=>(8,.v (.oi i))::L1) (λi=>[.blk 51 (uL 0 q),tB np nd M,bS s M q,bT t M q,bH h M q,bP p M q,bD d M q,.blk 53 [.int .i64 0,.int .i64 0,.int .i64 0,.int .i64 0,.int .i64 0],.blk 53 [Qkp 0 i s.ev,Qkp 1 i t.ev,Qkp 2 i h.ev,Qkp 3 i p.ev,Qkp 4 i d.ev]]) (λi=>5-i) (λi=>i<=5) 0 (by decide) rfl rfl λi hi=>?_
 rcases (show i=0\/i=1\/i=2\/i=3\/i=4\/i=5 by omega) with rfl | rfl | rfl | rfl | rfl | rfl
 ·exact go tt [.t rfl,.i 0,.c [2] YU,.i 0] rfl (by simp [U3]) (rd 1 (by omega) (by omega) rfl)
 ·exact go tt [.t rfl,.i 1,.c [3] Qbl,.i 1] rfl (by simp [U3]) (rd 2 (by omega) (by omega) rfl)
 ·exact go tt [.t rfl,.i 2,.c [4] YU,.i 2] rfl (by simp [U3]) (rd 3 (by omega) (by omega) rfl)
 ·exact go tt [.t rfl,.i 3,.c [5] YU,.i 3] rfl (by simp [U3]) (rd 4 (by omega) (by omega) rfl)
 ·exact go tt [.t rfl,.i 4,.c [6] YU,.i 4] rfl (by simp [U3]) (rd 5 (by omega) (by omega) rfl)
 ·exact Uh [] [0,1,2,3,4,5,6] [.f rfl] rfl
abbrev Iu (l:List Wt):List Ct:=Fo (l.map (·.c))
def SY (s t h p d:Cr):Nat->Us
 | 0=>[]
 | 1=>[]++U8 (Iu s.l)
 | 2=>[]++U8 (Iu s.l)++U8 (Iu t.l)
 | 3=>[]++U8 (Iu s.l)++U8 (Iu t.l)++U8 (Iu h.l)
 | 4=>[]++U8 (Iu s.l)++U8 (Iu t.l)++U8 (Iu h.l)++U8 (Iu p.l)
 | _=>[]++U8 (Iu s.l)++U8 (Iu t.l)++U8 (Iu h.l)++U8 (Iu p.l)++U8 (Iu d.l)
theorem Qmx {np nd:Int} {M:List Pt} {q:Rat} {s t h p d:Cr} (hs:CrOk s) (ht:CrOk t) (hh:CrOk h) (hp:CrOk p) (hd:CrOk d):U6 prog 14 [.one (.ow 0 0)] (ZE 0 np nd M q s t h p d) [.one (.row (U8 (Iu s.l++Iu t.l++Iu h.l++Iu p.l++Iu d.l)))] (ZE 0 np nd M q s t h p d):=by
 have e:U8 (Iu s.l++Iu t.l++Iu h.l++Iu p.l++Iu d.l)=SY s t h p d 5:=by simp [U8,SY]
 rw [e];have ln:∀ {c:Cr},CrOk c->(U8 (Iu c.l)).length<=1000:=λ{c} hc=>by rw [Pn,Mx,Q9]; exact hc.k
 have l1:=ln hs;have l2:=ln ht;have l3:=ln hh;have l4:=ln hp;have l5:=ln hd;have k1:(U8 (Fo (s.l.map (·.c)))).length<=1000:=ln hs;have k2:(U8 (Fo (t.l.map (·.c)))).length<=1000:=ln ht;have k3:(U8 (Fo (h.l.map (·.c)))).length<=1000:=ln hh;have k4:(U8 (Fo (p.l.map (·.c)))).length<=1000:=ln hp;have k5:(U8 (Fo (d.l.map (·.c)))).length<=1000:=ln hd;have m1:(SY s t h p d 1).length<=1000:=by show ([]++U8 (Iu s.l)).length<=_; simp only [Qu,Xk]; omega
 have m2:(SY s t h p d 2).length<=2000:=by show ([]++U8 (Iu s.l)++U8 (Iu t.l)).length<=_; simp only [Qu,Xk]; omega
 have m3:(SY s t h p d 3).length<=3000:=by show ([]++U8 (Iu s.l)++U8 (Iu t.l)++U8 (Iu h.l)).length<=_; simp only [Qu,Xk]; omega
 have m4:(SY s t h p d 4).length<=4000:=by show ([]++U8 (Iu s.l)++U8 (Iu t.l)++U8 (Iu h.l)++U8 (Iu p.l)).length<=_; simp only [Qu,Xk]; omega
 have m0:(SY s t h p d 0).length=0:=rfl;refine Fv func14 rfl ?_;refine Ud [.o 3 144 7,.c Uv IB] rfl ?_;refine Ui (S:=Nat) 8 (λL1 i=>(8,.v (.oi i))::(3,.v (.one (.orow 7 7 none)))::L1) (λi=>[.blk 51 (uL 0 q),tB np nd M,bS s M q,bT t M q,bH h M q,bP p M q,bD d M q,.row false 144 7 (SY s t h p d i)]) (λi=>5-i) (λi=>i<=5) 0 (by decide) rfl rfl λi hi=>?_
 rcases (show i=0\/i=1\/i=2\/i=3\/i=4\/i=5 by omega) with rfl | rfl | rfl | rfl | rfl | rfl
 ·exact go tt [.t rfl,.i 0,.c [2] (UV hs),.s (I8 _)] rfl (by simp only [U3]; omega) (rd 1 (by omega) (by omega) rfl)
 ·exact go tt [.t rfl,.i 1,.c [3] (Qfk ht),.s (I8 _)] rfl (by simp only [U3]; omega) (rd 2 (by omega) (by omega) rfl)
 ·exact go tt [.t rfl,.i 2,.c [4] (UV hh),.s (I8 _)] rfl (by simp only [U3]; omega) (rd 3 (by omega) (by omega) rfl)
 ·exact go tt [.t rfl,.i 3,.c [5] (UV hp),.s (I8 _)] rfl (by simp only [U3]; omega) (rd 4 (by omega) (by omega) rfl)
 ·exact go tt [.t rfl,.i 4,.c [6] (UV hd),.s (I8 _)] rfl (by simp only [U3]; omega) (rd 5 (by omega) (by omega) rfl)
 ·exact Uh [7] [0,1,2,3,4,5,6] [.f rfl] rfl
theorem Qrl:∀ p∈([]:List Pt),Sc p.c:=λ_ h=>by cases h
theorem Ql1:∀ x∈([]:List Ct),Cp x.p:=λ_ h=>by cases h
theorem sC:Uj 68 [.one (.row [])] [.agg [.row []],.oi 0]:=by
 refine Fv func68 rfl ?_;refine Ud [.f rfl] rfl ?_;refine nlb 1 rfl rfl rfl ?_;refine Ui (S:=Unit) 2 (λL1 _=>(14,.v (.oi 0))::L1) (λ_=>[.blk 149 [.nils],.blk 149 [.row []]]) (λ_=>0) (λ_=>True) () trivial rfl rfl λ_ _=>?_
 exact Uf [.f rfl] rfl
abbrev zT (r0 r1 r2:LV):OB:=.blk 162 [.bool false,.nils,.bool false,.nils,.bool false,.nils,.bool false,.nils,.bool false,.nils,.nils,.int .i64 0,r0,r1,r2]
theorem Qrj {a:Tm}:U6 prog 110 [.one (.ow 0 0),.agg (ta a),.one (.row [])] [zT (.row []) .nils (.orow 1 10 none),.row false 217 10 []] [.one (.row [])] [zT (.row []) .nils (.orow 1 10 none),.row false 217 10 []]:=by
 refine Fv func110 rfl ?_;exact Uh [] [0,1] [.t rfl] rfl
theorem Qlz {a:Tm}:U6 prog 72 [.one (.ow 0 0),.agg (ta a)] [zT (.row []) .nils .nils] [.one (.row [])] [zT (.row []) (.row []) (.row [])]:=by
 refine Fv func72 rfl ?_;refine Ud [] rfl ?_;refine oz 0 14 217 10 rfl rfl ?_;refine Ud [.k (Ir (l:=[])),.c [0,2] (Qrj (a:=a)),.o 5 144 7] rfl ?_;refine Ui (S:=Unit) 4 (λL1 _=>(29,.v (.oi 0))::(5,.v (.one (.orow 3 7 none)))::L1) (λ_=>[zT (.row []) (.row []) (.orow 2 10 none),.blk 40 (ta a),.row false 217 10 [],.row false 144 7 []]) (λ_=>0) (λ_=>True) () trivial rfl rfl λ_ _=>?_
 exact Uh [2,3] [0] [.f rfl] rfl
theorem Ql0:Uj 113 [.agg [.row []]] [.one (.row [])]:=mY (l:=[]) (λ_ h=>by cases h) (by decide)
theorem Qs2 {a:Tm} (ha:Va a):Uj 107 [.agg (ta a),.one (.row [])] [.one (.row [])]:=wH (l:=[]) Qrl (by decide) ha
theorem Qlx {a:Tm} (ha:Va a):U6 prog 73 [.one (.ow 0 0),.agg (ta a)] [.blk 164 (mP (.row []) .nils)] [.one (.row [])] [.blk 164 (mP (.row []) (.row []))]:=by
 have cn:Uj 112 [.agg (ta a),.one (.row [])] [.one (.row [])]:=lD (R:=[]) Qrl (by decide) ha;have cc:U6 prog 109 [.agg (ta a),.one (.row [])] [] [.one (.orow 0 7 none)] [.row false 144 7 []]:=SZ (l:=[]) Qrl (by decide) ha;refine Fv func73 rfl ?_;exact Uh [2] [0] [.k Ql0,.k (Qs2 ha),.k cn,.k (Ir (l:=[])),.k (Qs2 ha),.c [2] cc,.t rfl] rfl
theorem Qly {a:Tm}:U6 prog 74 [.one (.ow 0 0),.agg (ta a)] [.blk 166 (mP (.row []) .nils)] [.one (.row [])] [.blk 166 (mP (.row []) (.row []))]:=by
 refine Fv func74 rfl ?_;refine Ud [.k (Ir (l:=[]))] rfl ?_;refine nlc 0 13 rfl rfl rfl ?_;exact Uh [] [0] [.t rfl] rfl
theorem Qlw {a:Tm}:U6 prog 75 [.one (.ow 0 0),.agg (ta a)] [.blk 168 (mP (.row []) .nils)] [.one (.row [])] [.blk 168 (mP (.row []) (.row []))]:=by
 refine Fv func75 rfl ?_;refine Ud [.k Ql0,.o 6 144 7] rfl ?_;refine Ui (S:=Unit) 4 (λL1 _=>(42,.v (.oi 0))::(6,.v (.one (.orow 2 7 none)))::L1) (λ_=>[.blk 168 (mP (.row []) .nils),.blk 40 (ta a),.row false 144 7 [],.mpb (A1 (ZB (Fu a) []))]) (λ_=>0) (λ_=>True) () trivial rfl rfl λ_ _=>?_
 refine Ud [.f rfl] rfl ?_;refine Ui (S:=Unit) 5 (λL1 _=>(97,.v (.oi 0))::(6,.v (.one (.orow 2 7 none)))::L1) (λ_=>[.blk 168 (mP (.row []) .nils),.blk 40 (ta a),.row false 144 7 [],.mpb (A1 (ZB (Fu a) [])),.mpb (Oe (A1 (ZB (Fu a) [])) (VC (Fu a) []))]) (λ_=>0) (λ_=>True) () trivial rfl rfl λ_ _=>?_
 refine Ud [.f rfl] rfl ?_;refine ozM 0 13 139 3 rfl rfl ?_;refine Ui (S:=Unit) 6 (λL1 _=>(174,.v (.oi 0))::L1) (λ_=>[.blk 168 [.bool false,.nils,.bool false,.nils,.bool false,.nils,.bool false,.nils,.bool false,.nils,.nils,.int .i64 0,.row [],.orow 5 3 none],.blk 40 (ta a),.row false 144 7 [],.mpb (A1 (ZB (Fu a) [])),.mpb (Oe (A1 (ZB (Fu a) [])) (VC (Fu a) [])),.row false 139 3 []]) (λ_=>0) (λ_=>True) () trivial rfl rfl λ_ _=>?_
 exact Uh [2,5] [0] [.f rfl] rfl
section
variable {x y x' y':LV} {n d:Int} (h1:Gd x y n) (h2:Gd x' y' d) (bn:Fe n<=4294967295) (bd:Fe d<=4294967295) (ht:Qs 1640000 (Gh n d))
include h1 h2 bn bd ht
theorem Qri:U6 prog 23 [.agg [x,y,x',y'],.one (.row [])] [] [.one (.ow 0 0),.oi 0] [.blk 156 (Hl ⟨tq (Gh n d),[],0⟩ [] [])]:=by
 have co:=VI h1 h2 bn bd (ht.mono (by decide));have cb:U6 prog 71 [.one (.ow 0 0),.agg (ta (tq (Gh n d)))] [.blk 156 (mP (.row []) .nils)] [.one (.row [])] [.blk 156 (mP (.row []) (.row []))]:=Qbi (l:=[]) Qrl (by decide) (AG ht);have cg:=YK (T:=156) (r0:=[]) (r1:=[]) (AG ht) Ql1 (by decide);obtain ⟨b,l1,rfl,rfl,_⟩:=h1;obtain ⟨b',l2,rfl,rfl,_⟩:=h2;refine Fv func23 rfl ?_;exact Uh [] [2] [.k sC,.f rfl,.k co,.c [2] cb,.c [2] cg] rfl
theorem Qrk:U6 prog 24 [.agg [x,y,x',y'],.one (.row [])] [] [.one (.ow 0 0),.oi 0] [.blk 162 (Td ⟨tq (Gh n d),[],0⟩ [] ([],[]))]:=by
 have co:=VI h1 h2 bn bd (ht.mono (by decide));have cg:=Qbj (T:=162) (r0:=[]) (r1:=([],[])) (AG ht) Ql1 (by decide);obtain ⟨b,l1,rfl,rfl,_⟩:=h1;obtain ⟨b',l2,rfl,rfl,_⟩:=h2;refine Fv func24 rfl ?_;exact Uh [] [2] [.k sC,.f rfl,.k co,.c [2] (Qlz (a:=tq (Gh n d))),.c [2] cg] rfl
theorem Qrg:U6 prog 25 [.agg [x,y,x',y'],.one (.row [])] [] [.one (.ow 0 0),.oi 0] [.blk 164 (Hl ⟨tq (Gh n d),[],0⟩ [] [])]:=by
 have co:=VI h1 h2 bn bd (ht.mono (by decide));have cg:=YK (T:=164) (r0:=[]) (r1:=[]) (AG ht) Ql1 (by decide);obtain ⟨b,l1,rfl,rfl,_⟩:=h1;obtain ⟨b',l2,rfl,rfl,_⟩:=h2;refine Fv func25 rfl ?_;exact Uh [] [2] [.k sC,.f rfl,.k co,.c [2] (Qlx (AG ht)),.c [2] cg] rfl
theorem Qrh:U6 prog 26 [.agg [x,y,x',y'],.one (.row [])] [] [.one (.ow 0 0),.oi 0] [.blk 166 (Hl ⟨tq (Gh n d),[],0⟩ [] [])]:=by
 have co:=VI h1 h2 bn bd (ht.mono (by decide));have cg:=YK (T:=166) (r0:=[]) (r1:=[]) (AG ht) Ql1 (by decide);obtain ⟨b,l1,rfl,rfl,_⟩:=h1;obtain ⟨b',l2,rfl,rfl,_⟩:=h2;refine Fv func26 rfl ?_;exact Uh [] [2] [.k sC,.f rfl,.k co,.c [2] (Qly (a:=tq (Gh n d))),.c [2] cg] rfl
theorem Qrf:U6 prog 27 [.agg [x,y,x',y'],.one (.row [])] [] [.one (.ow 0 0),.oi 0] [.blk 168 (Hl ⟨tq (Gh n d),[],0⟩ [] [])]:=by
 have co:=VI h1 h2 bn bd (ht.mono (by decide));have cg:=YK (T:=168) (r0:=[]) (r1:=[]) (AG ht) Ql1 (by decide);obtain ⟨b,l1,rfl,rfl,_⟩:=h1;obtain ⟨b',l2,rfl,rfl,_⟩:=h2;refine Fv func27 rfl ?_;exact Uh [] [2] [.k sC,.f rfl,.k co,.c [2] (Qlw (a:=tq (Gh n d))),.c [2] cg] rfl
end
end Orr
namespace Orr
open Go Go.Proofs Tryz Orq
set_option maxRecDepth 10000
theorem Qub {np nd:Int} (h1:1<=np/\np<=6) (h2:0<=nd/\nd<=2):U6 prog 21 [.oi np,.oi nd] [] [.one (.ow 0 0),.oi 0] [.blk 116 [.int .i64 np,.int .i64 nd,.nils]]:=by
 refine Fv func21 rfl ?_;exact Uh [] [0] [.F,.f (by simp; omega),.f (by simp; omega),.f (by simp; omega)] rfl
theorem Qtk {np nd:Int} (h1:1<=np/\np<=6) (h2:0<=nd/\nd<=2):U6 prog 5 [.oi np,.oi nd] [] [.one (.ow 0 0),.oi 0] (ZE 0 np nd [] 0 (Qmr [] (tq 0)) (Qxm [] (tq 0)) (Qxk [] (tq 0)) (Qxl [] (tq 0)) (Qxj [] (tq 0))):=by
 have ez:Gh (0:Rat).num ((0:Rat).den:Int)=0:=by decide
 have hq:Qs 1640000 (Gh (0:Rat).num ((0:Rat).den:Int)):=by rw [ez]; exact ⟨by decide,by decide⟩
 have i1:=U4 (0:Rat).num;have i2:=U4 ((0:Rat).den:Int);have c1:=Qri i1 i2 (by decide) (by decide) hq;have c2:=Qrk i1 i2 (by decide) (by decide) hq;have c3:=Qrg i1 i2 (by decide) (by decide) hq;have c4:=Qrh i1 i2 (by decide) (by decide) hq;have c5:=Qrf i1 i2 (by decide) (by decide) hq;rw [ez] at c1 c2 c3 c4 c5;have ci:=Qua (n:=0) (by decide);rw [show ((0:Int):Rat)=0 from rfl,Lm] at ci;refine Fv func5 rfl ?_;refine Ud [.c [0] (Qub h1 h2),.f rfl] rfl ?_;refine nlc 0 2 rfl rfl rfl ?_;exact Uh [] [1,0,2,3,4,5,6] [.k ci,.c [2] c1,.c [3] c2,.c [4] c3,.c [5] c4,.c [6] c5] rfl
theorem UH {l:Um} (hl:l.length<=1000000):Uj 63 [.one (ids l),.one (ids l)] [.one (.bool true)]:=by
 have hll:(l.map λ(x:Int)=>[LV.int .i64 x]).length=l.length:=by simp
 refine Fv func63 rfl ?_;refine Ud [.f (by simp)] rfl ?_;refine Ui (S:=Nat) 0 (λL1 i=>(14,.v (.oi i))::L1) (λ_=>[]) (λi=>l.length-i) (λi=>i<=l.length) 0 (Qh _) rfl rfl λi hi=>?_
 by_cases h:i<l.length
 ·have hx:=G5 (f:=λ(x:Int)=>[LV.int .i64 x]) (Qe h);refine Ue [.t (by simp; omega),.x hx,.x hx,.f (by simp)] rfl ?_;exact rd (i+1) (by omega) h rfl
 ·exact Uf [.f (by simp; omega)] rfl
theorem Qfv {l:List P3} (hl:l.length<=1000000):Uj 64 [.one (.row (ZV l)),.one (.row (ZV l))] [.one (.bool true)]:=by
 have hll:(ZV l).length=l.length:=by simp [ZV]
 refine Fv func64 rfl ?_;refine Ud [.f (by simp)] rfl ?_;refine Ui (S:=Nat) 0 (λL1 i=>(14,.v (.oi i))::L1) (λ_=>[]) (λi=>l.length-i) (λi=>i<=l.length) 0 (Qh _) rfl rfl λi hi=>?_
 by_cases h:i<l.length
 ·have hx:=G5 (f:=trL) (Qe h);refine Ue [.t (by simp; omega),.x hx,.x hx,.f (by simp)] rfl ?_;exact rd (i+1) (by omega) h rfl
 ·exact Uf [.f (by simp; omega)] rfl
theorem Qm0 {np nd np' nd':Int} {M:List Pt} {q:Rat} {s t h p d s' t' h' p' d':Cr} (hM:M.length≤6) (hok:∀ x∈M,Qav 4294967294 1073741824 x) (hq:Qs 128 q):U6 prog 19 [.one (.ow 0 0),.one (.ow 7 0)] (en2 np nd M q s t h p d np' nd' M q s' t' h' p' d') [.one (.bool true)] (en2 np nd M q s t h p d np' nd' M q s' t' h' p' d'):=by
 have ca:=Qgg (np:=np) (nd:=nd) hok (by omega);have ca':=Qgg (np:=np') (nd:=nd') hok (by omega);have cc:=Ci (a:=q) (b:=q) (hq.mono (by decide)) (hq.mono (by decide));have e0:He q q=0:=by rcases M9 q q with ⟨e,h⟩ | ⟨e,h⟩ | ⟨e,h⟩ <;> grind
 rw [e0] at cc;have hll:(M.map Fc).length=M.length:=by simp
 have l1:(Ty (tq q) M).length<=6:=by rw [No]; exact hM
 have l3:=YH M (tq q);have l5:=qG (Fu (tq q)) hM;have s1:=UH (l:=(Ty (tq q) M).map (·.id)) (by rw [Q9]; omega);have s2:=UH (l:=(Bm (Fu (tq q)) M).1.map (·.id)) (by rw [Q9]; rcases Qas (Fu (tq q)) M with e | ⟨w,e⟩ <;> rw [e] <;> simp);have s3:=UH (l:=(Pi M (tq q)).map (·.id)) (by rw [Q9]; omega);have s4:=UH (l:=(ZR (Fu (tq q)) M).map (·.id)) (by rw [Q9]; rcases gG (Fu (tq q)) M with e | ⟨a,b,e⟩ <;> rw [e] <;> simp);have s5:=Qfv (l:=qF (Fu (tq q)) M) (by omega);refine Fv func19 rfl ?_;refine Ud [.lo,.c [1] ca,.lo,.c [8] ca',.k cc,.g 31 false rfl,.f (by simp)] rfl ?_;refine Ui (S:=Nat) 14 (λL1 i=>(40,.v (.oi i))::L1) (λ_=>en2 np nd M q s t h p d np' nd' M q s' t' h' p' d') (λi=>M.length-i) (λi=>i<=M.length) 0 (Qh _) rfl rfl λi hi=>?_
 by_cases h:i<M.length
 ·obtain ⟨x,hx⟩:=gxE (l:=M) (i:=i) h;have hxo:=hok x (Qc hx);have cs:=lR hxo.1 hxo.1 hxo.2 hxo.2;rw [show Ef x.c x.c=true by simp [Ef]] at cs;refine Ue [.t (by simp; omega),.x (Tg hx),.x (Tg hx),.g 53 false (by simp),.x (Tg hx),.k cs,.f rfl] rfl ?_;exact rd (i+1) (by omega) h rfl
 ·exact Uh [] [0,1,2,3,4,5,6,7,8,9,10,11,12,13] [.f (by simp; omega),.c Uv (BB hM),.c [7,8,9,10,11,12,13] (BB hM),.k s1,.t rfl,.k s2,.t rfl,.k s3,.t rfl,.k s4,.t rfl,.k s5] rfl
def Em.ins (A:Em) (p:Pt):Em×Int:=(if Ns A.np A.nd A.M p=0 then { A with M:=put A.M p } else A,Ns A.np A.nd A.M p)
def Em.rep (A:Em) (p:Pt):Em×Int:=(if M8 A.nd A.M p=0 then { A with M:=A.M.set (Rw A.M p.id) p } else A,M8 A.nd A.M p)
def Em.del (A:Em) (id:Int):Em×Int:=if has A.M id=true then ({ A with M:=A.M.take (Rw A.M id)++A.M.drop (Rw A.M id+1) },0) else (A,5)
open Classical in
noncomputable def Em.adv (A:Em) (t:Rat):Em×Int:=if Qs 128 t then (if t<A.q then (A,8) else ({ A with q:=t,s:=A.s+(cnt (ZL A.M) A.q t:Nat),t:=A.t+(cnt (AD A.M) A.q t:Nat),h:=A.h+(cnt (NA A.M) A.q t:Nat),p:=A.p+(cnt (sL A.M) A.q t:Nat),d:=A.d+(cnt (xF A.M) A.q t:Nat) },0)) else (A,1)
theorem Qst {np nd:Int} {k:Crv} (hn:ZA k) (hnd:nd<=2) (h1:ZJ k=true) (h2:¬nd<PP k):Sc k:=by
 obtain ⟨s1,s2,s3⟩:=EL.1 h1;unfold PP at h2;exact ⟨hn,s1,s2,s3,by omega,by omega⟩
theorem Qi0 {p:Pt} (h:JZ p=true):(0<=p.id/\p.id<=1048576)/\ZJ p.c=true:=by
 simp only [JZ,Zn,decide_eq_true_iff] at h;exact ⟨⟨h.1,h.2.1⟩,h.2.2⟩
theorem dX {M:List Pt} (hs:Nu M) {p:Pt} (h:has M p.id=true):Nu (M.set (Rw M p.id) p):=by
 have hl:=VQ h;have hid:∀ (x:Pt),M[Rw M p.id]? = some x->x.id=p.id:=λx hx=>by
  simp only [has,hx] at h; exact of_decide_eq_true h
 unfold Nu;rw [Yc];intro i j hi hj hij;rw [Xd] at hi hj;have hx:=Qe hi;have hy:=Qe hj;have hlt:=Qy0 hs hij hx hy;rw [List.getElem_set,List.getElem_set]
 split
 ·rename_i e; subst e;rw [if_neg (by omega)];have:=hid _ hx;omega
 ·split
  ·rename_i e; subst e;have:=hid _ hy;omega
  ·exact hlt
theorem JX {M:List Pt} {i:Nat} {p x:Pt} (h:x∈M.set i p):x=p\/x∈M:=by
 rcases Jp h with h | h
 ·exact .inr h
 ·exact .inl h
theorem LF {M:List Pt} {i:Nat} {x:Pt} (h:x∈M.take i++M.drop (i+1)):x∈M:=by
 rcases Qr.1 h with h | h
 ·exact Qo h
 ·exact Qz h
theorem tD {M:List Pt} (hs:Nu M) (i:Nat):Nu (M.take i++M.drop (i+1)):=by
 have h:=hs;unfold Nu at h ⊢;rw [<-Zh i M,Xw] at h;refine Xw.2 ⟨h.1,?_,λx hx y hy=>h.2.2 x hx y ?_⟩
 ·have:M.drop (i+1)=(M.drop i).drop 1:=by rw [Jw]
  rw [this]; exact h.2.1.sublist (List.drop_sublist _ _)
 ·have:M.drop (i+1)=(M.drop i).drop 1:=by rw [Jw]
  rw [this] at hy; exact Qz hy
abbrev EnD (f:Nat) (args:Uu) (E:Es) (res:Uu) (E':Es):Prop:=U6 prog f args (enB 0 E) res (enB 0 E')
theorem DX {E:Es} {b:Int} (h:EOk b E) {lx ly:Us} {px py:Um} {x y:LV} {d id:Int} (hx:IsInts lx px) (hy:IsInts ly py) (hd:Gd x y d) (hk:Cs 4294967294 1073741824 (Crv.mk px py d)) :
 ∃ E',EOk b E'/\E'.m=(E.m.ins ⟨Crv.norm (Crv.mk px py d),id⟩).1/\EnD 28 [.one (.ow 0 0),.oi id,.agg [.row lx,.row ly,x,y]] E [.one (.int .i64 (E.m.ins ⟨Crv.norm (Crv.mk px py d),id⟩).2)] E':=by
 have hM:=h.m.m;have hl6:=hM.ln;have ct:=Quc (np:=E.np) (nd:=E.nd) (l:=E.M) (id:=id) hx hy hd hk (by omega);obtain ⟨p,hp⟩:=nmE (Pt.mk (Crv.norm (Crv.mk px py d)) id);have hpn:ZA p.c:=by rw [hp]; exact Crv.nml _
 by_cases e:Ns E.np E.nd E.M p=0
 ·have e0:JZ p=true/\has E.M p.id=false/\¬E.nd<PP p.c/\¬E.np<=(E.M.length:Int):=by
   unfold Ns at e;by_cases a1:JZ p=false
   ·rw [if_pos a1] at e; cases e
   rw [if_neg a1] at e;by_cases a2:has E.M p.id=true
   ·rw [if_pos a2] at e; cases e
   rw [if_neg a2] at e;by_cases a3:E.nd<PP p.c
   ·rw [if_pos a3] at e; cases e
   rw [if_neg a3] at e;by_cases a4:E.np<=(E.M.length:Int)
   ·rw [if_pos a4] at e; cases e
   exact ⟨by simpa using a1,by simpa using a2,a3,a4⟩
  obtain ⟨f1,f2,f3,f4⟩:=e0;obtain ⟨g1,g2⟩:=Qi0 f1;have hsc:=Qst (np:=E.np) hpn h.nd.2 g2 f3;have hpl:(put E.M p).length<=6:=by rw [oP]; have:=h.np.2; omega
  have hM':MOk (put E.M p):=⟨λz hz=>by rcases NY hz with rfl | hz; exact hsc; exact hM.sc z hz,hpl,ES hM.so f2⟩;have hME:MEn E.np E.nd (put E.M p):=⟨hM',by rw [oP]; have:=h.np.2; omega,λz hz=>by rcases NY hz with rfl | hz; omega; exact h.m.deg z hz,λz hz=>by rcases NY hz with rfl | hz; exact g1; exact h.m.id z hz⟩;have hpe:WR E.M p=0:=by unfold WR; rw [if_neg (by rw [f2]; decide),if_neg (by have:=h.np.2; omega)]
  rw [hp] at e hpe hM' hME hpl;rw [e,if_pos rfl] at ct;obtain ⟨w1,l1,a1⟩:=h.s.again okS hM';obtain ⟨w2,l2,a2⟩:=h.t.again okT hM';obtain ⟨w3,l3,a3⟩:=h.h.again okH hM';obtain ⟨w4,l4,a4⟩:=h.p.again okP hM';obtain ⟨w5,l5,a5⟩:=h.d.again okD hM';have c1:=Qty (c:=E.s) (l:=E.M) (r1:=IG E.M (tq E.q)) hx hy hd hk (by omega) hpe h.s.st.inv.ok hM'.sc (by omega) l1;have c2:=Qnr (c:=E.t) (l:=E.M) (r1:=pB E.M (tq E.q)) hx hy hd hk (by omega) hpe h.t.st.inv.ok hM'.sc (by omega) l2;have c3:=Qm3 (c:=E.h) (l:=E.M) (r1:=brH E.M (tq E.q)) hx hy hd hk (by omega) hpe h.h.st.inv.ok hM'.sc (by omega) l3;have c4:=Qnb (c:=E.p) (l:=E.M) (r1:=brP E.M (tq E.q)) hx hy hd hk (by omega) hpe h.p.st.inv.ok hM'.sc (by omega) l4;have c5:=Qmz (c:=E.d) (l:=E.M) (r1:=pN E.M (tq E.q)) hx hy hd hk (by omega) hpe h.d.st.inv.ok hM'.sc (by omega) l5;rw [h.s.now] at c1;rw [h.t.now] at c2;rw [h.h.now] at c3;rw [h.p.now] at c4;rw [h.d.now] at c5;obtain ⟨b1,r,rfl,rfl,_⟩:=hd;refine ⟨⟨E.np,E.nd,put E.M ⟨Crv.norm (Crv.mk px py d),id⟩,E.q,⟨tq E.q,w1,E.s.ev⟩,⟨tq E.q,w2,E.t.ev⟩,⟨tq E.q,w3,E.h.ev⟩,⟨tq E.q,w4,E.p.ev⟩,⟨tq E.q,w5,E.d.ev⟩⟩,⟨h.np,h.nd,hME,h.q,a1,a2,a3,a4,a5,h.es,h.et,h.eh,h.ep,h.ed⟩,?_,?_⟩
  ·unfold Em.ins;show _=if Ns E.np E.nd E.M _=0 then _ else _
   rw [if_pos e]; rfl
  ·have e2:(E.m.ins ⟨Crv.norm (Crv.mk px py d),id⟩).2=0:=e;rw [e2];exact Qet ct c1 c2 c3 c4 c5
 ·rw [hp] at e;rw [if_neg e] at ct;obtain ⟨b1,r,rfl,rfl,_⟩:=hd;refine ⟨E,h,?_,Qbd e ct⟩;unfold Em.ins;show _=if Ns E.np E.nd E.M _=0 then _ else _
  rw [if_neg e]
theorem uN {E:Es} {b:Int} (h:EOk b E) {lx ly:Us} {px py:Um} {x y:LV} {d id:Int} (hx:IsInts lx px) (hy:IsInts ly py) (hd:Gd x y d) (hk:Cs 4294967294 1073741824 (Crv.mk px py d)) :
 ∃ E',EOk b E'/\E'.m=(E.m.rep ⟨Crv.norm (Crv.mk px py d),id⟩).1/\EnD 50 [.one (.ow 0 0),.oi id,.agg [.row lx,.row ly,x,y]] E [.one (.int .i64 (E.m.rep ⟨Crv.norm (Crv.mk px py d),id⟩).2)] E':=by
 have hM:=h.m.m;have hl6:=hM.ln;have ct:=Qn9 (np:=E.np) (nd:=E.nd) (l:=E.M) (id:=id) hx hy hd hk (by omega);obtain ⟨p,hp⟩:=nmE (Pt.mk (Crv.norm (Crv.mk px py d)) id);have hpn:ZA p.c:=by rw [hp]; exact Crv.nml _
 have hpi:p.id=id:=by rw [hp]
 by_cases e:M8 E.nd E.M p=0
 ·have e0:JZ p=true/\has E.M p.id=true/\¬E.nd<PP p.c:=by
   unfold M8 at e;by_cases a1:JZ p=false
   ·rw [if_pos a1] at e; cases e
   rw [if_neg a1] at e;by_cases a2:has E.M p.id=false
   ·rw [if_pos a2] at e; cases e
   rw [if_neg a2] at e;by_cases a3:E.nd<PP p.c
   ·rw [if_pos a3] at e; cases e
   exact ⟨by simpa using a1,by simpa using a2,a3⟩
  obtain ⟨f1,f2,f3⟩:=e0;obtain ⟨g1,g2⟩:=Qi0 f1;have hsc:=Qst (np:=E.np) hpn h.nd.2 g2 f3;have hM':MOk (E.M.set (Rw E.M p.id) p):=⟨λz hz=>by rcases JX hz with rfl | hz; exact hsc; exact hM.sc z hz,by rw [Xd]; exact hl6,dX hM.so f2⟩;have hME:MEn E.np E.nd (E.M.set (Rw E.M p.id) p):=⟨hM',by rw [Xd]; exact h.m.len,λz hz=>by rcases JX hz with rfl | hz; omega; exact h.m.deg z hz,λz hz=>by rcases JX hz with rfl | hz; exact g1; exact h.m.id z hz⟩;rw [hpi] at f2 hM' hME;rw [hp] at e hM' hME;rw [e,if_pos rfl] at ct;obtain ⟨w1,l1,a1⟩:=h.s.again okS hM';obtain ⟨w2,l2,a2⟩:=h.t.again okT hM';obtain ⟨w3,l3,a3⟩:=h.h.again okH hM';obtain ⟨w4,l4,a4⟩:=h.p.again okP hM';obtain ⟨w5,l5,a5⟩:=h.d.again okD hM';have c1:=Qng (c:=E.s) (l:=E.M) (r1:=IG E.M (tq E.q)) hx hy hd hk (by omega) f2 h.s.st.inv.ok rfl hM'.sc l1;have c2:=Qfn (c:=E.t) (l:=E.M) (r1:=pB E.M (tq E.q)) hx hy hd hk (by omega) f2 h.t.st.inv.ok rfl hM'.sc l2;have c3:=Qer (c:=E.h) (l:=E.M) (r1:=brH E.M (tq E.q)) hx hy hd hk (by omega) f2 h.h.st.inv.ok rfl hM'.sc l3;have c4:=Qe5 (c:=E.p) (l:=E.M) (r1:=brP E.M (tq E.q)) hx hy hd hk (by omega) f2 h.p.st.inv.ok rfl hM'.sc l4;have c5:=Qek (c:=E.d) (l:=E.M) (r1:=pN E.M (tq E.q)) hx hy hd hk (by omega) f2 h.d.st.inv.ok rfl hM'.sc l5;rw [h.s.now] at c1;rw [h.t.now] at c2;rw [h.h.now] at c3;rw [h.p.now] at c4;rw [h.d.now] at c5;obtain ⟨b1,r,rfl,rfl,_⟩:=hd;refine ⟨⟨E.np,E.nd,E.M.set (Rw E.M id) ⟨Crv.norm (Crv.mk px py d),id⟩,E.q,⟨tq E.q,w1,E.s.ev⟩,⟨tq E.q,w2,E.t.ev⟩,⟨tq E.q,w3,E.h.ev⟩,⟨tq E.q,w4,E.p.ev⟩,⟨tq E.q,w5,E.d.ev⟩⟩,⟨h.np,h.nd,hME,h.q,a1,a2,a3,a4,a5,h.es,h.et,h.eh,h.ep,h.ed⟩,?_,?_⟩
  ·unfold Em.rep;show _=if M8 E.nd E.M _=0 then _ else _
   rw [if_pos e]; rfl
  ·have e2:(E.m.rep ⟨Crv.norm (Crv.mk px py d),id⟩).2=0:=e;rw [e2];exact Qfb ct c1 c2 c3 c4 c5
 ·rw [hp] at e;rw [if_neg e] at ct;obtain ⟨b1,r,rfl,rfl,_⟩:=hd;refine ⟨E,h,?_,Qbh e ct⟩;unfold Em.rep;show _=if M8 E.nd E.M _=0 then _ else _
  rw [if_neg e]
theorem Qhd {E:Es} {b id:Int} (h:EOk b E) :
 ∃ E',EOk b E'/\E'.m=(E.m.del id).1/\EnD 49 [.one (.ow 0 0),.oi id] E [.one (.int .i64 (E.m.del id).2)] E':=by
 have hM:=h.m.m;have hl6:=hM.ln;by_cases f2:has E.M id=true
 ·have ct:=Qn8 (np:=E.np) (nd:=E.nd) (l:=E.M) (by omega) f2;have hpl:=VQ f2;have hgl:=Qh7 hpl;have hM':MOk (E.M.take (Rw E.M id)++E.M.drop (Rw E.M id+1)):=⟨λz hz=>hM.sc z (LF hz),by omega,tD hM.so _⟩;have hME:MEn E.np E.nd (E.M.take (Rw E.M id)++E.M.drop (Rw E.M id+1)):=⟨hM',by have:=h.m.len; omega,λz hz=>h.m.deg z (LF hz),λz hz=>h.m.id z (LF hz)⟩;obtain ⟨w1,l1,a1⟩:=h.s.again okS hM';obtain ⟨w2,l2,a2⟩:=h.t.again okT hM';obtain ⟨w3,l3,a3⟩:=h.h.again okH hM';obtain ⟨w4,l4,a4⟩:=h.p.again okP hM';obtain ⟨w5,l5,a5⟩:=h.d.again okD hM';have c1:=Qne (c:=E.s) (l:=E.M) (r1:=IG E.M (tq E.q)) (by omega) f2 h.s.st.inv.ok rfl hM'.sc l1;have c2:=Qfm (c:=E.t) (l:=E.M) (r1:=pB E.M (tq E.q)) (by omega) f2 h.t.st.inv.ok rfl hM'.sc l2;have c3:=Qeq (c:=E.h) (l:=E.M) (r1:=brH E.M (tq E.q)) (by omega) f2 h.h.st.inv.ok rfl hM'.sc l3;have c4:=Qe4 (c:=E.p) (l:=E.M) (r1:=brP E.M (tq E.q)) (by omega) f2 h.p.st.inv.ok rfl hM'.sc l4;have c5:=Qej (c:=E.d) (l:=E.M) (r1:=pN E.M (tq E.q)) (by omega) f2 h.d.st.inv.ok rfl hM'.sc l5;rw [h.s.now] at c1;rw [h.t.now] at c2;rw [h.h.now] at c3;rw [h.p.now] at c4;rw [h.d.now] at c5;have e2:E.m.del id=({ E.m with M:=E.M.take (Rw E.M id)++E.M.drop (Rw E.M id+1) },0):=if_pos f2;rw [e2];exact ⟨⟨E.np,E.nd,E.M.take (Rw E.M id)++E.M.drop (Rw E.M id+1),E.q,⟨tq E.q,w1,E.s.ev⟩,⟨tq E.q,w2,E.t.ev⟩,⟨tq E.q,w3,E.h.ev⟩,⟨tq E.q,w4,E.p.ev⟩,⟨tq E.q,w5,E.d.ev⟩⟩,⟨h.np,h.nd,hME,h.q,a1,a2,a3,a4,a5,h.es,h.et,h.eh,h.ep,h.ed⟩,rfl,Qel ct c1 c2 c3 c4 c5⟩
 ·have e2:E.m.del id=(E.m,5):=if_neg f2;rw [e2];exact ⟨E,h,rfl,Qa8 (show (5:Int)≠0 by decide) (Qgi (by omega) (by simpa using f2))⟩
theorem YN {E:Es} {b:Int} (h:EOk b E) (hb:b<=900000000000000000) {x0 x1 x2 x3:LV} {n m:Int} {t:Rat} (ha:Gd x0 x1 n) (hc:Gd x2 x3 m) (sa:Fe n<=4294967295) (sb:Fe m<=4294967295) (ht:Gh n m=t) :
 ∃ E',EOk (b+67000000) E'/\E'.m=(E.m.adv t).1/\((E.m.adv t).2≠0->E'=E)/\EnD 31 [.one (.ow 0 0),.agg [x0,x1,x2,x3]] E [.one (.int .i64 (E.m.adv t).2)] E':=by
 have hM:=h.m.m;have hl6:=hM.ln;by_cases hs:Qs 128 t
 ·by_cases hp:t<E.q
  ·have e2:E.m.adv t=(E.m,8):=by unfold Em.adv; rw [if_pos hs]; exact if_pos hp
   rw [e2];exact ⟨E,h.mono (by omega),rfl,λ_=>rfl,AL ha hc sa sb ht hs h.q hp⟩
  ·have hqt:E.q<=t:=Rat.not_lt.1 hp;have e2:E.m.adv t=(({ E.m with q:=t,s:=E.s.ev+(cnt (ZL E.M) E.q t:Nat),t:=E.t.ev+(cnt (AD E.M) E.q t:Nat),h:=E.h.ev+(cnt (NA E.M) E.q t:Nat),p:=E.p.ev+(cnt (sL E.M) E.q t:Nat),d:=E.d.ev+(cnt (xF E.M) E.q t:Nat) }:Em),0):=by unfold Em.adv; rw [if_pos hs]; exact if_neg hp
   rw [e2];have hq:Qs 1640000 t:=hs.mono (by decide);obtain ⟨K1,d1,k1,g1,a1,v1,u1,_⟩:=h.s.adv okS hM hq hqt;obtain ⟨K2,d2,k2,g2,a2,v2,u2,_⟩:=h.t.adv okT hM hq hqt;obtain ⟨K3,d3,k3,g3,a3,v3,u3,_⟩:=h.h.adv okH hM hq hqt;obtain ⟨K4,d4,k4,g4,a4,v4,u4,_⟩:=h.p.adv okP hM hq hqt;obtain ⟨K5,d5,k5,g5,a5,v5,u5,_⟩:=h.d.adv okD hM hq hqt;have hcm:∀ {c:Cr},c.now=tq E.q->Fp c.now t<=0:=λ{c} hn=>by
    rw [hn,sV]; exact MS.2 hqt
   have c1:=Qtw hq hM.sc (by omega) h.s.st.inv.ok (by have:=h.es; omega) (hcm h.s.now) g1;have c2:=Qnq hq hM.sc (by omega) h.t.st.inv.ok (by have:=h.et; omega) (hcm h.t.now) g2;have c3:=Qtl hq hM.sc (by omega) h.h.st.inv.ok (by have:=h.eh; omega) (hcm h.h.now) g3;have c4:=Qna hq hM.sc (by omega) h.p.st.inv.ok (by have:=h.ep; omega) (hcm h.p.now) g4;have c5:=Qtj hq hM.sc (by omega) h.d.st.inv.ok (by have:=h.ed; omega) (hcm h.d.now) g5;refine ⟨⟨E.np,E.nd,E.M,t,d1,d2,d3,d4,d5⟩,⟨h.np,h.nd,h.m,hs,a1,a2,a3,a4,a5,?_,?_,?_,?_,?_⟩,?_,λh=>absurd rfl h,Qa6 ha hc sa sb ht hs h.q hqt c1 c2 c3 c4 c5⟩
   ·have:=h.es; show 0<=d1.ev/\d1.ev<=_; omega
   ·have:=h.et; show 0<=d2.ev/\d2.ev<=_; omega
   ·have:=h.eh; show 0<=d3.ev/\d3.ev<=_; omega
   ·have:=h.ep; show 0<=d4.ev/\d4.ev<=_; omega
   ·have:=h.ed; show 0<=d5.ev/\d5.ev<=_; omega
   ·unfold Es.m;simp only [v1,v2,v3,v4,v5]
 ·have e2:E.m.adv t=(E.m,1):=by unfold Em.adv; exact if_neg hs
  rw [e2];exact ⟨E,h.mono (by omega),rfl,λ_=>rfl,xT ha hc sa sb ht hs⟩
noncomputable def Em.ans (A:Em) (t:Rat):Ur:=if (A.adv t).2=0 then Qd7 A.M t else Qxf
theorem aZ {E:Es} {b:Int} (h:EOk b E) (hb:b<=900000000000000000) {x0 x1 x2 x3:LV} {n m:Int} {t:Rat} (ha:Gd x0 x1 n) (hc:Gd x2 x3 m) (sa:Fe n<=4294967295) (sb:Fe m<=4294967295) (ht:Gh n m=t) :
 EnD 52 [.one (.ow 0 0),.agg [x0,x1,x2,x3]] E [.agg (E.m.ans t),.one (.int .i64 (E.m.adv t).2)] E:=by
 obtain ⟨E',h1,h2,h3,h4⟩:=YN h hb ha hc sa sb ht;obtain ⟨b1,r1,rfl,rfl,_⟩:=ha;obtain ⟨b2,r2,rfl,rfl,_⟩:=hc;unfold Em.ans;by_cases e:(E.m.adv t).2=0
 ·rw [if_pos e];rw [e] at h4 ⊢;have hs:Qs 128 t/\¬t<E.q:=by
   unfold Em.adv at e;by_cases a:Qs 128 t
   ·rw [if_pos a] at e;by_cases a':t<E.m.q
    ·rw [if_pos a'] at e; cases e
    ·exact ⟨a,a'⟩
   ·rw [if_neg a] at e; cases e
  have e2:E.m.adv t=(({ E.m with q:=t,s:=E.s.ev+(cnt (ZL E.M) E.q t:Nat),t:=E.t.ev+(cnt (AD E.M) E.q t:Nat),h:=E.h.ev+(cnt (NA E.M) E.q t:Nat),p:=E.p.ev+(cnt (sL E.M) E.q t:Nat),d:=E.d.ev+(cnt (xF E.M) E.q t:Nat) }:Em),0):=by unfold Em.adv; rw [if_pos hs.1]; exact if_neg hs.2
  rw [e2] at h2;obtain ⟨np,nd,M,q,s,u,v,p,d⟩:=E';unfold Es.m at h2;injection h2 with i1 i2 i3 i4;dsimp only at i1 i2 i3 i4;subst i1 i2 i3 i4;exact Qbg h.q h.m.m.ln h4
 ·rw [if_neg e];rw [h3 e] at h4;exact Qe9 e h.q h4
end Orr
namespace Orr
open Go Go.Proofs Tryz Orq
set_option maxRecDepth 10000
def vI (z:RawInt):Int:=Fb z.b (val z.l)
def RawInt.cutN (z:RawInt) (n:Nat):RawInt:=⟨z.b,z.l.take n⟩
theorem RawInt.Ok.cutN_ok {z:RawInt} (h:z.Ok) (n:Nat):(z.cutN n).Ok:=⟨λu hu=>h.u u (Qo hu)⟩
theorem YD {z:RawInt} (h:z.Ok):Gd (.bool z.b) (.row (lm z.l)) (vI z):=⟨z.b,z.l,rfl,rfl,h.u,rfl⟩
theorem ML {z:RawInt} (h:z.Ok) {n:Nat} (hl:z.l.length<=n):Fe (vI z)<=32*n:=by
 have h1:=Bv z.l h.u;have e:(vI z).natAbs=val z.l:=by unfold vI Fb; split <;> simp
 refine Sw.2 ?_;rw [e,Ks];exact Z6 h1 (Zs (by decide) hl)
theorem XY (z:RawInt) (n:Nat):(z.cutN n).l.length<=n:=by show (z.l.take n).length<=n; rw [Qq]; omega
theorem MW {z:RawInt} {n:Nat} (hn:n<=1000):Uj 146 [.agg (Eb z),.oi n] [.agg (Eb (z.cutN n))] :=
 Ug func146 rfl [.k (Qt4 (l:=z.l) hn)] rfl
theorem Qnw {t u:RawInt}:Uj 89 [.agg (Eb t++Eb u),.oi 6] [.agg (Eb (t.cutN 6)++Eb (u.cutN 6))] :=
 Ug func89 rfl [.k (MW (z:=t) (n:=6) (by decide)),.k (MW (z:=u) (n:=6) (by decide))] rfl
theorem wS {l:List RawInt}:Uj 145 [.one (.row (Io l)),.oi 4,.oi 1] [.one (.row (Io ((l.take 4).map (·.cutN 1))))]:=by
 have hll:=O6 l;refine Fv func145 rfl (ln 0 rfl rfl λhzl=>?_);rw [hll] at hzl;refine Ud [.o 7 36 2] rfl ?_;refine Ui (S:=Nat) 1 (λL1 i=>(8,.v (.oi i))::(7,.v (.one (.orow 0 2 none)))::L1) (λi=>[.row false 36 2 (Io ((l.take i).map (·.cutN 1)))]) (λi=>4-i) (λi=>i<=4/\i<=l.length) 0 ⟨by decide,Qh _⟩ rfl rfl λi ⟨hi,hi2⟩=>?_
 have hil:(Io ((l.take i).map (·.cutN 1))).length=i:=by rw [O6,Q9,Qq]; omega
 by_cases h1:i<l.length
 ·by_cases h2:i<4
  ·obtain ⟨z,hz⟩:=gxE (l:=l) (i:=i) h1;have hm:∀ y∈[Eb (z.cutN 1)],y.length=2:=λy hy=>by rw [Qk.1 hy]; rfl
   refine go tt [.g 13 true Ul,.T,.x (G5 (f:=Eb) hz),.k (MW (n:=1) (by decide)),.s (sz:=2) hm] rfl (by simp [U3,hil,-List.map_take]; omega) ?_;exact rd (i+1) (by omega) ⟨h2,h1⟩ (by rw [Zv,hz]; simp [Io]; rfl)
  ·have e:i=4:=by omega
   have e2:l.take 4=l.take i:=by rw [e]
   rw [e2];exact Uf [.g 13 true Ul,.F] rfl
 ·have e:l.take i=l.take 4:=by rw [Qn (by omega),Qn (by omega)]
  rw [e];exact Uf [.g 13 false Uk,.f rfl] rfl
theorem Qti {z:RawPt}:Uj 87 [.agg (rcw z),.oi 4,.oi 1] [.agg [.row (Io ((z.x.take 4).map (·.cutN 1))),.row (Io ((z.y.take 4).map (·.cutN 1))),.bool z.d.b,.row (lm (z.d.l.take 1))]] :=
 Ug func87 rfl [.k (wS (l:=z.x)),.k (wS (l:=z.y)),.k (MW (z:=z.d) (n:=1) (by decide))] rfl
theorem WZ:∀ {l:List RawInt},(∀ z∈l,z.Ok)->IsInts (Io l) (l.map vI)
 | [],_=>trivial
 | z::l,h=>⟨⟨_,_,rfl,YD (h z (Qy ..))⟩,WZ λy hy=>h y (Qg _ hy)⟩
theorem IT {x y:LV} {z:Int} (h:Gd x y z) (hl:∀ l,y=.row (lm l)->l.length<=1000):Uj 92 [.agg [x,y]] [.agg (ri z)]:=by
 obtain ⟨b,l,rfl,rfl,hs,rfl⟩:=h;have hl:=hl l rfl;have hv:=Bv l hs;have hsz:sz (val l)<=100000000:=by
  refine Qa ((Np (k:=32*l.length)).2 ?_) (by omega);rw [Ks]; exact hv
 exact Ug func92 rfl [.k (Qm1 hs (by omega) hsz),.k (Nw b (val l))] rfl
theorem xM {x y x' y':LV} {a b:Int} (h:Gd x y a) (h':Gd x' y' b) (hl:∀ l,y=.row (lm l)->l.length<=1000) (hl':∀ l,y'=.row (lm l)->l.length<=1000) (sa:Fe a<=90000000) (sb:Fe b<=90000000):Uj 48 [.agg [x,y,x',y']] [.agg (fr (Gh a b))]:=by
 have c1:=IT h hl;have c2:=IT h' hl';have c3:=YF sa sb;obtain ⟨b1,l1,rfl,rfl,_⟩:=h;obtain ⟨b2,l2,rfl,rfl,_⟩:=h';exact Ug func48 rfl [.k c1,.k c2,.k c3] rfl
theorem Qir {a b:Uo} (h:LV.row (lm a)=.row (lm b)):a.length=b.length:=by
 injection h with h;have:=congrArg List.length h;simpa [lm] using this
theorem Qen {q:Rat} (hq:Qs 30000 q):Uj 48 [.agg (rl q)] [.agg (fr q)]:=by
 have e:Gh q.num (q.den:Int)=q:=by
  unfold Gh;rw [if_neg (by have:=q.den_pos; omega)];exact Z5 q
 have ln:∀ {z:Int},Fe z<=30000->∀ l,mg z=.row (lm l)->l.length<=1000:=λ{z} hz l h=>by
  have h1:=Rm (x:=z.natAbs) (k:=30000) hz;have:=Qir h;omega
 have h:=xM (U4 q.num) (U4 (q.den:Int)) (ln hq.1) (ln hq.2) (Qa hq.1 (by decide)) (Qa hq.2 (by decide));rw [e] at h;exact h
theorem Qi8 {m b:Nat} (hb:0<b) (h:0<m % b):(-(m:Int)) % (b:Int)=-((m % b:Nat):Int)+(b:Int):=by
 have h1:=Z4 m hb;have h2:=We m b;have e:-(m:Int)=(-((m % b:Nat):Int)+(b:Int))+(b:Int)*(-((m / b:Nat):Int)-1):=by
  have:(m:Int)=((m % b:Nat):Int)+(b:Int)*((m / b:Nat):Int):=by
   have:=congrArg (λ(n:Nat)=>(n:Int)) h2
   push_cast at this ⊢
   omega
  rw [Int.mul_sub,V7];omega
 rw [e,Int.add_mul_emod_self_left];exact Int.emod_eq_of_lt (by omega) (by omega)
theorem Qbo {a:Int} {b:Nat} (ha:Fe a<=90000000) (hb:Fe (b:Int)<=90000000) (h0:0<b):∃ x,Uj 96 [.agg (ri a),.agg (ri (b:Int))] [.agg (ri x),.agg (ri (a % (b:Int)))]:=by
 have cd:=pO (x:=a.natAbs) (y:=(b:Int).natAbs) ha hb (by omega);have eb:(b:Int).natAbs=b:=rfl;have sb:sg (b:Int)=.bool false:=by unfold sg; rw [decide_eq_false (by omega)]
 rw [eb] at cd;have hml:=Z4 a.natAbs h0;rcases Kd a 0 with hn | hn
 ·have sa:sg a=.bool true:=by unfold sg; rw [decide_eq_true hn]
  have m1:=Nw true (a.natAbs / b);have m2:=Nw true (a.natAbs % b);have ea:a=-(a.natAbs:Int):=by omega
  by_cases hr:a.natAbs % b=0
  ·have e:a % (b:Int)=0:=by
    rw [ea];exact Jx ((Int.dvd_neg).2 (Int.ofNat_dvd.2 (Nat.dvd_of_mod_eq_zero hr)))
   rw [e];refine ⟨Fb true (a.natAbs / b),?_⟩;rw [hr] at m2 cd;rw [show Fb true 0=0 from rfl] at m2;show Uj 96 [.agg [nd a.natAbs,sg a],.agg [nd (b:Int).natAbs,sg (b:Int)]] _;rw [sa,sb,eb];exact Ug func96 rfl [.k cd,.k m1,.k m2,.t rfl] rfl
  ·have e:=Qi8 h0 (by omega:0<a.natAbs % b);rw [<-ea] at e;have os:Fb true (a.natAbs % b)=-((a.natAbs % b:Nat):Int):=rfl;have ng:decide (Fb true (a.natAbs % b)<0)=true:=by rw [os]; exact decide_eq_true (by omega)
   have hsm:Fe (Fb true (a.natAbs % b))<=200000000:=by
    rw [os,Hm];exact Qa (Rh (Nat.mod_le _ _)) (Qa ha (by decide))
   have hsd:Fe (Fb true (a.natAbs / b))<=200000000:=by
    show Fe (-((a.natAbs / b:Nat):Int))<=_;rw [Hm];exact Qa (Rh (Jq _ _)) (Qa ha (by decide))
   have c1:=XQ (n:=1) (by decide);have c2:=Qfx (a:=Fb true (a.natAbs / b)) (b:=1) hsd (by decide);have c3:=mV (a:=Fb true (a.natAbs % b)) (b:=(b:Int)) hsm (Qa hb (by decide));rw [os,<-e] at c3;rw [os] at m2 ng;refine ⟨Fb true (a.natAbs / b)-1,?_⟩;show Uj 96 [.agg [nd a.natAbs,sg a],.agg [nd (b:Int).natAbs,sg (b:Int)]] _;have c3':Uj 90 [.agg (ri (-((a.natAbs % b:Nat):Int))),.agg [nd b,.bool false]] [.agg (ri (a % (b:Int)))]:=by rw [<-sb]; exact c3
   rw [sa,sb,eb];exact Ug func96 rfl [.k cd,.k m1,.k m2,.f (show (!decide (-((a.natAbs % b:Nat):Int)<0))=false by rw [ng]; rfl),.f rfl,.k c1,.k c2,.k c3'] rfl
 ·have sa:sg a=.bool false:=by unfold sg; rw [decide_eq_false (by omega)]
  have m1:=Nw false (a.natAbs / b);have m2:=Nw false (a.natAbs % b);have ea:a=(a.natAbs:Int):=by omega
  have e:a % (b:Int)=((a.natAbs % b:Nat):Int):=by rw [ea]; rfl
  have os:Fb false (a.natAbs % b)=((a.natAbs % b:Nat):Int):=rfl;have ng:decide (((a.natAbs % b:Nat):Int)<0)=false:=decide_eq_false (by omega);rw [e];rw [os] at m2;refine ⟨Fb false (a.natAbs / b),?_⟩;show Uj 96 [.agg [nd a.natAbs,sg a],.agg [nd (b:Int).natAbs,sg (b:Int)]] _;rw [sa,sb,eb];exact Ug func96 rfl [.k cd,.k m1,.k m2,.t (show (!decide (((a.natAbs % b:Nat):Int)<0))=true by rw [ng]; rfl)] rfl
def SL (x:Rat):Rat:=Gh (x.num % (x.den:Int)) (x.den:Int)
theorem oD {x:Rat} (h:Qs 128 x):Qs 128 (SL x):=by
 have h0:=x.den_pos;have h1:=Ye x.num (b:=(x.den:Int)) (by omega);have h2:=Js x.num (b:=(x.den:Int)) (by omega);unfold SL Gh;rw [if_neg (by omega)];refine ⟨Pe (Qa (Rh (by omega)) h.2),Pd h.2 (by decide)⟩
theorem Qn1 {x y x' y':LV} {a b:Int} (h:Gd x y a) (h':Gd x' y' b) (hl:∀ l,y=.row (lm l)->l.length<=1000) (hl':∀ l,y'=.row (lm l)->l.length<=1000) (sa:Fe a<=90000000) (sb:Fe b<=90000000) (hq:Qs 128 (Gh a b)):Uj 53 [.agg [x,y,x',y']] [.agg (rl (SL (Gh a b)))]:=by
 have c1:=xM h h' hl hl' sa sb;obtain ⟨q,hqe⟩:=nmE (Gh a b);rw [<-hqe] at c1 hq ⊢;have c2:=wR (q:=q) (hq.mono (by decide));obtain ⟨z,c3⟩:=Qbo (a:=q.num) (b:=q.den) (Qa hq.1 (by decide)) (Qa hq.2 (by decide)) q.den_pos;have h2:=Js q.num (b:=(q.den:Int)) (by have:=q.den_pos; omega);have h1:=Ye q.num (b:=(q.den:Int)) (by have:=q.den_pos; omega);have c4:=YF (a:=q.num % (q.den:Int)) (b:=(q.den:Int)) (Qa (Rh (by omega)) (Qa hq.2 (by decide))) (Qa hq.2 (by decide));have c5:=wR (q:=SL q) ((oD hq).mono (by decide));have l1:=ZN.2 hq.1;have l2:(Gb q.den).length<=4:=by simpa using ZN.2 hq.2
 obtain ⟨b1,r1,rfl,rfl,_⟩:=h;obtain ⟨b2,r2,rfl,rfl,_⟩:=h';exact Ug func53 rfl [.k c1,.k c2,.f (by simp [kG]; omega),.f (by simp [kG]; omega),.k c3,.k c4,.k c5] rfl
theorem Qn0 {x y x' y':LV} {a b:Int} (h:Gd x y a) (h':Gd x' y' b) (hl:∀ l,y=.row (lm l)->l.length<=1000) (hl':∀ l,y'=.row (lm l)->l.length<=1000) (sa:Fe a<=32000) (sb:Fe b<=32000) (hq:¬Qs 128 (Gh a b)):Uj 53 [.agg [x,y,x',y']] [.agg [x,y,x',y']]:=by
 have c1:=xM h h' hl hl' (Qa sa (by decide)) (Qa sb (by decide));have hs:Qs 32000 (Gh a b):=by
  unfold Gh
  split
  ·exact ⟨Pe sa,Pd (by decide) (by decide)⟩
  ·exact ⟨Pe sa,Pd sb (by decide)⟩
 obtain ⟨q,hqe⟩:=nmE (Gh a b);rw [<-hqe] at c1 hq hs;have c2:=wR (q:=q) (hs.mono (by decide));obtain ⟨b1,r1,rfl,rfl,_⟩:=h;obtain ⟨b2,r2,rfl,rfl,_⟩:=h';by_cases h1:Fe q.num<=128
 ·have h2:¬Fe (q.den:Int)<=128:=λh=>hq ⟨h1,h⟩
  have l1:=ZN.2 h1;have l2:¬(Gb q.den).length<=4:=by simpa using mt ZN.1 h2
  exact Ug func53 rfl [.k c1,.k c2,.f (by simp [kG]; omega),.t (by simp [kG]; omega)] rfl
 ·have l1:=mt ZN.1 h1;exact Ug func53 rfl [.k c1,.k c2,.t (by simp [kG]; omega),.t rfl] rfl
theorem XD (a:Int):∀ i,Fe (a^i)<=Fe a*i+1
 | 0=>by rw [Wy]; show Fe 1<=_; exact Qa (by decide) (Wd 1 _)
 |
  i+1=>by
  rw [Wx];have h1:=Ga (a^i) a;have h2:=XD a i;rw [W4]; omega
theorem Qe6 {a:Int} {n:Nat} (ha:Fe a<=1000) (hn:n<=256):Uj 156 [.agg (G8 a),.oi n] [.agg (G8 (a^n))]:=by
 refine Fv func156 rfl ?_;refine Ud [.k (BH (z:=1) (by decide)),.r 8 (v:=.oi n) (by simp; omega),.r 9 (v:=.oi n) (by simp)] rfl ?_;refine lp (S:=Nat) 3 (λL1 i=>(10,.v (.oi i))::L1) (λi=>[.blk 36 (G8 a),.blk 36 [.bool false,.nils],.blk 36 (G8 (a^i))]) (λi=>n-i) (λi=>i<=n) 0 (Qh _) rfl (λ_ _=>rfl) (by rw [Wy]; rfl) λi hi=>?_
 by_cases h:i<n
 ·have h1:=XD a i;have h2:Fe a*i<=1000*256:=Zc ha (by omega);have cm:=P0 (U4 (a^i)) (U4 a) (by omega) (by omega);rw [<-Wx] at cm;refine Ue [.t (by simp; omega),.k cm] rfl ?_;exact rd (i+1) (by omega) h rfl
 ·obtain rfl:i=n:=by omega
  exact Uf [.f (by simp)] rfl
def Rr (n d:Int):Um->Um×Int
 | []=>([],1)
 | x::l=>(A7 (Gk (Rr n d l).1 [n,d]) [x*(Rr n d l).2],(Rr n d l).2*d)
theorem bQ (n d:Int):∀ l,Ff (Rr n d l).1
 | []=>rfl
 | _::_=>Fy _ _
theorem pR {n d:Int} (hn:Fe n<=130) (hd:Fe d<=130):Bd 130 [n,d]:=λz hz=>by
 rcases Qm.1 hz with rfl | hz
 ·exact hn
 ·rw [Qk.1 hz]; exact hd
theorem FP {n d:Int} (hn:Fe n<=130) (hd:Fe d<=130) {s:Nat}:∀ {l:Um},Bd s l->l.length<=8->Bd (s+140*l.length) (Rr n d l).1/\(Rr n d l).1.length<=l.length/\Fe (Rr n d l).2<=130*l.length+1
 | [],_,_=>⟨ZO,Ql _,by show Fe 1<=_; exact Qa (by decide) (Wd 1 _)⟩
 |
  x::l,h,hl=>by
  rw [Q5] at hl ⊢;obtain ⟨h1,h2,h3⟩:=FP hn hd (λz hz=>h z (Qg _ hz)) (by omega:l.length<=8);have hx:=h x (Qy ..);have b1:=Pk (u:=4) h1 (pR hn hd) (by omega);have b2:Bd (s+(130*l.length+1)) [x*(Rr n d l).2]:=λz hz=>by
   rw [Qk.1 hz];have:=Ga x (Rr n d l).2;omega
  refine ⟨U5 (YV b1 b2) (by omega),?_,?_⟩
  ·have h4:=Og (Gk (Rr n d l).1 [n,d]) [x*(Rr n d l).2];have h5:=Tv (Rr n d l).1 [n,d];simp only [Q5,Xk] at h4 h5;show (A7 _ _).length<=_;omega
  ·have:=Ga (Rr n d l).2 d;show Fe ((Rr n d l).2*d)<=_;omega
theorem Qb6 {a:Um} {j:Nat} {x:Int} (h:a[j]? = some x):a.drop j=x::a.drop (j+1):=by
 obtain ⟨h1,h2⟩:=Qf.1 h;rw [Zp h1,h2]
theorem Qew {a:Um} {n d:Int} {s:Nat} (ta:Ff a) (ha:Bd s a) (hs:s<=1000) (hl:a.length<=8) (hn:Fe n<=130) (hd:Fe d<=130) (h0:d≠0):Uj 154 [pr a,.agg (G8 n),.agg (G8 d)] [pr (Rr n d a).1,.oi 0]:=by
 have nn:=Mm (U4 n) (by omega);have nd:=Mm (U4 d) (by omega);have cn:=Ht (p:=a) ta (by omega) (U5 ha (by omega));have td:Ff [n,d]:=by simp [Ff,trim,h0]
 refine Fv func154 rfl ?_;refine Ue [.k nd,.k (Dl (z:=d)),.f (by simpa using h0),.k cn,.z 8,.k nn,.k nd,.k (BH (z:=1) (by decide)),.r 25 (eI (b:=(a.length:Int)-1) (by simp))] rfl ?_;refine lp (S:=Nat) 3 (λL1 j=>(11,.v (.oi ((j:Int)-1)))::(8,.v (pr (Rr n d (a.drop j)).1))::L1) (λj=>[.blk 36 (G8 n),.blk 36 (G8 d),.blk 36 (G8 (Rr n d (a.drop j)).2)]) (λj=>j) (λj=>j<=a.length) a.length (Ql _) rfl (λ_ _=>rfl) (by rw [Yt]; rfl) λj hj=>?_
 cases j with
 | zero=>exact Uf [.f (by simp)] rfl
 |
  succ j =>
  obtain ⟨x,hx⟩:=gxE (l:=a) (i:=j) (by omega);obtain ⟨b1,b2,b3⟩:=FP hn hd (l:=a.drop (j+1)) (λz hz=>ha z (Qz hz)) (by rw [Q7]; omega);have hdl:(a.drop (j+1)).length<=8:=by rw [Q7]; omega
  have e:Rr n d (a.drop j)=(A7 (Gk (Rr n d (a.drop (j+1))).1 [n,d]) [x*(Rr n d (a.drop (j+1))).2],(Rr n d (a.drop (j+1))).2*d):=by rw [Qb6 hx]; rfl
  have e1:(Rr n d (a.drop j)).1=A7 (Gk (Rr n d (a.drop (j+1))).1 [n,d]) [x*(Rr n d (a.drop (j+1))).2]:=by rw [e]
  have e2:(Rr n d (a.drop j)).2=(Rr n d (a.drop (j+1))).2*d:=by rw [e]
  have tm:=bQ n d (a.drop (j+1));obtain ⟨P,hP⟩:=nmE ((Rr n d (a.drop (j+1))).1);obtain ⟨W,hW⟩:=nmE ((Rr n d (a.drop (j+1))).2);rw [<-hP,<-hW] at e1;rw [<-hW] at e2;rw [<-hP] at b1 b2 tm;rw [<-hW] at b3;have hxs:=ha x (Qc hx);have c1:=KP tm td (by omega) (by show 2<137438953472; decide) b1 (pR hn hd) (by omega);have c2:=P0 (U4 x) (U4 W) (by omega) (by omega);have bm:=Pk (u:=4) b1 (pR hn hd) (by omega);have hm:=Ga x W;have hlm:=Tv P [n,d];simp only [Q5,Xk] at hlm;have c3:=BR (p:=Gk P [n,d]) (q:=[x*W]) (by omega) (by show 1<274877906944; decide) (U5 bm (by omega)) (λz hz=>by rw [Qk.1 hz]; omega);rw [<-e1] at c3;have c4:=P0 (U4 W) (U4 d) (by omega) (by omega);rw [<-e2] at c4;rw [show ((j+1:Nat):Int)-1=(j:Int) by omega,<-hP,<-hW];refine Ue [.t (by simp),.k c1,.x (Pf hx),.k c2,.k c3,.k c4] rfl ?_;exact rd j (by omega) (by omega) rfl
def tX (px py:Um) (q:Rat):Crv:=⟨Fw (Rr (-q).num ((-q).den:Int) (trim px)).1 (((-q).den:Int)^(max ((trim px).length-1) ((trim py).length-1)-((trim px).length-1))),Fw (Rr (-q).num ((-q).den:Int) (trim py)).1 (((-q).den:Int)^(max ((trim px).length-1) ((trim py).length-1)-((trim py).length-1))),((-q).den:Int)^(max ((trim px).length-1) ((trim py).length-1))⟩
theorem Qfa {lx ly:Us} {px py:Um} {q:Rat} {s:Nat} (hx:IsInts lx px) (hy:IsInts ly py) (hq:Qs 128 q) (bx:Bd s px) (by_:Bd s py) (hs:s<=1000) (llx:px.length<=8) (lly:py.length<=8) :
 Cs 4294967294 1073741824 (tX px py q)/\Uj 95 [.one (.row lx),.one (.row ly),.agg (rl q)] [.agg (cl (Crv.norm (tX px py q)))]:=by
 have cx:=Ch hx (by omega) (U5 bx (by omega));have cy:=Ch hy (by omega) (U5 by_ (by omega));have cg:=Qgc (q:=q) (hq.mono (by decide));have hnq:Qs 128 (-q):=by
  refine ⟨?_,?_⟩
  ·rw [Rat.neg_num,Hm]; exact hq.1
  ·rw [Rat.neg_den]; exact hq.2
 have hX:Bd s (trim px):=Tw bx;have hY:Bd s (trim py):=Tw by_;have lX:(trim px).length<=8:=Qa (H7 px) llx;have lY:(trim py).length<=8:=Qa (H7 py) lly;have h0:((-q).den:Int)≠0:=by have:=(-q).den_pos; omega
 have hn1:Fe (-q).num<=130:=Qa hnq.1 (by decide);have hd1:Fe ((-q).den:Int)<=130:=Qa hnq.2 (by decide);have m1:=Qew (Rq px) hX hs (by omega) hn1 hd1 h0;have m2:=Qew (Rq py) hY hs (by omega) hn1 hd1 h0;obtain ⟨p1,p2,_⟩:=FP hn1 hd1 hX (by omega);obtain ⟨q1,q2,_⟩:=FP hn1 hd1 hY (by omega);unfold tX;obtain ⟨D,hD⟩:=nmE (((-q).den:Int));obtain ⟨N,hN⟩:=nmE ((-q).num);have hgl:rl (-q)=[sg N,mg N,sg D,mg D]:=by rw [hN,hD]
 rw [hgl] at cg;rw [<-hD,<-hN] at m1 m2 p1 p2 q1 q2 ⊢;rw [<-hD] at hd1;obtain ⟨X,hXe⟩:=nmE (trim px);obtain ⟨Y,hYe⟩:=nmE (trim py);rw [<-hXe] at cx hX lX m1 p1 p2 ⊢;rw [<-hYe] at cy hY lY m2 q1 q2 ⊢;obtain ⟨a,ha⟩:=nmE (X.length-1);obtain ⟨b,hb⟩:=nmE (Y.length-1);rw [<-ha,<-hb];obtain ⟨k,hk⟩:=nmE (max a b);rw [<-hk];have w1:=Qe6 (a:=D) (n:=k-a) (by omega) (by omega);have w2:=Qe6 (a:=D) (n:=k-b) (by omega) (by omega);have w3:=Qe6 (a:=D) (n:=k) (by omega) (by omega);have z1:=XD D (k-a);have z2:=XD D (k-b);have z3:=XD D k;have y1:Fe D*(k-a)<=130*8:=Zc hd1 (by omega);have y2:Fe D*(k-b)<=130*8:=Zc hd1 (by omega);have y3:Fe D*k<=130*8:=Zc hd1 (by omega);have s1:=Pq (p:=(Rr N D X).1) (c:=D^(k-a)) (by omega) (U5 p1 (by omega)) (by omega);have s2:=Pq (p:=(Rr N D Y).1) (c:=D^(k-b)) (by omega) (U5 q1 (by omega)) (by omega);have e1:=Ge p1 (c:=D^(k-a)) (Ql _);have e2:=Ge q1 (c:=D^(k-b)) (Ql _);have f1:=Fx (Rr N D X).1 (D^(k-a));have f2:=Fx (Rr N D Y).1 (D^(k-b));have hcs:Cs 4294967294 1073741824 ⟨Fw (Rr N D X).1 (D^(k-a)),Fw (Rr N D Y).1 (D^(k-b)),D^k⟩:=⟨U5 e1 (by omega),U5 e2 (by omega),by show Fe (D^k)<=_; omega,by show (Fw _ _).length<=_; omega,by show (Fw _ _).length<=_; omega⟩;refine ⟨hcs,?_⟩;have cn:=MK (Gn _) (Gn _) (U4 _) hcs;have ek:((max a b:Nat):Int)=(k:Int):=by rw [hk]
 exact Ug func95 rfl [.k cx,.k cy,.k cg,.k m1,.k m2,.k (Ma X),.r 40 (eI (b:=(a:Int)) (by omega)),.k (Ma Y),.r 43 (eI (b:=(b:Int)) (by omega)),.r 46 (eI (b:=(k:Int)) (by omega)),.r 52 (eI (b:=((k-a:Nat):Int)) (by omega)),.k w1,.k s1,.r 60 (eI (b:=((k-b:Nat):Int)) (by omega)),.k w2,.k s2,.k w3,.k cn] rfl rfl (by simp [U3]; omega)
theorem Qun {E:Es} {b:Int} (h:EOk b E) {lx ly:Us} {px py:Um} {s:Nat} {id:Int} (hx:IsInts lx px) (hy:IsInts ly py) (bx:Bd s px) (by_:Bd s py) (hs:s<=1000) (llx:px.length<=8) (lly:py.length<=8) :
 ∃ E',EOk b E'/\E'.m=(E.m.rep ⟨Crv.norm (tX px py E.q),id⟩).1/\EnD 51 [.one (.ow 0 0),.oi id,.one (.row lx),.one (.row ly)] E [.one (.int .i64 (E.m.rep ⟨Crv.norm (tX px py E.q),id⟩).2)] E':=by
 obtain ⟨hc,cr⟩:=Qfa hx hy h.q bx by_ hs llx lly;have hcn:=hc.norm (by omega);have hnm:=Crv.nml (tX px py E.q);obtain ⟨C,hC⟩:=nmE (Crv.norm (tX px py E.q));rw [<-hC] at cr hcn hnm ⊢;obtain ⟨E',h1,h2,h3⟩:=uN h (id:=id) (Gn C.x) (Gn C.y) (U4 C.d) hcn;have eC:Crv.norm (Crv.mk C.x C.y C.d)=C:=Crv.norm_of hnm;rw [eC] at h2 h3;refine ⟨E',h1,h2,?_⟩;refine Fv func51 rfl ?_;exact Uh [] [0,1,2,3,4,5,6] [.k cr,.c Uv h3] rfl
end Orr
namespace Orr
open Go
structure RawOp where
 k:Int
 n:Int
 d:Int
 p:RawPt
 t:RawInt
 u:RawInt
structure RawOp.Ok (o:RawOp):Prop where
 k:-9223372036854775808<=o.k/\o.k<=9223372036854775807
 n:-9223372036854775808<=o.n/\o.n<=9223372036854775807
 d:-9223372036854775808<=o.d/\o.d<=9223372036854775807
 p:o.p.Ok
 t:o.t.Ok
 u:o.u.Ok
abbrev rwo (o:RawOp):Ur:=[.int .i64 o.k,.int .i64 o.n,.int .i64 o.d]++rwq o.p++Eb o.t++Eb o.u
def qM (l:List RawOp):Us:=l.map rwo
theorem Qc0 (l:List RawOp):(qM l).length=l.length:=by simp [qM]
theorem Qcz {l:List RawOp} {i:Nat} {o:RawOp} (h:l[i]? = some o):(qM l)[i]? = some (rwo o):=by rw [qM,Q8,h]; rfl
end Orr
namespace Orr
open Go Go.Proofs Tryz Orq
set_option maxRecDepth 10000
def Oj (N:Int):Int:=if N=2 then 999 else if N=3 then 99 else 20
theorem gK (N:Int):0<=Oj N/\Oj N<=999:=by unfold Oj; split; decide; split; decide; decide
def UB (N:Int) (z:RawPt):Crv:=if 1<N then ⟨Gp (Oj N) z.x++(if 3<z.x.length then [1] else []),Gp (Oj N) z.y,H5 3 z.d⟩ else ⟨((z.x.take 4).map (·.cutN 1)).map vI,((z.y.take 4).map (·.cutN 1)).map vI,vI (z.d.cutN 1)⟩
theorem Qj8 {l:List RawInt} (h:∀ a∈l,a.Ok):∀ z∈(l.take 4).map (·.cutN 1),z.Ok:=λz hz=>by
 obtain ⟨y,hy,rfl⟩:=Za.1 hz;exact (h y (Qo hy)).cutN_ok 1
theorem Qj7 {l:List RawInt} (h:∀ a∈l,a.Ok):Bd 40 (((l.take 4).map (·.cutN 1)).map vI):=λz hz=>by
 obtain ⟨y,hy,rfl⟩:=Za.1 hz;obtain ⟨x,hx,rfl⟩:=Za.1 hy;exact Qa (ML ((h x (Qo hx)).cutN_ok 1) (XY x 1)) (by decide)
theorem Qof {N:Int} {z:RawPt} (hz:z.Ok):Cs 40 4 (UB N z):=by
 unfold UB
 split
 ·have h:=Qb0 (gK N) z.x z.y z.d;refine ⟨λy hy=>?_,U5 h.y (by decide),Qa h.d (by decide),?_,Qa h.ly (by decide)⟩
  ·rcases Qr.1 hy with hy | hy
   ·exact Qa (h.x y hy) (by decide)
   ·split at hy
    ·rw [Qk.1 hy]; decide
    ·cases hy
  ·have:=h.lx;have h2:(Gp (Oj N) z.x).length<=3:=this;show (_++_:Um).length<=4;rw [Qu]
   split <;> simp <;> omega
 ·exact ⟨Qj7 hz.x,Qj7 hz.y,Qa (ML (hz.d.cutN_ok 1) (XY z.d 1)) (by decide),by show (List.map _ _).length<=4; rw [Q9,Q9,Qq]; omega,by show (List.map _ _).length<=4; rw [Q9,Q9,Qq]; omega⟩
def sO (o:RawOp):Int:=if Tz o.k 12<10 then Tz o.p.id 6 else o.p.id
abbrev Qug (o:RawOp) (lx ly:Us) (bb:Bool) (l3:Us):Ur:=[.int .i64 o.k,.int .i64 o.n,.int .i64 o.d,.row lx,.row ly,.bool bb,.row l3,.int .i64 (sO o)]++Eb (o.t.cutN 6)++Eb (o.u.cutN 6)
abbrev iE (ms:Ur) (N:Int):Ur:=[.ow 0 0,.sh ms,.int .i64 N]
theorem yJ {most:Int} {l:List RawInt} (h:3<l.length):(Gp most l).length=3:=by unfold Gp; rw [List.length_map,List.length_take]; omega
abbrev Qsn:Ur:=[.bool false,.row [[.int .u32 1]]]
theorem nH {p:Um}:IsInts (p.map G8++[Qsn]) (p++[1]):=(Gn p).append ⟨⟨_,_,rfl,false,[1],rfl,rfl,(λx hx=>by rw [Qk.1 hx]; decide),rfl⟩,trivial⟩
theorem Qbe {z:RawPt} (hz:z.Ok) {most:Int} (hm:0<=most/\most<=999):U6 prog 88 [.agg (rcw z),.oi most] [] [.agg [.orow 0 2 none,.row (Ap (Gp most z.y)),sg (H5 3 z.d),mg (H5 3 z.d)]] [.row false 36 2 (Ap (Gp most z.x))]:=by
 have hxl:=O6 z.x;have hyl:=O6 z.y;obtain ⟨D,hD⟩:=nmE (H5 3 z.d);have cd:=UR hz.d (most:=3) (by decide);have hx0:∀ {i:Nat},z.x.length<=i\/3<=i->Gp most (z.x.take i)=Gp most z.x:=SB most;have hy0:∀ {i:Nat},z.y.length<=i\/3<=i->Gp most (z.y.take i)=Gp most z.y:=SB most;rw [<-hD] at cd ⊢;refine Fv func88 rfl ?_;refine Ud [.k cd] rfl ?_;refine oz2 5 0 36 2 rfl rfl ?_;refine Ui (S:=Nat) 4 (λL1 i=>(6,.v (.oi i))::L1) (λi=>[.blk 60 (rcw z),.blk 60 [.nils,.nils,.bool false,.nils],.blk 60 [.orow 3 2 none,.nils,sg D,mg D],.row false 36 2 (Ap (Gp most (z.x.take i)))]) (λi=>3-i) (λi=>i<=3/\i<=z.x.length) 0 ⟨by decide,Qh _⟩ rfl rfl λi ⟨hi,hi2⟩=>?_
 have hll:=yX (most:=most) hi hi2;by_cases hr:i<z.x.length/\i<3
 ·obtain ⟨a,ha⟩:=gxE (l:=z.x) (i:=i) hr.1;have hs:∀ y∈[G8 (H5 most a)],y.length=2:=λy hy=>by rw [Qk.1 hy]; rfl
  refine go tt [.g 17 true Ul,.T,.x (G5 (f:=Eb) ha),.k (UR (hz.x a (Qc ha)) hm),.s (sz:=2) hs] rfl (by simp [U3,hll]; omega) ?_;exact rd (i+1) (by omega) ⟨hr.2,hr.1⟩ (by rw [RA hr.2 ha]; rfl)
 have hg1:decide ((i:Int)<((Io z.x).length:Int))=true->i<z.x.length:=λh=>by have:=of_decide_eq_true h; omega
 rw [hx0 (by omega)];clear hll;have hfin:∀ {j:Nat},j<=3/\j<=z.y.length->¬(j<z.y.length/\j<3)->Ap (Gp most (z.y.take j))=Ap (Gp most z.y):=λh1 h2=>by rw [hy0 (by omega)]
 by_cases hxx:i<z.x.length
 ·refine Ud [.g 17 true Ul,.F] rfl ?_;refine oz2 5 1 36 2 rfl rfl ?_;refine Ui (S:=Nat) 5 (λL1 j=>(7,.v (.oi j))::L1) (λj=>[.blk 60 (rcw z),.blk 60 [.nils,.nils,.bool false,.nils],.blk 60 [.orow 3 2 none,.orow 4 2 none,sg D,mg D],.row false 36 2 (Ap (Gp most z.x)),.row false 36 2 (Ap (Gp most (z.y.take j)))]) (λj=>3-j) (λj=>j<=3/\j<=z.y.length) 0 ⟨by decide,Qh _⟩ rfl rfl λj ⟨hj,hj2⟩=>?_
  have hll:=yX (most:=most) hj hj2;by_cases hr:j<z.y.length/\j<3
  ·obtain ⟨a,ha⟩:=gxE (l:=z.y) (i:=j) hr.1;have hs:∀ y∈[G8 (H5 most a)],y.length=2:=λy hy=>by rw [Qk.1 hy]; rfl
   refine go tt [.g 40 true Ul,.T,.x (G5 (f:=Eb) ha),.k (UR (hz.y a (Qc ha)) hm),.s (sz:=2) hs] rfl (by simp [U3,hll]; omega) ?_;exact rd (j+1) (by omega) ⟨hr.2,hr.1⟩ (by rw [RA hr.2 ha]; rfl)
  rw [hfin ⟨hj,hj2⟩ hr];by_cases hyy:j<z.y.length
  ·exact Uh [4] [3] [.g 40 true Ul,.F] rfl
  ·exact Uh [4] [3] [.g 40 false Uk,.f rfl] rfl
 ·refine Ud [.g 17 false Uk,.f rfl] rfl ?_;refine oz2 5 1 36 2 rfl rfl ?_;refine Ui (S:=Nat) 5 (λL1 j=>(7,.v (.oi j))::L1) (λj=>[.blk 60 (rcw z),.blk 60 [.nils,.nils,.bool false,.nils],.blk 60 [.orow 3 2 none,.orow 4 2 none,sg D,mg D],.row false 36 2 (Ap (Gp most z.x)),.row false 36 2 (Ap (Gp most (z.y.take j)))]) (λj=>3-j) (λj=>j<=3/\j<=z.y.length) 0 ⟨by decide,Qh _⟩ rfl rfl λj ⟨hj,hj2⟩=>?_
  have hll:=yX (most:=most) hj hj2;by_cases hr:j<z.y.length/\j<3
  ·obtain ⟨a,ha⟩:=gxE (l:=z.y) (i:=j) hr.1;have hs:∀ y∈[G8 (H5 most a)],y.length=2:=λy hy=>by rw [Qk.1 hy]; rfl
   refine go tt [.g 40 true Ul,.T,.x (G5 (f:=Eb) ha),.k (UR (hz.y a (Qc ha)) hm),.s (sz:=2) hs] rfl (by simp [U3,hll]; omega) ?_;exact rd (j+1) (by omega) ⟨hr.2,hr.1⟩ (by rw [RA hr.2 ha]; rfl)
  rw [hfin ⟨hj,hj2⟩ hr];by_cases hyy:j<z.y.length
  ·exact Uh [4] [3] [.g 40 true Ul,.F] rfl
  ·exact Uh [4] [3] [.g 40 false Uk,.f rfl] rfl
set_option maxHeartbeats 4000000 in
theorem Qtv {E:Es} {N:Int} {o:RawOp} {ms:Ur} (hN:1<=N/\N<=4) (ho:o.Ok):∃ lx ly bb l3,IsInts lx (UB N o.p).x/\IsInts ly (UB N o.p).y/\Gd (.bool bb) (.row l3) (UB N o.p).d /\
 U6 prog 45 [.agg (iE ms N),.agg (rwo o)] (enB 0 E) [.agg (Qug o lx ly bb l3)] (enB 0 E):=by
 have c4:=Qti (z:=o.p);have wk:=D9 (v:=o.k) (n:=12) ho.k (by decide);have wi:=D9 (v:=o.p.id) (n:=6) ho.p.id (by decide);have cr:=Qnw (t:=o.t) (u:=o.u);have cl:=Qbe ho.p (most:=Oj N) (gK N);obtain ⟨i,hi⟩:=nmE (sO o);have hln:(Io o.p.x).length=o.p.x.length:=O6 _;unfold Qug;rw [<-hi];by_cases h1:1<N
 ·have e1:UB N o.p=⟨Gp (Oj N) o.p.x++(if 3<o.p.x.length then [1] else []),Gp (Oj N) o.p.y,H5 3 o.p.d⟩:=if_pos h1;rw [e1];dsimp only;obtain ⟨X,hX⟩:=nmE (Gp (Oj N) o.p.x);obtain ⟨Y,hY⟩:=nmE (Gp (Oj N) o.p.y);obtain ⟨D,hD⟩:=nmE (H5 3 o.p.d);have hX3:=yJ (most:=Oj N) (l:=o.p.x);rw [<-hX] at hX3;rw [<-hX,<-hY,<-hD] at cl ⊢;have e3:∃ k:Nat,(k:Int)=min N 4/\[[LV.int .i64 0],[.int .i64 0],[.int .i64 999],[.int .i64 99],[.int .i64 20]][k]? = some [.int .i64 (Oj N)]:=by
   rcases (show N=2\/N=3\/N=4 by omega) with rfl | rfl | rfl
   ·exact ⟨2,rfl,rfl⟩
   ·exact ⟨3,rfl,rfl⟩
   ·exact ⟨4,rfl,rfl⟩
  obtain ⟨k,k1,k2⟩:=e3;by_cases h3:3<o.p.x.length
  ·rw [if_pos h3];have hX3:=hX3 h3;have hml:(X.map G8).length=3:=by rw [Q9]; exact hX3
   refine ⟨_,_,_,_,nH,Gn Y,U4 D,?_⟩;refine Fv func45 rfl ?_;refine go tt [.k c4,.t (by simpa using h1),.r 19 (eI k1.symm),.x k2,.c [11] cl,.t (by simp; omega)] rfl (by simp only [U3,qU]; omega) ?_;refine Ui (S:=Unit) 12 (λL1 _=>L1) (λ_=>enB 0 E++[.blk 67 (iE ms N),.blk 64 (rwo o),.blk 64 [.int .i64 0,.int .i64 0,.int .i64 0,.nils,.nils,.bool false,.nils,.int .i64 0,.bool false,.nils,.bool false,.nils],.blk 60 [.orow 11 2 none,pl Y,sg D,mg D],.row false 36 2 (X.map G8++[Qsn])]) (λ_=>0) (λ_=>True) () trivial rfl rfl λ_ _=>?_
   by_cases hk:Tz o.k 12<10
   ·rw [hi,show sO o=Tz o.p.id 6 from if_pos hk];exact Uh [11] [0,1,2,3,4,5,6] [.f (by simp; omega),.k wk,.t (by simpa using hk),.k wi,.k cr] rfl
   ·rw [hi,show sO o=o.p.id from if_neg hk];exact Uh [11] [0,1,2,3,4,5,6] [.f (by simp; omega),.k wk,.f (by simpa using hk),.k cr] rfl
  ·rw [if_neg h3,Zw];refine ⟨_,_,_,_,Gn X,Gn Y,U4 D,?_⟩;refine Fv func45 rfl ?_;by_cases hk:Tz o.k 12<10
   ·rw [hi,show sO o=Tz o.p.id 6 from if_pos hk];exact Uh [11] [0,1,2,3,4,5,6] [.k c4,.t (by simpa using h1),.r 19 (eI k1.symm),.x k2,.c [11] cl,.f (by simp; omega),.k wk,.t (by simpa using hk),.k wi,.k cr] rfl
   ·rw [hi,show sO o=o.p.id from if_neg hk];exact Uh [11] [0,1,2,3,4,5,6] [.k c4,.t (by simpa using h1),.r 19 (eI k1.symm),.x k2,.c [11] cl,.f (by simp; omega),.k wk,.f (by simpa using hk),.k cr] rfl
 ·have e1:UB N o.p=⟨((o.p.x.take 4).map (·.cutN 1)).map vI,((o.p.y.take 4).map (·.cutN 1)).map vI,vI (o.p.d.cutN 1)⟩:=if_neg h1;rw [e1];refine ⟨_,_,_,_,WZ (Qj8 ho.p.x),WZ (Qj8 ho.p.y),YD (ho.p.d.cutN_ok 1),?_⟩;refine Fv func45 rfl ?_;by_cases hk:Tz o.k 12<10
  ·rw [hi,show sO o=Tz o.p.id 6 from if_pos hk];exact Uh [] [0,1,2,3,4,5,6] [.k c4,.f (by simpa using h1),.k wk,.t (by simpa using hk),.k wi,.k cr] rfl
  ·rw [hi,show sO o=o.p.id from if_neg hk];exact Uh [] [0,1,2,3,4,5,6] [.k c4,.f (by simpa using h1),.k wk,.f (by simpa using hk),.k cr] rfl
def Ix (o:RawOp) (q:Rat):Rat:=q+Gh (Tz o.n 5-1) (1+Tz o.d 4)
theorem Iq {v n:Int} (h:0<n):0<=Tz v n/\Tz v n<n:=by
 unfold Tz;rw [if_neg (by omega)];exact ⟨Ye _ (by omega),Js _ h⟩
theorem rA {a b:Int} (ha:-10<=a/\a<=10) (hb:-10<=b/\b<=10):Qs 4 (Gh a b):=by
 have sz4:∀ z:Int,-10<=z/\z<=10->Fe z<=4:=λz hz=>by
  have h16:(2:Nat)^4=16:=by decide
  exact Sw.2 (by omega)
 unfold Gh
 split
 ·exact ⟨Pe (sz4 a ha),Pd (by decide) (by decide)⟩
 ·exact ⟨Pe (sz4 a ha),Pd (sz4 b hb) (by decide)⟩
theorem rE {o:RawOp} {q:Rat} (h:Qs 128 q):Qs 257 (Ix o q):=by
 have h1:=Iq (v:=o.n) (n:=5) (by decide);have h2:=Iq (v:=o.d) (n:=4) (by decide);have:=Qv0 h ((rA (a:=Tz o.n 5-1) (b:=1+Tz o.d 4) (by omega) (by omega)).mono (by decide));exact this
abbrev enP (E:Es) (ms:Ur) (N:Int) (o:RawOp) (lx ly:Us) (bb:Bool) (l3:Us):Ut:=[.blk 51 (uL 0 E.q),tB E.np E.nd E.M,bS E.s E.M E.q,bT E.t E.M E.q,bH E.h E.M E.q,bP E.p E.M E.q,bD E.d E.M E.q,.blk 67 (iE ms N),.blk 64 (Qug o lx ly bb l3)]
set_option maxHeartbeats 4000000 in
theorem Qnx {E:Es} {N:Int} {o:RawOp} {ms:Ur} {lx ly:Us} {bb:Bool} {l3:Us} (ho:o.Ok) (hq:Qs 128 E.q):U6 prog 46 [.one (.ow 7 0),.one (.ow 8 0)] (enP E ms N o lx ly bb l3) [.agg (rl (Ix o E.q))] (enP E ms N o lx ly bb l3):=by
 have wn:=D9 (v:=o.n) (n:=5) ho.n (by decide);have wd:=D9 (v:=o.d) (n:=4) ho.d (by decide);have b1:=Iq (v:=o.n) (n:=5) (by decide);have b2:=Iq (v:=o.d) (n:=4) (by decide);have co:=Qxu (n:=Tz o.n 5-1) (d:=1+Tz o.d 4) (by omega) (by omega);have cf:=Qen (q:=E.q) (hq.mono (by decide));have ca:=pD (a:=E.q) (b:=Gh (Tz o.n 5-1) (1+Tz o.d 4)) (hq.mono (by decide)) ((rA (by omega) (by omega)).mono (by decide));have ct:=wR (q:=Ix o E.q) ((rE hq).mono (by decide));have cc:=lQ (np:=E.np) (nd:=E.nd) (M:=E.M) (s:=E.s) (t:=E.t) (h:=E.h) (p:=E.p) (d:=E.d) hq;refine Fv func46 rfl ?_;exact Uh [] [0,1,2,3,4,5,6,7,8] [.lo,.c Uv cc,.k cf,.k wn,.k wd,.k co,.k ca,.k ct] rfl (by simp [U3]; omega)
def PH (o:RawOp):Rat:=Gh (vI (o.t.cutN 6)) (vI (o.u.cutN 6))
open Classical in
noncomputable def nearT (o:RawOp):Rat:=if Qs 128 (PH o) then SL (PH o) else PH o
noncomputable def aloneF (N:Int) (o:RawOp) (A:Em):Em×Int :=
 if Tz o.k 12<3 then A.ins ⟨Crv.norm (UB N o.p),sO o⟩
 else if Tz o.k 12=3 then A.del (sO o)
 else if Tz o.k 12=4 then A.rep ⟨Crv.norm (UB N o.p),sO o⟩
 else if Tz o.k 12=5 then A.rep ⟨Crv.norm (tX (UB N o.p).x (UB N o.p).y A.q),sO o⟩
 else if Tz o.k 12<9 then A.adv (Ix o A.q)
 else if Tz o.k 12=9 then (A,(A.adv (Ix o A.q)).2)
 else if Tz o.k 12=10 then A.adv (nearT o)
 else (A,(A.adv (nearT o)).2)
theorem Qnz {o:RawOp} (ho:o.Ok):∃ x0 x1 x2 x3 n m,Gd x0 x1 n/\Gd x2 x3 m/\Fe n<=4294967295/\Fe m<=4294967295/\Gh n m=nearT o/\Uj 53 [.agg (Eb (o.t.cutN 6)++Eb (o.u.cutN 6))] [.agg [x0,x1,x2,x3]]:=by
 have i1:=YD (ho.t.cutN_ok 6);have i2:=YD (ho.u.cutN_ok 6);have s1:=ML (ho.t.cutN_ok 6) (XY o.t 6);have s2:=ML (ho.u.cutN_ok 6) (XY o.u 6);have ln:∀ (z:RawInt) l,LV.row (lm (z.cutN 6).l)=.row (lm l)->l.length<=1000:=λz l h=>by
  have:=Qir h;have:=XY z 6;omega
 by_cases hq:Qs 128 (PH o)
 ·have e:nearT o=SL (PH o):=if_pos hq;have hn:=oD hq;rw [e];exact ⟨_,_,_,_,_,_,U4 (SL (PH o)).num,U4 ((SL (PH o)).den:Int),Qa hn.1 (by decide),Qa hn.2 (by decide),Su _,Qn1 i1 i2 (ln o.t) (ln o.u) (by omega) (by omega) hq⟩
 ·have e:nearT o=PH o:=if_neg hq;rw [e];exact ⟨_,_,_,_,_,_,i1,i2,by omega,by omega,rfl,Qn0 i1 i2 (ln o.t) (ln o.u) (by omega) (by omega) hq⟩
set_option maxHeartbeats 8000000 in
theorem aQ {E:Es} {b N:Int} {o:RawOp} {ms:Ur} (h:EOk b E) (hb:b<=900000000000000000) (hN:1<=N/\N<=4) (ho:o.Ok) :
 ∃ E',EOk (b+67000000) E'/\E'.m=(aloneF N o E.m).1/\EnD 16 [.agg (iE ms N),.agg (rwo o)] E [.one (.int .i64 (aloneF N o E.m).2)] E':=by
 obtain ⟨lx,ly,bb,l3,i1,i2,i3,cp⟩:=Qtv (E:=E) (ms:=ms) hN ho;have wk:=D9 (v:=o.k) (n:=12) ho.k (by decide);have hW:=Iq (v:=o.k) (n:=12) (by decide);have hcs:=Qof (N:=N) ho.p;have hk:Cs 4294967294 1073741824 (Crv.mk (UB N o.p).x (UB N o.p).y (UB N o.p).d):=hcs.mono (by decide) (by decide);have cla:=Qnx (E:=E) (N:=N) (ms:=ms) (lx:=lx) (ly:=ly) (bb:=bb) (l3:=l3) ho h.q;have hla:=rE (o:=o) h.q;obtain ⟨x0,x1,x2,x3,n,m,n1,n2,n3,n4,n5,cnr⟩:=Qnz ho;have eq_:E.m.q=E.q:=rfl;unfold aloneF;rw [eq_];obtain ⟨W,hWe⟩:=nmE (Tz o.k 12);rw [<-hWe] at wk hW ⊢;by_cases w0:W<3
 ·rw [if_pos w0];obtain ⟨E',g1,g2,g3⟩:=DX h (id:=sO o) i1 i2 i3 hk;refine ⟨E',g1.mono (by omega),g2,?_⟩;refine Fv func16 rfl ?_;exact Uh [] [0,1,2,3,4,5,6] [.c Uv cp,.k wk,.T,.c Uv g3] rfl
 rw [if_neg w0];by_cases w1:W=3
 ·rw [if_pos w1];obtain ⟨E',g1,g2,g3⟩:=Qhd h (id:=sO o);refine ⟨E',g1.mono (by omega),g2,?_⟩;refine Fv func16 rfl ?_;exact Uh [] [0,1,2,3,4,5,6] [.c Uv cp,.k wk,.F,.T,.c Uv g3] rfl
 rw [if_neg w1];by_cases w2:W=4
 ·rw [if_pos w2];obtain ⟨E',g1,g2,g3⟩:=uN h (id:=sO o) i1 i2 i3 hk;refine ⟨E',g1.mono (by omega),g2,?_⟩;refine Fv func16 rfl ?_;exact Uh [] [0,1,2,3,4,5,6] [.c Uv cp,.k wk,.F,.F,.T,.c Uv g3] rfl
 rw [if_neg w2];by_cases w3:W=5
 ·rw [if_pos w3];obtain ⟨E',g1,g2,g3⟩:=Qun h (id:=sO o) i1 i2 hcs.x hcs.y (by decide) (Qa hcs.lx (by decide)) (Qa hcs.ly (by decide));refine ⟨E',g1.mono (by omega),g2,?_⟩;refine Fv func16 rfl ?_;exact Uh [] [0,1,2,3,4,5,6] [.c Uv cp,.k wk,.F,.F,.F,.T,.c Uv g3] rfl
 rw [if_neg w3];by_cases w4:W<9
 ·rw [if_pos w4];obtain ⟨E',g1,g2,_,g3⟩:=YN h hb (U4 (Ix o E.q).num) (U4 ((Ix o E.q).den:Int)) (Qa hla.1 (by decide)) (Qa hla.2 (by decide)) (Su _);refine ⟨E',g1,g2,?_⟩;refine Fv func16 rfl ?_;exact Uh [] [0,1,2,3,4,5,6] [.c Uv cp,.k wk,.F,.F,.F,.F,.T,.lo,.c [0,1,2,3,4,5,6,7,8] cla,.c Uv g3] rfl
 rw [if_neg w4];by_cases w5:W=9
 ·rw [if_pos w5];have g3:=aZ h hb (U4 (Ix o E.q).num) (U4 ((Ix o E.q).den:Int)) (Qa hla.1 (by decide)) (Qa hla.2 (by decide)) (Su _);refine ⟨E,h.mono (by omega),rfl,?_⟩;obtain ⟨a,ha,hal⟩:∃ a,a=E.m.ans (Ix o E.q)/\∃ a0 a1 a2 a3 a4,a=[LV.row a0,.row a1,.row a2,.row a3,.row a4]:=⟨_,rfl,by unfold Em.ans; split <;> exact ⟨_,_,_,_,_,rfl⟩⟩;rw [<-ha] at g3;obtain ⟨a0,a1,a2,a3,a4,rfl⟩:=hal;refine Fv func16 rfl ?_;exact Uh [] [0,1,2,3,4,5,6] [.c Uv cp,.k wk,.F,.F,.F,.F,.F,.T,.lo,.c [0,1,2,3,4,5,6,7,8] cla,.c Uv g3] rfl
 rw [if_neg w5];by_cases w6:W=10
 ·rw [if_pos w6];obtain ⟨E',g1,g2,_,g3⟩:=YN h hb n1 n2 n3 n4 n5;refine ⟨E',g1,g2,?_⟩;obtain ⟨b1,r1,rfl,rfl,_⟩:=n1;obtain ⟨b2,r2,rfl,rfl,_⟩:=n2;refine Fv func16 rfl ?_;exact Uh [] [0,1,2,3,4,5,6] [.c Uv cp,.k wk,.F,.F,.F,.F,.F,.F,.T,.k cnr,.c Uv g3] rfl
 ·rw [if_neg w6];have g3:=aZ h hb n1 n2 n3 n4 n5;refine ⟨E,h.mono (by omega),rfl,?_⟩;obtain ⟨b1,r1,rfl,rfl,_⟩:=n1;obtain ⟨b2,r2,rfl,rfl,_⟩:=n2;obtain ⟨a,ha,hal⟩:∃ a,a=E.m.ans (nearT o)/\∃ a0 a1 a2 a3 a4,a=[LV.row a0,.row a1,.row a2,.row a3,.row a4]:=⟨_,rfl,by unfold Em.ans; split <;> exact ⟨_,_,_,_,_,rfl⟩⟩;rw [<-ha] at g3;obtain ⟨a0,a1,a2,a3,a4,rfl⟩:=hal;refine Fv func16 rfl ?_;exact Uh [] [0,1,2,3,4,5,6] [.c Uv cp,.k wk,.F,.F,.F,.F,.F,.F,.F,.k cnr,.c Uv g3] rfl
end Orr
namespace Orr
open Go Go.Proofs Tryz Orq
set_option maxRecDepth 10000
theorem Qay {N:Int} {o:RawOp} {A:Em} (h:(aloneF N o A).2≠0):(aloneF N o A).1=A:=by
 have hi:∀ p,(A.ins p).2≠0->(A.ins p).1=A:=λp h=>if_neg h
 have hr:∀ p,(A.rep p).2≠0->(A.rep p).1=A:=λp h=>if_neg h
 have hd:∀ id,(A.del id).2≠0->(A.del id).1=A:=λid h=>by
  unfold Em.del at h ⊢;by_cases e:has A.M id=true
  ·rw [if_pos e] at h; exact absurd rfl h
  ·rw [if_neg e]
 have ha:∀ t,(A.adv t).2≠0->(A.adv t).1=A:=λt h=>by
  unfold Em.adv at h ⊢;by_cases a:Qs 128 t
  ·rw [if_pos a] at h ⊢;by_cases b:t<A.q
   ·rw [if_pos b]
   ·rw [if_neg b] at h; exact absurd rfl h
  ·rw [if_neg a]
 unfold aloneF at h ⊢;by_cases w0:Tz o.k 12<3
 ·rw [if_pos w0] at h ⊢; exact hi _ h
 rw [if_neg w0] at h ⊢;by_cases w1:Tz o.k 12=3
 ·rw [if_pos w1] at h ⊢; exact hd _ h
 rw [if_neg w1] at h ⊢;by_cases w2:Tz o.k 12=4
 ·rw [if_pos w2] at h ⊢; exact hr _ h
 rw [if_neg w2] at h ⊢;by_cases w3:Tz o.k 12=5
 ·rw [if_pos w3] at h ⊢; exact hr _ h
 rw [if_neg w3] at h ⊢;by_cases w4:Tz o.k 12<9
 ·rw [if_pos w4] at h ⊢; exact ha _ h
 rw [if_neg w4] at h ⊢;by_cases w5:Tz o.k 12=9
 ·rw [if_pos w5]
 rw [if_neg w5] at h ⊢;by_cases w6:Tz o.k 12=10
 ·rw [if_pos w6] at h ⊢; exact ha _ h
 ·rw [if_neg w6]
theorem Qax {N:Int} {o:RawOp} {A:Em} (h:Tz o.k 12=9\/Tz o.k 12=11):(aloneF N o A).1=A:=by
 unfold aloneF;rw [if_neg (by omega),if_neg (by omega),if_neg (by omega),if_neg (by omega),if_neg (by omega)];rcases h with h | h
 ·rw [if_pos h]
 ·rw [if_neg (by omega),if_neg (by omega)]
end Orr
namespace Orr
theorem bz1:Bd 9000000 [1]:=λz hz=>by obtain rfl:=Qk.1 hz; decide
theorem bz2:Bd 9000000 [0,1]:=λz hz=>by
 simp only [Qm,Jl,or_false] at hz;rcases hz with rfl | rfl <;> decide
theorem Q0f:∀ z∈([0,1]:Um),Fe z≤1:=by
 intro z hz;simp only [Qm,Jl,or_false] at hz;rcases hz with rfl | rfl <;> decide
theorem rz:RRun [1] 1 [0,1] []:=by
 refine .step (by decide) (by decide) bz2 bz1 ?_;rw [show tG [0,1] [1]=[] by decide];exact .stop (by decide)
theorem dz2:DOk [0,1] [1] [0,1]:=by
 refine ⟨by decide,by decide,by decide,bz1,[0,1],[],1,bz2,by decide,?_,by decide⟩;refine .step (by decide) (by decide) bz2 (by decide) (by decide) (by decide) ?_;exact .stop (by decide)
theorem dz1:DOk [1] [1] [1]:=by
 refine ⟨by decide,by decide,by decide,bz1,[1],[],1,bz1,by decide,?_,by decide⟩;refine .step (by decide) (by decide) bz1 (by decide) (by decide) (by decide) ?_;exact .stop (by decide)
theorem Qv2:Qd1 0 [[-(0:Rat).num,((0:Rat).den:Int)],[1]]:=by
 show Qd1 0 [[0,1],[1]];refine ⟨[0,1],?_⟩;show ChRun [0,1] [0,1] [[0,1],[1]];have e1:Tn [0,1]=[0,1]:=by decide
 have e2:Gx [0,1]=[1]:=by decide
 have e3:Tn [1]=[1]:=by decide
 have e4:Bn [1]=[1]:=by decide
 refine ⟨⟨1,λ_=>[0,1],⟨⟨1,[[0,1],[1]],?_,rfl,λk hk=>?_⟩,by decide⟩,λi hi=>?_,by decide⟩,⟨1,?_⟩,λz hz=>Qa (Q0f z hz) (by decide),by decide,by decide⟩
 ·rw [e1];refine .step (by decide) (by decide) (by show trim _=_; decide) bz2 (by show Bd _ (Gx [0,1]); rw [e2]; exact bz1) (m:=1) (g:=[1]) ?_ (by decide) (.stop (by decide));show GRun 1 (Tn [0,1]) (Tn (Gx [0,1])) [1];rw [e1,e2,e3];refine .step (by decide) (by decide) bz1 rz (by decide) (λz hz=>by cases hz) rfl ?_;rw [show Tn []=[] by decide];exact .stop _
 ·obtain rfl:k=0:=by omega
  exact ⟨[0,1],[1],[0,1],dz2,dz1,by rw [e1,e3]; exact dz2,e1.symm⟩
 ·obtain rfl:i=0:=by omega
  exact ⟨bz1,by decide,bz2,by decide⟩
 ·rw [e2,e4];refine .step (by decide) (by decide) bz1 (m:=1) (r:=[]) rz rfl (λz hz=>by cases hz) (by decide) (by decide) (by decide) ?_;exact .stop (by decide)
end Orr
namespace Orr
open Go Go.Proofs Tryz Orq
set_option maxRecDepth 10000
theorem Qhf {q:Rat} {c:Un}:Uj 266 [.one (.row []),.agg (aq q c)] [.one (.row [])]:=by
 refine Fv func266 rfl ?_;refine Ud [.z 5] rfl ?_;refine Ui (S:=Unit) 1 (λL1 _=>(10,.v (.oi 0))::(5,.v (.one (.row [])))::L1) (λ_=>[.blk 186 (aq q c)]) (λ_=>0) (λ_=>True) () trivial rfl rfl λ_ _=>?_
 exact Uf [.f rfl] rfl
theorem mE:Uj 268 [.one (.row [])] [.one (.row [])]:=by
 refine Fv func268 rfl ?_;refine Ud [.z 3] rfl ?_;refine Ui (S:=Unit) 0 (λL1 _=>(8,.v (.oi 0))::(3,.v (.one (.row [])))::L1) (λ_=>[]) (λ_=>0) (λ_=>True) () trivial rfl rfl λ_ _=>?_
 exact Uf [.f rfl] rfl
theorem Qhc:Uj 270 [.one (.row [])] [.one (.row [])]:=by
 refine Fv func270 rfl ?_;refine Ud [.z 3] rfl ?_;refine Ui (S:=Unit) 0 (λL1 _=>(8,.v (.oi 0))::(3,.v (.one (.row [])))::L1) (λ_=>[]) (λ_=>0) (λ_=>True) () trivial rfl rfl λ_ _=>?_
 exact Uf [.f rfl] rfl
theorem Qhg:Uj 273 [.one (.row [])] [.one (.row [])]:=by
 refine Fv func273 rfl ?_;refine Ud [.z 3,.k Qhc] rfl ?_;refine Ui (S:=Unit) 0 (λL1 _=>(11,.v (.oi 0))::(3,.v (.one (.row [])))::L1) (λ_=>[]) (λ_=>0) (λ_=>True) () trivial rfl rfl λ_ _=>?_
 exact Uf [.f rfl] rfl
section
variable {q:Rat} {c:Un}
theorem Qhe:Uj 238 [.one (.row []),.agg (aq q c)] [.one (.row [])]:=by
 refine Fv func238 rfl ?_;refine Ud [.k Qhf,.z 6] rfl ?_;refine Ui (S:=Unit) 1 (λL1 _=>(7,.v (.oi 0))::(6,.v (.one (.row [])))::L1) (λ_=>[.blk 186 (aq q c)]) (λ_=>0) (λ_=>True) () trivial rfl rfl λ_ _=>?_
 exact Uf [.f rfl,.k mE] rfl rfl (by simp [U3])
theorem Qus:Uj 239 [.one (.row []),.agg (aq q c)] [.one (.row [])]:=Ug func239 rfl [.t rfl,.z 4] rfl
theorem Qca:Uj 271 [.one (.row []),.agg (aq q c)] [.one (.row [])]:=Ug func271 rfl [.k Qhg,.t rfl] rfl
theorem Quo:Uj 240 [.one (.row []),.agg (aq q c)] [.one (.row [])]:=by
 refine Fv func240 rfl ?_;refine Ud [.k Qhe,.k Qca] rfl ?_;refine Ui (S:=Unit) 1 (λL1 _=>(7,.v (.oi 0))::(5,.v (.one (.row [])))::L1) (λ_=>[.blk 186 (aq q c)]) (λ_=>0) (λ_=>True) () trivial rfl rfl λ_ _=>?_
 exact Uf [.f rfl,.f rfl,.k mE] rfl
abbrev zPq:Ur:=[.row [],.row [],.row [],.row [],.bool false,.row [],.int .i64 0]
theorem Qb9:Uj 272 [.one (.row []),.agg (aq q c)] [.agg zPq,.agg zPq,.one (.bool false)]:=Ug func272 rfl [.k Qhc,.t rfl] rfl
theorem Quq:Uj 241 [.one (.row []),.agg (aq q c)] [.one (.row [])]:=Ug func241 rfl [.k Qb9,.t rfl,.z 4] rfl
theorem Qup:Uj 242 [.one (.row []),.agg (aq q c)] [.one (.row [])]:=by
 refine Fv func242 rfl ?_;refine Ud [.k Qhg,.z 6] rfl ?_;refine Ui (S:=Unit) 1 (λL1 _=>(15,.v (.oi 0))::(6,.v (.one (.row [])))::L1) (λ_=>[.blk 186 (aq q c)]) (λ_=>0) (λ_=>True) () trivial rfl rfl λ_ _=>?_
 exact Uf [.f rfl,.k mE] rfl
theorem UE (k:Nat) (hk:k<5):Uj 144 [.oi k,.one (.row []),.agg (aq q c)] [.one (.row [])]:=by
 refine (?_:Uj 198 [.oi k,.one (.row []),.agg (aq q c)] [.one (.row [])]->_) ?_
 ·intro h;exact Ug func144 rfl [.k h] rfl
 ·rcases (show k=0\/k=1\/k=2\/k=3\/k=4 by omega) with rfl | rfl | rfl | rfl | rfl
  ·exact Ug func198 rfl [.t rfl,.k Qhe] rfl
  ·exact Ug func198 rfl [.f rfl,.t rfl,.k Qus] rfl
  ·exact Ug func198 rfl [.f rfl,.f rfl,.t rfl,.k Quo] rfl
  ·exact Ug func198 rfl [.f rfl,.f rfl,.f rfl,.t rfl,.k Quq] rfl
  ·exact Ug func198 rfl [.f rfl,.f rfl,.f rfl,.f rfl,.k Qup] rfl
end
theorem DJ:Uj 143 [.one (.row []),.one (.row [])] [.one (.row [])]:=by
 refine Fv func143 rfl ?_;refine Ud [] rfl ?_;refine Ui (S:=Unit) 0 (λL1 _=>(9,.v (.oi 0))::L1) (λ_=>[]) (λ_=>0) (λ_=>True) () trivial rfl rfl λ_ _=>?_
 exact Uf [.f rfl] rfl
end Orr
namespace Orr
open Go Go.Proofs Tryz Orq
set_option maxRecDepth 10000
theorem kO {b:Int} (h:0<=b):0<=(0:Int)/\(0:Int)<=b:=⟨Yd _,h⟩
def IZ (np nd:Int):Es:=⟨np,nd,[],0,Qmr [] (tq 0),Qxm [] (tq 0),Qxk [] (tq 0),Qxl [] (tq 0),Qxj [] (tq 0)⟩
theorem YI:MOk []:=⟨λp h=>(by cases h),by decide,List.Pairwise.nil⟩
theorem Qi9 {np nd:Int} (h1:1<=np/\np<=6) (h2:0<=nd/\nd<=2):EOk 0 (IZ np nd):=by
 have hq:Qs 1640000 (0:Rat):=⟨by decide,by decide⟩;exact ⟨h1,h2,⟨YI,by show ((0:Nat):Int)<=np; omega,λp h=>(by cases h),λp h=>(by cases h)⟩,(show Qs 128 (0:Rat) from ⟨by decide,by decide⟩),At.begin okS YI hq,At.begin okT YI hq,At.begin okH YI hq,At.begin okP YI hq,At.begin okD YI hq,kO (Yd _),kO (Yd _),kO (Yd _),kO (Yd _),kO (Yd _)⟩
theorem Qe0 {np nd:Int} (h1:1<=np/\np<=6) (h2:0<=nd/\nd<=2):U6 prog 5 [.oi np,.oi nd] [] [.one (.ow 0 0),.oi 0] (enB 0 (IZ np nd)):=Qtk h1 h2
theorem Qwx:(WO (ZL PT) (IG PT) 3 600 (Qmr PT (tq 0)) (IG PT (tq 0)) 0).map (λx=>x.2.2)=some 1:=by decide +kernel
theorem Qq9:(Ty (tq 3) PT).map (·.id)=[2,1]:=by decide +kernel
theorem Qi3:MOk PT:=⟨Qzg,by decide,by unfold Nu PT; decide⟩
theorem Qww:cnt (ZL PT) 0 3=1:=by
 have hq:Qs 1640000 (0:Rat):=⟨by decide,by decide⟩;have ht:Qs 1640000 (3:Rat):=⟨by decide,by decide⟩;have S:=okS.st PT Qi3;have hv:=AG hq;have hP:=okS.cp PT Qi3;have hm:=vN hP;have hmu:=Qsk ((kS.al PT).flatMap IW) (tq 0);have hl:(Ek PT).length=8:=by rw [kE]; rfl
 have hc:¬Nv (tq 3) (tq 0):=λh'=>by
  have:=(HE hv.cut).2 h';rw [sV] at this;exact absurd this (by decide +kernel)
 have hl2:(kS.al PT).length=8:=hl;obtain ⟨c',r',E,g1,g2,g3,g4,g5,g6⟩:=Qsd S ht hP (λa _=>okS.al PT a) 599 ⟨tq 0,(Fo (ZL PT (tq 0))).map fresh,0⟩ (IG PT (tq 0)) 0 (Qa hmu (by omega)) (Qee S hv) hc;have h1:=Qwx;have g1:WO (ZL PT) (IG PT) 3 600 (Qmr PT (tq 0)) (IG PT (tq 0)) 0=some (c',r',0+((E.length:Nat):Int)):=g1;rw [g1] at h1;have h1:some (0+((E.length:Nat):Int))=some 1:=h1;injection h1 with h1;rw [Qgw S hv g6];omega
theorem Qjb:Crv.norm (Crv.mk [0,1] [] 0)=run1:=by
 have e:Crv.norm (Crv.mk [0,1] [] 1)=Crv.norm (Crv.mk [0,1] [] 0):=by simp only [Crv.norm,Crv.g,Crv.d']; rfl
 rw [<-e]; exact Crv.norm_of LN
theorem Qx3:Uj 29 [.one (.row [[.bool false,.row []],[.bool false,.row [[.int .u32 1]]]]),.one (.row [])] [.agg (cl run1)]:=by
 have i01:IsInts [[.bool false,.row []],[.bool false,.row [[.int .u32 1]]]] [0,1]:=by
  refine ⟨⟨_,_,rfl,false,[],rfl,rfl,(λx hx=>by cases hx),rfl⟩,⟨_,_,rfl,false,[1],rfl,rfl,(λx hx=>by rw [Qk.1 hx]; decide),rfl⟩,trivial⟩
 have h:=Qrx (lx:=[[.bool false,.row []],[.bool false,.row [[.int .u32 1]]]]) (ly:=[]) (px:=[0,1]) (py:=[]) i01 trivial ⟨U5 cs_run1.x (by decide),ZO,by show Fe 0<=_; decide,by show 2<=1073741824; decide,by show 0<=1073741824; decide⟩;rw [Qjb] at h; exact h
theorem Qp1:Ns 2 1 [] ⟨run1,1⟩=0:=by decide +kernel
theorem Qp2:Ns 2 1 [⟨run1,1⟩] ⟨O8 1 0,2⟩=0:=by decide +kernel
theorem Qwz:∃ E1 E2:Es,EOk 0 E2/\E2.m=⟨2,1,PT,0,0,0,0,0,0⟩/\EnD 28 [.one (.ow 0 0),.oi 1,.agg (cl run1)] (IZ 2 1) [.oi 0] E1/\EnD 28 [.one (.ow 0 0),.oi 2,.agg (cl (O8 1 0))] E1 [.oi 0] E2:=by
 have h0:=Qi9 (np:=2) (nd:=1) (by decide) (by decide);have hst:=tR (x:=1) (y:=0) (by decide) (by decide);have e1:Crv.norm (Crv.mk run1.x run1.y run1.d)=run1:=Crv.norm_of LN;have e2:Crv.norm (Crv.mk (O8 1 0).x (O8 1 0).y (O8 1 0).d)=O8 1 0:=Crv.norm_of hst.n;obtain ⟨E1,a1,a2,a3⟩:=DX h0 (id:=1) (Gn run1.x) (Gn run1.y) (U4 run1.d) (cs_run1.up (by decide) (by decide));rw [e1] at a2 a3;have i1:(IZ 2 1).m.ins ⟨run1,1⟩=((⟨2,1,[⟨run1,1⟩],0,0,0,0,0,0⟩:Em),0):=by
  unfold Em.ins;rw [show Ns (IZ 2 1).m.np (IZ 2 1).m.nd (IZ 2 1).m.M ⟨run1,1⟩=0 from Qp1,if_pos rfl]; rfl
 rw [i1] at a2 a3;obtain ⟨E2,b1,b2,b3⟩:=DX a1 (id:=2) (Gn (O8 1 0).x) (Gn (O8 1 0).y) (U4 (O8 1 0).d) (hst.c.mono (by decide) (by decide));rw [e2,a2] at b2 b3;have i2:((⟨2,1,[⟨run1,1⟩],0,0,0,0,0,0⟩:Em),(0:Int)).1.ins ⟨O8 1 0,2⟩=((⟨2,1,PT,0,0,0,0,0,0⟩:Em),0):=by
  unfold Em.ins;dsimp only;rw [Qp2,if_pos rfl]; rfl
 rw [i2] at b2 b3;exact ⟨E1,E2,b1,b2,a3,b3⟩
theorem Qiv {E:Es} {A:Em} (h:E.m=A):E.np=A.np/\E.nd=A.nd/\E.M=A.M/\E.q=A.q/\E.s.ev=A.s/\E.t.ev=A.t/\E.h.ev=A.h/\E.p.ev=A.p/\E.d.ev=A.d:=by subst h; exact ⟨rfl,rfl,rfl,rfl,rfl,rfl,rfl,rfl,rfl⟩
theorem Qd4 {A:Em} {t:Rat} (h1:Qs 128 t) (h2:¬t<A.q):A.adv t=(({ A with q:=t,s:=A.s+(cnt (ZL A.M) A.q t:Nat),t:=A.t+(cnt (AD A.M) A.q t:Nat),h:=A.h+(cnt (NA A.M) A.q t:Nat),p:=A.p+(cnt (sL A.M) A.q t:Nat),d:=A.d+(cnt (xF A.M) A.q t:Nat) }:Em),0):=by
 unfold Em.adv; rw [if_pos h1]; exact if_neg h2
theorem Bw:Uj 6 [] [.one (.bool true)]:=by
 obtain ⟨E1,E2,h2,m2,i1,i2⟩:=Qwz;have ht:Qs 128 (3:Rat):=⟨by decide,by decide⟩;obtain ⟨E3,h3,m3,_,a3⟩:=YN h2 (by decide) (U4 (3:Rat).num) (U4 ((3:Rat).den:Int)) (by decide) (by decide) (Su 3);rw [m2,Qd4 ht (by show ¬(3:Rat)<0; decide)] at m3 a3;obtain ⟨_,_,e1,e2,e3,_⟩:=Qiv m2;obtain ⟨_,_,f1,f2,f3,_⟩:=Qiv m3;dsimp only at e1 e2 e3 f1 f2 f3;rw [Qww] at f3;have t2:=BB (np:=E2.np) (nd:=E2.nd) (M:=E2.M) (q:=E2.q) (s:=E2.s) (t:=E2.t) (h:=E2.h) (p:=E2.p) (d:=E2.d) h2.m.m.ln;have t3:=BB (np:=E3.np) (nd:=E3.nd) (M:=E3.M) (q:=E3.q) (s:=E3.s) (t:=E3.t) (h:=E3.h) (p:=E3.p) (d:=E3.d) h3.m.m.ln;obtain ⟨A2,hA2⟩:=nmE (Qd7 E2.M E2.q);obtain ⟨A3,hA3⟩:=nmE (Qd7 E3.M E3.q);rw [<-hA2] at t2;rw [<-hA3] at t3;have g2:∃ a b c d,A2=[ids [1,2],.row a,.row b,.row c,.row d]:=by
  rw [hA2,e1,e2];show ∃ a b c d,[ids ((Ty (tq 0) PT).map (·.id)),_,_,_,_]=_;rw [Qwy];exact ⟨_,_,_,_,rfl⟩
 have g3:∃ a b c d,A3=[ids [2,1],.row a,.row b,.row c,.row d]:=by
  rw [hA3,f1,f2];show ∃ a b c d,[ids ((Ty (tq 3) PT).map (·.id)),_,_,_,_]=_;rw [Qq9];exact ⟨_,_,_,_,rfl⟩
 obtain ⟨a,b,c,d,rfl⟩:=g2;obtain ⟨a',b',c',d',rfl⟩:=g3;have cs:=Qfg (a:=[1,2]) (b:=[1,2]) (by decide) (by decide);have cs2:=Qfg (a:=[2,1]) (b:=[2,1]) (by decide) (by decide);have co:=KR (n:=3) (by decide);have ct:=wR (q:=3) ⟨by decide,by decide⟩;have cst:=Qnk (x:=1) (y:=0) (by decide) (by decide);have ce:=wY (np:=E3.np) (nd:=E3.nd) (M:=E3.M) (q:=E3.q) (s:=E3.s) (t:=E3.t) (h:=E3.h) (p:=E3.p) (d:=E3.d);rw [f3] at ce;refine Fv func6 rfl ?_;exact Uf [.c Uv (Qe0 (by decide) (by decide)),.f rfl,.f rfl,.z 16,.k Qx3,.c Uv i1,.f rfl,.k cst,.c Uv i2,.f rfl,.c Uv t2,.k co,.k ct,.c Uv a3,.t rfl,.k cs,.t rfl,.c Uv t3,.k cs2,.t rfl,.c Uv ce,.i 0] rfl rfl (by simp [U3])
abbrev cC:Un:=[[-(0:Rat).num,((0:Rat).den:Int)],[1]]
abbrev Qx5:Ur:=[.nils,.nils,.nils,.bool false,.nils,.bool false,.nils,.bool false,.nils,.bool false,.nils,.int .i64 0,.nils]
abbrev Qx6:Ur:=aq 0 cC++[.row [],.int .i64 0,.nils]
abbrev Qko (k i:Nat):Ur:=match Nat.blt k i with
 | true=>Qx6
 | false=>Qx5
abbrev mdl (np nd:Int) (i:Nat):Ur:=[.int .i64 np,.int .i64 nd,.nils]++fr 0++Qko 0 i++Qko 1 i++Qko 2 i++Qko 3 i++Qko 4 i
set_option maxHeartbeats 4000000 in
theorem Qev {np nd:Int}:U6 prog 86 [.one (.ow 0 0)] [.blk 193 (mdl np nd 0)] [] [.blk 193 (mdl np nd 5)]:=by
 have hq:Qs 2000000 (0:Rat):=⟨by decide,by decide⟩;have cr:=wN hq Qv2;refine Fv func86 rfl ?_;refine Ud [.k cr] rfl ?_;refine Ui (S:=Nat) 2 (λL1 i=>(9,.v (.oi i))::L1) (λi=>[.blk 193 (mdl np nd i),.blk 186 (aq 0 cC)]) (λi=>5-i) (λi=>i<=5) 0 (by decide) rfl rfl λi hi=>?_
 rcases (show i=0\/i=1\/i=2\/i=3\/i=4\/i=5 by omega) with rfl | rfl | rfl | rfl | rfl | rfl
 ·exact go tt [.t rfl,.i 0,.i 0,.i 0,.k (UE 0 (by decide)),.k DJ,.i 0] rfl (by simp [U3]) (rd 1 (by omega) (by omega) rfl)
 ·exact go tt [.t rfl,.i 1,.i 1,.i 1,.k (UE 1 (by decide)),.k DJ,.i 1] rfl (by simp [U3]) (rd 2 (by omega) (by omega) rfl)
 ·exact go tt [.t rfl,.i 2,.i 2,.i 2,.k (UE 2 (by decide)),.k DJ,.i 2] rfl (by simp [U3]) (rd 3 (by omega) (by omega) rfl)
 ·exact go tt [.t rfl,.i 3,.i 3,.i 3,.k (UE 3 (by decide)),.k DJ,.i 3] rfl (by simp [U3]) (rd 4 (by omega) (by omega) rfl)
 ·exact go tt [.t rfl,.i 4,.i 4,.i 4,.k (UE 4 (by decide)),.k DJ,.i 4] rfl (by simp [U3]) (rd 5 (by omega) (by omega) rfl)
 ·exact Uh [] [0] [.f rfl] rfl
theorem Qtq {np nd:Int} (h1:1<=np/\np<=6) (h2:0<=nd/\nd<=2):U6 prog 44 [.oi np,.oi nd] [] [.one (.ow 0 0),.oi 0] [.blk 193 (mdl np nd 5)]:=by
 have co:=KR (n:=0) (by decide);rw [show ((0:Int):Rat)=0 from rfl] at co;refine Fv func44 rfl ?_;exact Uh [] [0] [.F,.f (by simp; omega),.f (by simp; omega),.f (by simp; omega),.k co,.c [0] Qev] rfl
theorem Qmv {a b:Int} (ha:-9223372036854775808<=a/\a<=9223372036854775807) (hb:-9223372036854775808<=b/\b<=9223372036854775807):∃ (N nd:Int) (ms:Ur),(1<=N/\N<=4)/\(0<=nd/\nd<=2)/\EOk 0 (IZ N nd)/\N=1+Tz a 4/\nd=Tz b 3 /\
 U6 prog 15 [.oi a,.oi b] [] [.agg [.ow 0 0,.sh ms,.int .i64 N],.one (.bool true)] (enB 0 (IZ N nd)):=by
 have w1:=Iq (v:=a) (n:=4) (by decide);have w2:=Iq (v:=b) (n:=3) (by decide);have c1:=D9 (v:=a) (n:=4) ha (by decide);have c2:=D9 (v:=b) (n:=3) hb (by decide);obtain ⟨N,hN⟩:=nmE (1+Tz a 4);obtain ⟨nd,hnd⟩:=nmE (Tz b 3);have hN4:1<=N/\N<=4:=by omega
 have hd2:0<=nd/\nd<=2:=by omega
 have cn:=Qe0 (np:=N) (nd:=nd) (by omega) hd2;have cm:=Qtq (np:=N) (nd:=nd) (by omega) hd2;refine ⟨N,nd,mdl N nd 5,hN4,hd2,Qi9 (by omega) hd2,hN,hnd,?_⟩;refine Fv func15 rfl ?_;exact Uh [8] [1,2,3,4,5,6,7] [.k c1,.r 12 (eI hN.symm),.k c2,.r 14 (eI hnd.symm),.c Uw cn,.c [8] cm,.t rfl,.t rfl] rfl (by simp [U3]; omega)
theorem kA {β:Type} {k:Knd β} {M:List Pt} {q:Rat} {c:Cr} (h:At k M q c):Iu c.l=Fo (Fo (k.bc M (tq q))):=by
 unfold Iu; rw [h.st.cs,h.now]
def SJ (M:List Pt) (q:Rat):List Ct:=Fo (Fo (ZL M (tq q)))++Fo (Fo (AD M (tq q)))++Fo (Fo (NA M (tq q)))++Fo (Fo (sL M (tq q)))++Fo (Fo (xF M (tq q)))
theorem uP {E:Es} {b:Int} (h:EOk b E):EnD 14 [.one (.ow 0 0)] E [.one (.row (U8 (SJ E.M E.q)))] E:=by
 have hc:=Qmx (np:=E.np) (nd:=E.nd) (M:=E.M) (q:=E.q) h.s.st.inv.ok h.t.st.inv.ok h.h.st.inv.ok h.p.st.inv.ok h.d.st.inv.ok;have e:Iu E.s.l++Iu E.t.l++Iu E.h.l++Iu E.p.l++Iu E.d.l=SJ E.M E.q:=by
  rw [kA h.s,kA h.t,kA h.h,kA h.p,kA h.d]; rfl
 rw [e] at hc;exact hc
theorem Qgo {E:Es} {b:Int} (h:EOk b E):(∀ c∈SJ E.M E.q,Cp c.p)/\(SJ E.M E.q).length≤1000000:=by
 have hv:Va (tq E.q):=AG (h.q.mono (by decide));have S1:=okS.st _ h.m.m;have S2:=okT.st _ h.m.m;have S3:=okH.st _ h.m.m;have S4:=okP.st _ h.m.m;have S5:=okD.st _ h.m.m;constructor
 ·intro c hc;unfold SJ at hc;simp only [Qr] at hc;rcases hc with (((hc | hc) | hc) | hc) | hc
  ·exact S1.ok.p _ hv c (Tc (Tc hc))
  ·exact S2.ok.p _ hv c (Tc (Tc hc))
  ·exact S3.ok.p _ hv c (Tc (Tc hc))
  ·exact S4.ok.p _ hv c (Tc (Tc hc))
  ·exact S5.ok.p _ hv c (Tc (Tc hc))
 ·unfold SJ;simp only [Qu,Mx];have:=S1.ok.n _ hv; have:=S2.ok.n _ hv; have:=S3.ok.n _ hv; have:=S4.ok.n _ hv; have:=S5.ok.n _ hv;have e1:(kS.bc E.M (tq E.q)).length=(ZL E.M (tq E.q)).length:=rfl;have e2:(kT.bc E.M (tq E.q)).length=(AD E.M (tq E.q)).length:=rfl;have e3:(kH.bc E.M (tq E.q)).length=(NA E.M (tq E.q)).length:=rfl;have e4:(kP.bc E.M (tq E.q)).length=(sL E.M (tq E.q)).length:=rfl;have e5:(kD.bc E.M (tq E.q)).length=(xF E.M (tq E.q)).length:=rfl;omega
abbrev Qut (E F:Es):Ut:=en2 E.np E.nd E.M E.q E.s E.t E.h E.p E.d F.np F.nd F.M F.q F.s F.t F.h F.p F.d
theorem Qvx {E:Es} {b:Int} (h:EOk b E):∀ x∈E.M,Qav 4294967294 1073741824 x:=λx hx=>by
 have:=h.m.m.sc x hx;exact ⟨this.n,this.c.mono (by decide) (by decide)⟩
theorem Qur {E F:Es} {b:Int} (h:EOk b E) (hM:F.M=E.M) (hq:F.q=E.q):U6 prog 19 [.one (.ow 0 0),.one (.ow 7 0)] (Qut E F) [.one (.bool true)] (Qut E F):=by
 obtain ⟨np,nd,M,q,s,t,v,p,d⟩:=F;dsimp only at hM hq;subst hM hq;exact Qm0 h.m.m.ln (Qvx h) h.q
theorem Qoq {E:Es} {b:Int} (h:EOk b E):U6 prog 17 [.one (.ow 0 0)] (enB 0 E) [.one (.ow 7 0)] (Qut E E):=xP h.q
abbrev Q0g (A:Em):Ur:=[.int .i64 A.s,.int .i64 A.t,.int .i64 A.h,.int .i64 A.p,.int .i64 A.d]
theorem uM {E:Es}:EnD 12 [.one (.ow 0 0)] E [.agg (Q0g E.m)] E:=wY
abbrev en1 (E:Es):Ut:=[.blk 51 (uL 1 E.q),tB E.np E.nd E.M,bS E.s E.M E.q,bT E.t E.M E.q,bH E.h E.M E.q,bP E.p E.M E.q,bD E.d E.M E.q]
set_option maxHeartbeats 8000000 in
theorem CH {a b:Int} {l:List RawOp} {o:RawOp} (ha:-9223372036854775808≤a/\a≤9223372036854775807) (hb:-9223372036854775808≤b/\b≤9223372036854775807) (hl:∀ x∈l,x.Ok) (ho:o.Ok):Uj 4 [.oi a,.oi b,.one (.row (qM l)),.agg (rwo o)] [.one (.bool true)]:=by
 obtain ⟨N,nd,ms,hN,hnd,h0,_,_,cb⟩:=Qmv ha hb;have hll:=Qc0 l;have wk:=D9 (v:=o.k) (n:=12) ho.k (by decide);refine Fv func4 rfl (ln 2 rfl rfl λhcl=>?_);rw [hll] at hcl;refine Ud [.c Uw cb,.f rfl] rfl ?_;refine Ui (S:=Nat×Es) 9 (λL1 s=>(11,.v (.oi (s.1:Int)))::L1) (λs=>[.blk 64 (rwo o),.blk 51 (uL 1 s.2.q),tB s.2.np s.2.nd s.2.M,bS s.2.s s.2.M s.2.q,bT s.2.t s.2.M s.2.q,bH s.2.h s.2.M s.2.q,bP s.2.p s.2.M s.2.q,bD s.2.d s.2.M s.2.q,.blk 67 [.ow 1 0,.sh ms,.int .i64 N]]) (λs=>6-s.1) (λs=>s.1<=6/\s.1<=l.length/\EOk (67000000*s.1) s.2) (0,IZ N nd) ⟨by show 0<=6; decide,Qh _,h0.mono (show (0:Int)<=67000000*((0:Nat):Int) by decide)⟩ rfl rfl λ⟨i,E⟩ ⟨hi,hi2,hE⟩=>?_
 dsimp only at hi hi2 hE ⊢;by_cases hr:i<l.length/\i<6
 ·obtain ⟨x,hx⟩:=gxE (l:=l) (i:=i) hr.1;obtain ⟨E',e1,e2,e3⟩:=aQ (ms:=ms) hE (by omega) hN (hl x (Qc hx));refine Ue [.T,.T,.x (Qcz hx),.c Uw e3] rfl ?_;have e:67000000*(i:Int)+67000000=67000000*((i+1:Nat):Int):=by omega
  rw [e] at e1;exact rd (i+1,E') (by dsimp only; omega) ⟨hr.2,hr.1,e1⟩ rfl
 obtain ⟨F,f1,f2,f3⟩:=aQ (ms:=ms) hE (by omega) hN ho;have ccl:=Qoq hE;have cC1:=uP hE;have cC2:=uP f1;have cE1:=uM (E:=E);have cE2:=uM (E:=F);obtain ⟨hcp,hcn⟩:=Qgo hE;have csc:=Qfh hcp hcn;have hW:=Iq (v:=o.k) (n:=12) (by decide);obtain ⟨err,herr⟩:=nmE ((aloneF N o E.m).2);rw [<-herr] at f3;by_cases hgood:err=0/\Tz o.k 12≠9/\Tz o.k 12≠11
 ·obtain ⟨g1,g2,g3⟩:=hgood;rw [g1] at f3;by_cases hj:i<l.length
  ·exact Uf [.T,.F,.c Uy ccl,.f rfl,.c Uw f3,.t rfl,.k wk,.t (decide_eq_true g2),.k wk,.t (decide_eq_true g3),.k Bw] rfl
  ·exact Uf [.F,.f rfl,.c Uy ccl,.f rfl,.c Uw f3,.t rfl,.k wk,.t (decide_eq_true g2),.k wk,.t (decide_eq_true g3),.k Bw] rfl
 have hm:F.m=E.m:=by
  rw [f2];by_cases he:err=0
  ·exact Qax (by omega)
  ·exact Qay (by rw [<-herr]; exact he)
 obtain ⟨_,_,q1,q2,_⟩:=Qiv hm;have q1:F.M=E.M:=q1;have q2:F.q=E.q:=q2;rw [hm] at cE2;have eC:SJ F.M F.q=SJ E.M E.q:=by rw [q1,q2]
 rw [eC] at cC2;have csm:=Qur (E:=F) (F:=E) f1 q1.symm q2.symm;by_cases he:err=0
 ·rw [he] at f3;by_cases h9:Tz o.k 12=9
  ·by_cases hj:i<l.length
   ·exact Uf [.T,.F,.c Uy ccl,.f rfl,.c Uw f3,.t rfl,.k wk,.f (decide_eq_false λh=>h h9),.f rfl,.c Uy csm,.t rfl,.c Uw cE2,.c Ux cE1,.t (decide_eq_true rfl),.c Uw cC2,.c Ux cC1,.k csc,.t rfl,.k Bw] rfl
   ·exact Uf [.F,.f rfl,.c Uy ccl,.f rfl,.c Uw f3,.t rfl,.k wk,.f (decide_eq_false λh=>h h9),.f rfl,.c Uy csm,.t rfl,.c Uw cE2,.c Ux cE1,.t (decide_eq_true rfl),.c Uw cC2,.c Ux cC1,.k csc,.t rfl,.k Bw] rfl
  ·have h11:Tz o.k 12=11:=by omega
   by_cases hj:i<l.length
   ·exact Uf [.T,.F,.c Uy ccl,.f rfl,.c Uw f3,.t rfl,.k wk,.t (decide_eq_true h9),.k wk,.f (decide_eq_false λh=>h h11),.c Uy csm,.t rfl,.c Uw cE2,.c Ux cE1,.t (decide_eq_true rfl),.c Uw cC2,.c Ux cC1,.k csc,.t rfl,.k Bw] rfl
   ·exact Uf [.F,.f rfl,.c Uy ccl,.f rfl,.c Uw f3,.t rfl,.k wk,.t (decide_eq_true h9),.k wk,.f (decide_eq_false λh=>h h11),.c Uy csm,.t rfl,.c Uw cE2,.c Ux cE1,.t (decide_eq_true rfl),.c Uw cC2,.c Ux cC1,.k csc,.t rfl,.k Bw] rfl
 ·by_cases hj:i<l.length
  ·exact Uf [.T,.F,.c Uy ccl,.f rfl,.c Uw f3,.f (decide_eq_false he),.f rfl,.f rfl,.c Uy csm,.t rfl,.c Uw cE2,.c Ux cE1,.t (decide_eq_true rfl),.c Uw cC2,.c Ux cC1,.k csc,.t rfl,.k Bw] rfl
  ·exact Uf [.F,.f rfl,.c Uy ccl,.f rfl,.c Uw f3,.f (decide_eq_false he),.f rfl,.f rfl,.c Uy csm,.t rfl,.c Uw cE2,.c Ux cE1,.t (decide_eq_true rfl),.c Uw cC2,.c Ux cC1,.k csc,.t rfl,.k Bw] rfl
end Orr
namespace Orr
open Go Go.Proofs Tryz
variable {H:Type} {enc:TypeId×Value->H} {w:World} {base:Nat} {spare:Nat->Bool} {held:Bool}
theorem So {α:Type} {l:List α} {n i:Nat} (h:l.length=n) (hi:i<n):∃ x,l[i]? = some x:=⟨l[i]'(by omega),Qe (by omega)⟩
end Orr
namespace Orr
open Go Go.Proofs Tryz Go.ChangeShapes Go.WideShapes Go.ChangeAt Go.RowKit Go.WideElems
theorem Qob {w:World} {a:Addr} {v:Value} (h:w.cell? a=some v):a.spot=none/\a.block<w.heap.size:=by
 simp only [World.cell?] at h
 split at h
 ·rename_i c t fr hc
  split at h
  ·cases h
  ·rename_i hs;refine ⟨by cases e:a.spot with | none=>rfl | some _=>simp [e] at hs,?_⟩;exact (Array.getElem?_eq_some_iff.1 hc).1
 ·cases h
theorem Qmi {a:Addr} (h:a.spot=none) (n m:Nat):(a.add n).add m=⟨a.block,a.off+n+m,none⟩:=by
 obtain ⟨b,o,s⟩:=a;simp only at h;subst h;simp only [Addr.add]
 split
 ·rename_i h; subst h
  split
  ·rename_i h; subst h; simp
  ·simp
 ·split
  ·rename_i h; subst h; simp
  ·simp
def fr0 (w:World):Fr:=⟨λb=>b<w.heap.size,λ_=>False,w,λ_=>False,λ_=>none⟩
theorem AP (w:World):HS (fr0 w) (ob []) (nw []) (λ_=>none) (λ_=>False) w where
 size:=Ql _
 kept:=λb hb=>⟨hb,rfl,Iff.rfl⟩
 ids:=λi h=>h.elim
 nj:=λi h=>by rw [yS] at h; cases h
 io:=⟨rfl,rfl⟩
 blk:=λi=>by rw [yS]; trivial
 nk:=λi g c m h _=>by rw [yS] at h; cases h
 inj:=λi j g c m c' m' h _ _ _=>by rw [yS] at h; cases h
 mlt:=λb h=>h.elim
 m0:=λb _ h=>h.elim
 un:=λi _=>⟨rfl,rfl⟩
 uj:=λi _ h=>h.elim
theorem Qqk {w w':World} {bl:Nat->OB} {U:Nat->Prop} {E:Cc} {M:Nat->Prop} (h:HS (fr0 w) bl U E M w') {p:MemPlace} (hp:p.block<w.heap.size):w.sameAt w' p:=by
 cases p with
 | cell b off=>simp only [World.sameAt,World.cell?]; rw [(h.kept b hp).2.1]; rfl
 | map b=>exact (h.kept b hp).2.1
theorem Qo3 {w w':World} {bl:Nat->OB} {U:Nat->Prop} {E:Cc} {M:Nat->Prop} (h:HS (fr0 w) bl U E M w') (may:MemPlace->Prop):w.keptBut w' may:=by
 refine ⟨h.io.1,h.io.2,λi hi=>?_⟩;have e:w'.heap[i]? = w.heap[i]? := (h.kept i hi).2.1;rw [e];cases w.heap[i]? with
 | none=>rfl
 | some o=>cases o <;> simp
theorem YX {H:Type} {P:Program} {e:TypeId}:∀ {l:List (DataW H)} {i:Nat} {d:DataW H},l[i]? = some d->∀ n∈d.weights P e,n∈DataW.weightsAll P e l
 | [],i,d,h,_,_=>by simp at h
 |
  x::l,0,d,h,n,hn=>by
  simp at h; subst h;simp only [DataW.weightsAll,Qr]; exact .inl hn
 |
  x::l,i+1,d,h,n,hn=>by
  simp only [DataW.weightsAll,Qr];exact .inr (YX (i:=i) (by simpa using h) n hn)
theorem Ml {H:Type} {P:Program} {t:TypeId} {fs:Array Field} {parts:List (DataW H)} (hu:P.underlying t=some (.struct fs)) (hz:((DataW.agg parts).weights P t).all (· <= reachBytes)=true) {i:Nat} {f:Field} {d:DataW H} (hf:fs[i]? = some f) (hd:parts[i]? = some d) :
 (d.weights P f.type).all (· <= reachBytes)=true:=by
 rw [Jt] at hz ⊢;intro n hn;refine hz n ?_;simp only [DataW.weights,hu];exact DataW.weights_mem_each (j:=i) (by rw [Q8]; simp [hf]) hd n hn
variable {H:Type} {enc:TypeId×Value->H} {w:World}
abbrev O0:Nat->Prop:=λ_=>False
def kF (w:World) (cs:List Value) (ls:Ur):Prop:=cs.length=ls.length/\∀ (j:Nat) (u:LV),ls[j]? = some u->∃ v,cs[j]? = some v/\LRep w O0 v u
theorem GF {α:Type} {rw_:α->Ur} {Ok:α->Prop} {t e sz:Nat} (hu:prog.underlying t=some (.slice e)) (hc:prog.cellsOf e=sz) (hsz:0<sz) (hb:1<=prog.bytesOf e) (hw:∀ z,(rw_ z).length=sz)
 (elem:∀ fuel cs x,DataW.trod enc prog w 0 (λ_=>true) true fuel e cs=some x->(x.1.weights prog e).all (· <= reachBytes)=true->∃ z,Ok z/\kF w cs (rw_ z))
 {fuel:Nat} {cs:List Value} {x:DataW H×List MemPlace} (h:DataW.trod enc prog w 0 (λ_=>true) true fuel t cs=some x) (hz:(x.1.weights prog t).all (· <= reachBytes)=true) :
 ∃ (v:Value) (l:List α),cs=[v]/\(∀ z∈l,Ok z)/\l.length<2^47/\LRep w O0 v (.row (l.map rw_)):=by
 rcases Go.Deep.open_slice hu h with ⟨rfl,_⟩ | ⟨a',len,cap,m,n,D,Pl,rfl,_,hlc,hcap,hm,rfl,hr⟩
 ·refine ⟨_,[],rfl,by simp,Nat.two_pow_pos 47,?_⟩;exact LRep.row none 0 0 0 0 [] (λ_ _=>.bool true) (Ql _) (by decide) (by simp) (by simp) (by simp) (by simp)
 ·simp only [if_true] at hm;subst hm;rw [Jt] at hz;have hlen:len<2^47:=by
   have h0:=hz ((len+(m-len))*prog.bytesOf e) (by simp [DataW.weights,hu]);have h1:len<=(len+(m-len))*prog.bytesOf e:=by
    have:=Zc (Kw len (m-len)) hb;omega
   have h2:(len+(m-len))*prog.bytesOf e<=reachBytes:=by simpa using h0
   exact Z3 (Qa h1 h2) reachBytes_lt
  have hel:∀ i,i<len->((D i).weights prog e).all (· <= reachBytes)=true:=λi hi=>by
   rw [Jt];intro k hk;refine hz k ?_;simp only [DataW.weights,hu];refine Qg _ (Qr.2 (.inl (YX (i:=i) ?_ k hk)));rw [Q8,X2 hi]; rfl
  have hone:∀ i,i<len->∃ z cs',Ok z/\kF w cs' (rw_ z)/\∀ j,j<sz->w.cell? ((a'.add (i*sz)).add j)=cs'[j]? := λi hi=>by
   obtain ⟨cs',hcs,htr⟩:=hr i (by omega);rw [hc] at hcs;obtain ⟨_,hl,hcell⟩:=World.cells?_some hcs;obtain ⟨z,hz1,hz2⟩:=elem _ _ _ htr (hel i hi);refine ⟨z,cs',hz1,hz2,λj hj=>?_⟩;rw [hcell j (by omega)]
  have hspot:0<len->a'.spot=none/\a'.block<w.heap.size:=λh0=>by
   obtain ⟨z,cs',_,⟨hl,_⟩,h3⟩:=hone 0 h0;have h4:=h3 0 hsz;have:(a'.add (0*sz)).add 0=a':=by simp [Addr.add]
   rw [this,Qe (by rw [hl,hw]; exact hsz)] at h4;exact Qob h4
  obtain ⟨l,hll,hl⟩:∃ l:List α,l.length=len/\∀ i z,l[i]? = some z->Ok z/\∃ cs',kF w cs' (rw_ z)/\∀ j,j<sz->w.cell? ((a'.add (i*sz)).add j)=cs'[j]? := by
   have:∀ k,k<=len->∃ l:List α,l.length=k/\∀ i z,l[i]? = some z->Ok z/\∃ cs',kF w cs' (rw_ z)/\∀ j,j<sz->w.cell? ((a'.add (i*sz)).add j)=cs'[j]? := by
    intro k
    induction k with
    | zero=>intro _; exact ⟨[],rfl,λi z h=>by simp at h⟩
    |
     succ k ih =>
     intro hk;obtain ⟨l,h1,h2⟩:=ih (by omega);obtain ⟨z,cs',h3,h4,h5⟩:=hone k (by omega);refine ⟨l++[z],by simp [h1],λi y hy=>?_⟩;rcases Zb i l.length with hi | hi
     ·rw [Zi hi] at hy; exact h2 i y hy
     ·rw [Z8 hi] at hy;have:i-l.length=0:=by
       rcases Q3 (i-l.length) with h | h
       ·exact h
       ·rw [Qw (by rw [Vr]; exact h)] at hy; cases hy
      rw [this] at hy;simp at hy;subst hy;have:i=k:=by omega
      subst this;exact ⟨h3,cs',h4,h5⟩
   exact this len (Ql _)
  refine ⟨_,l,rfl,λz hz=>?_,by rw [hll]; exact hlen,?_⟩
  ·obtain ⟨i,hi⟩:=Zk.1 hz;exact (hl i z hi).1
  ·have key:LRep w O0 (.slice (some a') (l.map rw_).length m) (.row (l.map rw_)):=by
    have hgl:∀ i c,(l.map rw_)[i]? = some c->∃ z,l[i]? = some z/\c=rw_ z/\i<len:=λi c h=>by
     rw [Q8] at h;cases e:l[i]? with
     | none=>rw [e] at h; cases h
     | some z=>rw [e] at h; simp at h; exact ⟨z,rfl,h.symm,by have:=(Qf.1 e).1; omega⟩
    have hcl:∀ i c,(l.map rw_)[i]? = some c->∃ cs':List Value,kF w cs' c/\∀ j,j<sz->w.cell? ⟨a'.block,a'.off+i*sz+j,none⟩=cs'[j]? := λi c h=>by
     obtain ⟨z,hz,rfl,hi⟩:=hgl i c h;obtain ⟨_,cs',h1,h2⟩:=hl i z hz;refine ⟨cs',h1,λj hj=>?_⟩;rw [<-h2 j hj,Qmi (hspot (by omega)).1]
    refine LRep.row (some a') m sz a'.block a'.off (l.map rw_) (λi j=>(w.cell? ⟨a'.block,a'.off+i*sz+j,none⟩).getD (.bool true)) (by rw [Q9]; omega) ?_ ?_ ?_ ?_ ?_
    ·have:maxLen=2^63-1:=by rfl
     omega
    ·intro c hc2;obtain ⟨z,_,rfl⟩:=Za.1 hc2;exact hw z
    ·intro h0;rw [Q9,hll] at h0;obtain ⟨hs,hb⟩:=hspot h0;refine ⟨?_,hb,by simp [O0]⟩;obtain ⟨b,o,s⟩:=a';simp only at hs;rw [hs]
    ·intro i c hi j hj;obtain ⟨z,_,rfl,_⟩:=hgl i c hi;obtain ⟨cs',⟨h1,_⟩,h2⟩:=hcl i _ hi;have hjs:j<sz:=by rw [<-hw z]; exact hj
     rw [h2 j hjs,Qe (by rw [h1]; exact hj)]; rfl
    ·intro i c hi j u hu2;obtain ⟨z,_,rfl,_⟩:=hgl i c hi;obtain ⟨cs',⟨h1,h3⟩,h2⟩:=hcl i _ hi;obtain ⟨v,hv,hr2⟩:=h3 j u hu2;have hjs:j<sz:=by rw [<-hw z]; exact (Qf.1 hu2).1
     show LRep w O0 ((w.cell? ⟨a'.block,a'.off+i*sz+j,none⟩).getD (.bool true)) u;rw [h2 j hjs,hv]; exact hr2
   rw [Q9,hll] at key;exact key
abbrev Qze (x:Nat):Ur:=[.int .u32 (x:Int)]
theorem Qlk:∀ fuel cs x,DataW.trod enc prog w 0 (λ_=>true) true fuel 91 cs=some x->(x.1.weights prog 91).all (· <= reachBytes)=true->∃ z:Nat,z<4294967296/\kF w cs (Qze z):=by
 intro fuel cs x h _;obtain ⟨n,rfl,_,hwf⟩:=DataW.trod_int underlying91 h;have hn:0<=n/\n<4294967296:=by
  have:0<=n/\n<=4294967295:=by simpa [Lit.wf,IntKind.min,IntKind.max,IntKind.signed,IntKind.bits] using hwf
  omega
 refine ⟨n.toNat,by omega,rfl,λj u hu=>?_⟩
 match j,hu with
 |
  0,hu =>
  simp at hu; subst hu;refine ⟨_,rfl,?_⟩;rw [show max n 0=n by omega];exact .int _ _
 | j+1,hu=>simp at hu
set_option maxRecDepth 20000 in
theorem XN:∀ fuel cs x,DataW.trod enc prog w 0 (λ_=>true) true fuel 36 cs=some x->(x.1.weights prog 36).all (· <= reachBytes)=true->∃ z:RawInt,z.Ok/\kF w cs (Eb z):=by
 intro fuel cs x h hz;obtain ⟨xs,n,_,rfl,hl,hxs,hf⟩:=DataW.trod_struct underlying36 h;have hl:cs.length=2:=hl
 match cs,hl with
 |
  [v0,v1],_ =>
  obtain ⟨z0,hz0⟩:=So (i:=0) hxs (by decide);obtain ⟨z1,hz1⟩:=So (i:=1) hxs (by decide);have h0:=hf 0 _ rfl;have h1:=hf 1 _ rfl;rw [hz0] at h0; rw [hz1] at h1;obtain ⟨b,e0,_⟩:=DataW.trod_bool underlying4 h0;have f0:v0=.bool b:=(List.cons.inj (show [v0]=[Value.bool b] from e0)).1;have hw1:=Ml underlying36 hz (i:=1) rfl (d:=z1.1) (by rw [Q8,hz1]; rfl);obtain ⟨v,l,e1,hlo,_,hrep⟩:=GF (sz:=1) (Ok:=λu:Nat=>u<4294967296) (rw_:=Qze) underlying34 (by kernel_rfl) (by decide) (of_decide_eq_true (by kernel_rfl)) (λ_=>rfl) Qlk h1 hw1;have f1:v1=v:=(List.cons.inj (show [v1]=[v] from e1)).1;subst f0 f1;refine ⟨⟨b,l⟩,⟨hlo⟩,rfl,λj u hu=>?_⟩
  match j,hu with
  | 0,hu=>simp at hu; subst hu; exact ⟨_,rfl,.bool _⟩
  | 1,hu=>simp at hu; subst hu; exact ⟨_,rfl,hrep⟩
  | j+2,hu=>simp at hu
set_option maxRecDepth 20000 in
theorem bC:∀ fuel cs x,DataW.trod enc prog w 0 (λ_=>true) true fuel 62 cs=some x->(x.1.weights prog 62).all (· <= reachBytes)=true->∃ z:RawPt,z.Ok/\kF w cs (rwq z):=by
 intro fuel cs x h hz;obtain ⟨xs,n,_,rfl,hl,hxs,hf⟩:=DataW.trod_struct underlying62 h;have hl:cs.length=5:=hl
 match cs,hl with
 |
  [v0,v1,v2,v3,v4],_ =>
  obtain ⟨z0,hz0⟩:=So (i:=0) hxs (by decide);obtain ⟨z1,hz1⟩:=So (i:=1) hxs (by decide);have h0:=hf 0 _ rfl;have h1:=hf 1 _ rfl;rw [hz0] at h0; rw [hz1] at h1;obtain ⟨id,e4,_,hwf⟩:=DataW.trod_int underlying3 h1;have f4:v4=.int .i64 id:=(List.cons.inj (show [v4]=[Value.int .i64 id] from e4)).1;have hw0:=Ml underlying62 hz (i:=0) rfl (d:=z0.1) (by rw [Q8,hz0]; rfl);obtain ⟨ys,n2,_,e5,_,hys,hg⟩:=DataW.trod_struct underlying60 h0;rw [e5] at hw0;obtain ⟨y0,hy0⟩:=So (i:=0) hys (by decide);obtain ⟨y1,hy1⟩:=So (i:=1) hys (by decide);obtain ⟨y2,hy2⟩:=So (i:=2) hys (by decide);have g0:=hg 0 _ rfl;have g1:=hg 1 _ rfl;have g2:=hg 2 _ rfl;rw [hy0] at g0; rw [hy1] at g1; rw [hy2] at g2;have w0:=Ml underlying60 hw0 (i:=0) rfl (d:=y0.1) (by rw [Q8,hy0]; rfl);have w1:=Ml underlying60 hw0 (i:=1) rfl (d:=y1.1) (by rw [Q8,hy1]; rfl);have w2:=Ml underlying60 hw0 (i:=2) rfl (d:=y2.1) (by rw [Q8,hy2]; rfl);obtain ⟨u0,lx,e0,hx,_,rx⟩:=GF (sz:=2) (Ok:=RawInt.Ok) (rw_:=Eb) underlying33 (by kernel_rfl) (by decide) (of_decide_eq_true (by kernel_rfl)) (λ_=>rfl) XN g0 w0;obtain ⟨u1,ly,e1,hy,_,ry⟩:=GF (sz:=2) (Ok:=RawInt.Ok) (rw_:=Eb) underlying33 (by kernel_rfl) (by decide) (of_decide_eq_true (by kernel_rfl)) (λ_=>rfl) XN g1 w1;obtain ⟨d,hd,hde⟩:=XN _ _ _ g2 w2;have f0:v0=u0:=(List.cons.inj (show [v0]=[u0] from e0)).1;have f1:v1=u1:=(List.cons.inj (show [v1]=[u1] from e1)).1;have hde2:kF w [v2,v3] (Eb d):=hde;subst f0 f1 f4;obtain ⟨q2,hq2,r2⟩:=hde2.2 0 _ rfl;obtain ⟨q3,hq3,r3⟩:=hde2.2 1 _ rfl;simp at hq2 hq3;subst hq2 hq3;refine ⟨⟨lx,ly,d,id⟩,⟨hx,hy,hd,by simpa [Lit.wf,IntKind.min,IntKind.max,IntKind.signed,IntKind.bits] using hwf⟩,rfl,λj u hu=>?_⟩
  match j,hu with
  | 0,hu=>simp [rwq] at hu; subst hu; exact ⟨_,rfl,rx⟩
  | 1,hu=>simp [rwq] at hu; subst hu; exact ⟨_,rfl,ry⟩
  | 2,hu=>simp [rwq] at hu; subst hu; exact ⟨_,rfl,r2⟩
  | 3,hu=>simp [rwq] at hu; subst hu; exact ⟨_,rfl,r3⟩
  | 4,hu=>simp [rwq] at hu; subst hu; exact ⟨_,rfl,.int _ _⟩
  | j+5,hu=>simp [rwq] at hu
end Orr
namespace Orr
open Go Go.Proofs Tryz Go.ChangeShapes Go.WideShapes Go.ChangeAt Go.RowKit Go.WideElems
variable {H:Type} {enc:TypeId×Value->H} {w:World}
end Orr
namespace Orr
open Go Go.Proofs Tryz Go.ChangeShapes Go.WideShapes Go.ChangeAt Go.RowKit Go.WideElems
set_option maxRecDepth 10000
def NB (t:TypeId) (R:TV->Prop):Prop:=∀ {H:Type} {enc:TypeId×Value->H} {W:World} {base:Nat} {v:Value} {d:DataW H} {p:List MemPlace},Value.okWide prog W .any base t v->DataW.Trod enc prog W 0 (λ_=>true) true t v d p->(d.weights prog t).all (· <= reachBytes)=true->∃ u,R u/\TRep W (λ_=>False) (λ_=>none) v u
section
variable {H:Type} {enc:TypeId×Value->H} {W W':World} {base:Nat}
theorem tZ:∀ {ps:List (TypeId×(TV->Prop))} {args:List Value} {ds:List (DataW H)} {p:List MemPlace},DataW.TrodAll enc prog W 0 (λ_=>true) true (ps.map (·.1)) args ds p ->
 (∀ (j:Nat) t v,(ps.map (·.1))[j]? = some t->args[j]? = some v->Value.okWide prog W .any base t v)->(∀ (j:Nat) t d,(ps.map (·.1))[j]? = some t->ds[j]? = some d->(d.weights prog t).all (· ≤ reachBytes)=true)->(∀ q∈ps,NB q.1 q.2) ->
 ∃ us,F2 (λu (q:TypeId×(TV->Prop))=>q.2 u) us ps/\F2 (TRep W (λ_=>False) (λ_=>none)) args us/\ds.length=ps.length
 |
  [],args,ds,p,h,_,_,_=>by
  obtain ⟨rfl,rfl,rfl⟩:=trodAll_nil h;exact ⟨[],.nil,.nil,rfl⟩
 |
  q::ps,args,ds,p,h,hv,hw,hr=>by
  obtain ⟨v,vs,d,ds',p1,p2,rfl,rfl,rfl,h1,h2⟩:=trodAll_cons h;obtain ⟨u,r1,r2⟩:=hr q (Qy ..) (hv 0 q.1 v rfl rfl) h1 (hw 0 q.1 d rfl rfl);obtain ⟨us,s1,s2,s3⟩:=tZ h2 (λj t v h h'=>hv (j+1) t v (by simpa using h) (by simpa using h')) (λj t d h h'=>hw (j+1) t d (by simpa using h) (by simpa using h')) λq hq=>hr q (Qg _ hq)
  exact ⟨u::us,.cons r1 s1,.cons r2 s2,by simp [s3]⟩
theorem sQ {sp':Nat->Bool} (hl:laidOutB prog=true):∀ {ps:List (TypeId×(TV->Prop))} {args:List Value} {ds:List (DataW H)} {p:List MemPlace},DataW.TrodAll enc prog W 0 (λ_=>true) true (ps.map (·.1)) args ds p ->
 (∀ q∈ps,prog.readableRec q.1=true/\q.1<prog.types.size)->(∀ x∈p,W.sameAt W' x)->(∀ x∈p,sp' x.block=true)->DataW.TrodAll enc prog W' 0 sp' true (ps.map (·.1)) args ds p
 |
  [],args,ds,p,h,_,_,_=>by
  obtain ⟨rfl,rfl,rfl⟩:=trodAll_nil h;exact trodAll_mk0
 |
  q::ps,args,ds,p,h,hr,hs,hb=>by
  obtain ⟨v,vs,d,ds',p1,p2,rfl,rfl,rfl,h1,h2⟩:=trodAll_cons h;obtain ⟨r1,r2⟩:=hr q (Qy ..);exact trodAll_cons_mk (Trod_stays hl r1 r2 h1 (λx hx=>hs x (Qr.2 (.inl hx))) λx hx=>hb x (Qr.2 (.inl hx))) (sQ hl h2 (λq hq=>hr q (Qg _ hq)) (λx hx=>hs x (Qr.2 (.inr hx))) λx hx=>hb x (Qr.2 (.inr hx)))
end
theorem Qim {ps:List (TypeId×(TV->Prop))} {f:FuncId} {fn:Func} {s:ChangeSpec} (hp:fn.params=(ps.map (·.1)).toArray) (hr:fn.resultTypes = #[4]) (hv:s.vars=[])
 (hs:∀ (H:Type) (ds:List (DataW H)),ds.length=ps.length->s.fn H ds={ results:=[.lit (.bool true)],args:=ds })
 (hlaid:laidOutB prog=true) (hrec:∀ q∈ps,prog.readableRec q.1=true/\q.1<prog.types.size) (hrd:∀ q∈ps,NB q.1 q.2)
 (law:∀ us:Uu,F2 (λu (q:TypeId×(TV->Prop))=>q.2 u) us ps->AM prog f us [.one (.bool true)])
 {H:Type} {enc:TypeId×Value->H} {W:World} {base:Nat} {args:Array Value} {ds gs:List (DataW H)} {Ts:List MemPlace} {fresh handsOn:Bool}
 (hval:∀ (j:Nat) t v,fn.params[j]? = some t->args[j]? = some v->Value.okWide prog W .any base t v)
 (hW:DataW.Whole enc prog fn.params.toList s.vars false W args.toList ds gs Ts)
 (hz:(DataW.weightsEach prog (fn.params.toList++s.plain.varTypes prog) (ds++gs)).all (· <= reachBytes)=true) :
 Calls prog f args W λe W'=>∃ v,e=.returned v/\s.post enc prog fn false fresh handsOn false W args v W':=by
 have hW':=hW;obtain ⟨p,q,hA0,hV,rfl,hfz,hnd⟩:=hW;have hA:DataW.TrodAll enc prog W 0 (λ_=>true) true fn.params.toList args.toList ds p:=hA0;rw [hv] at hV;obtain ⟨rfl,rfl⟩:=trodVars_none hV;have hlt:=hW'.lt;rw [hp] at hA hval hz;have hA:DataW.TrodAll enc prog W 0 (λ_=>true) true (ps.map (·.1)) args.toList ds p:=by simpa using hA
 obtain ⟨us,r1,r2,r3⟩:=tZ (base:=base) hA (λj t v h h'=>hval j t v (by simpa using h) (by simpa using h')) (λj t d h h'=>by
  rw [Jt] at hz ⊢;intro k hk;have hj:j<(ps.map (·.1)).length:=(Qf.1 h).1;have hj2:j<ds.length:=(Qf.1 h').1;exact hz k (DataW.weights_mem_each (j:=j) (by rw [Zi (by simpa using hj)]; simpa using h) (by rw [Zi hj2]; exact h') k hk)) hrd
 have hcall:=(law us r1).2 (fr0 W) (λ_=>none) (λ_=>False) W args.toList (AP W) r2;have ea:args.toList.toArray=args:=by simp
 rw [ea] at hcall;refine hcall.mono λe W' ⟨v,u,Bo,E',M',he,⟨hu,hBo⟩,_,hm,har⟩=>?_
 subst hu;obtain rfl:v=.bool true:=by
  have h:LRep _ _ v (.bool true):=har;cases h;rfl
 refine ⟨_,he,?_⟩;refine ⟨ds,[],_,[],p,[],hW',?_,?_,?_,Qo3 hm _,λh=>by cases h⟩
 ·rw [hr,Zw,hs H ds r3];exact trodAll_cons_mk (shut_bool underlying4 true) trodAll_mk0
 ·rw [hp,Zw,hs H ds r3];have hb:∀ x∈p,x.block<W.heap.size:=λx hx=>hlt x (by simp [hx])
  have:=sQ (sp':=λb=>decide (b<W.heap.size)) hlaid hA hrec (λx hx=>Qqk hm (hb x hx)) λx hx=>by simpa using hb x hx
  simpa using this
 ·rw [hv,Zw,hs H ds r3];rfl
abbrev Qs4 (u:TV):Prop:=∃ n:Int,(-9223372036854775808<=n/\n<=9223372036854775807)/\u=.oi n
theorem zU:NB 3 Qs4:=λ{H enc W base v d p} hv h _=>by
 obtain ⟨n,rfl,rfl,rfl,w1⟩:=open_int underlying3 hv h;exact ⟨_,⟨n,by simpa [Lit.wf,IntKind.min,IntKind.max,IntKind.signed,IntKind.bits] using w1,rfl⟩,show XRep W (λ_=>False) (λ_=>none) (.int .i64 n) (.int .i64 n) from (LRep.int .i64 n).x⟩
theorem Qda {α:Type} {rw_:α->Ur} {Ok:α->Prop} {t e sz:Nat} (hu:prog.underlying t=some (.slice e)) (hc:prog.cellsOf e=sz) (hsz:0<sz) (hb:1<=prog.bytesOf e) (hw:∀ z,(rw_ z).length=sz)
 (elem:∀ {H:Type} {enc:TypeId×Value->H} {w:World} fuel cs x,DataW.trod enc prog w 0 (λ_=>true) true fuel e cs=some x->(x.1.weights prog e).all (· ≤ reachBytes)=true->∃ z,Ok z/\kF w cs (rw_ z)):NB t λu=>∃ l:List α,(∀ z∈l,Ok z)/\u=.one (.row (l.map rw_)):=λ{H enc W base v d p} hv h hz=>by
 obtain ⟨a,len,cap,rfl⟩:=okWide_slice hu hv;obtain ⟨fu,h⟩:=h;obtain ⟨v,l,e0,hok,_,hrep⟩:=GF hu hc hsz hb hw (λfuel cs x h h'=>elem fuel cs x h h') h hz;have f0:Value.slice a len cap=v:=(List.cons.inj (show [Value.slice a len cap]=[v] from e0)).1;subst f0;exact ⟨_,⟨l,hok,rfl⟩,show XRep W (λ_=>False) (λ_=>none) _ (.row (l.map rw_)) from hrep.x⟩
end Orr
namespace Orr
open Go Go.Proofs Tryz Go.ChangeShapes Go.WideShapes Go.ChangeAt Go.RowKit Go.WideElems
set_option maxRecDepth 10000
theorem UA {w:World} {cs cs':List Value} {ls ls':Ur} (h:kF w cs ls) (h':kF w cs' ls'):kF w (cs++cs') (ls++ls'):=by
 refine ⟨by simp [h.1,h'.1],λj u hu=>?_⟩;by_cases hj:j<ls.length
 ·rw [Zi hj] at hu;obtain ⟨v,hv,hr⟩:=h.2 j u hu;exact ⟨v,by rw [Zi (by rw [h.1]; exact hj)]; exact hv,hr⟩
 ·rw [Z8 (by omega)] at hu;obtain ⟨v,hv,hr⟩:=h'.2 _ u hu;exact ⟨v,by rw [Z8 (by rw [h.1]; omega),h.1]; exact hv,hr⟩
theorem jH {w:World} {n:Int}:kF w [.int .i64 n] [.int .i64 n]:=⟨rfl,λj u hu=>by
 match j,hu with
 | 0,hu=>simp at hu; subst hu; exact ⟨_,rfl,.int _ _⟩
 | j+1,hu=>simp at hu⟩
section
variable {H:Type} {enc:TypeId×Value->H} {w:World}
set_option maxRecDepth 20000 in
theorem iC:∀ fuel cs x,DataW.trod enc prog w 0 (λ_=>true) true fuel 64 cs=some x->(x.1.weights prog 64).all (· <= reachBytes)=true->∃ z:RawOp,z.Ok/\kF w cs (rwo z):=by
 intro fuel cs x h hz;obtain ⟨xs,n,_,rfl,hl,hxs,hf⟩:=DataW.trod_struct underlying64 h;have hl:cs.length=12:=hl
 match cs,hl with
 |
  [v0,v1,v2,v3,v4,v5,v6,v7,v8,v9,v10,v11],_ =>
  obtain ⟨z0,hz0⟩:=So (i:=0) hxs (by decide);obtain ⟨z1,hz1⟩:=So (i:=1) hxs (by decide);obtain ⟨z2,hz2⟩:=So (i:=2) hxs (by decide);obtain ⟨z3,hz3⟩:=So (i:=3) hxs (by decide);obtain ⟨z4,hz4⟩:=So (i:=4) hxs (by decide);have h0:=hf 0 _ rfl;have h1:=hf 1 _ rfl;have h2:=hf 2 _ rfl;have h3:=hf 3 _ rfl;have h4:=hf 4 _ rfl;rw [hz0] at h0; rw [hz1] at h1; rw [hz2] at h2; rw [hz3] at h3; rw [hz4] at h4;obtain ⟨k,e0,_,w0⟩:=DataW.trod_int underlying3 h0;obtain ⟨m,e1,_,w1⟩:=DataW.trod_int underlying3 h1;obtain ⟨d,e2,_,w2⟩:=DataW.trod_int underlying3 h2;have f0:v0=.int .i64 k:=(List.cons.inj (show [v0]=[Value.int .i64 k] from e0)).1;have f1:v1=.int .i64 m:=(List.cons.inj (show [v1]=[Value.int .i64 m] from e1)).1;have f2:v2=.int .i64 d:=(List.cons.inj (show [v2]=[Value.int .i64 d] from e2)).1;have hw3:=Ml underlying64 hz (i:=3) rfl (d:=z3.1) (by rw [Q8,hz3]; rfl);have hw4:=Ml underlying64 hz (i:=4) rfl (d:=z4.1) (by rw [Q8,hz4]; rfl);obtain ⟨p,p1,p2⟩:=bC _ _ _ h3 hw3;have p2:kF w [v3,v4,v5,v6,v7] (rwq p):=p2;obtain ⟨ys,n2,_,e5,_,hys,hg⟩:=DataW.trod_struct underlying38 h4;rw [e5] at hw4;obtain ⟨y0,hy0⟩:=So (i:=0) hys (by decide);obtain ⟨y1,hy1⟩:=So (i:=1) hys (by decide);have g0:=hg 0 _ rfl;have g1:=hg 1 _ rfl;rw [hy0] at g0; rw [hy1] at g1;have x0:=Ml underlying38 hw4 (i:=0) rfl (d:=y0.1) (by rw [Q8,hy0]; rfl);have x1:=Ml underlying38 hw4 (i:=1) rfl (d:=y1.1) (by rw [Q8,hy1]; rfl);obtain ⟨t,t1,t2⟩:=XN _ _ _ g0 x0;obtain ⟨u,u1,u2⟩:=XN _ _ _ g1 x1;have t2:kF w [v8,v9] (Eb t):=t2;have u2:kF w [v10,v11] (Eb u):=u2;subst f0 f1 f2;exact ⟨⟨k,m,d,p,t,u⟩,⟨by simpa [Lit.wf,IntKind.min,IntKind.max,IntKind.signed,IntKind.bits] using w0,by simpa [Lit.wf,IntKind.min,IntKind.max,IntKind.signed,IntKind.bits] using w1,by simpa [Lit.wf,IntKind.min,IntKind.max,IntKind.signed,IntKind.bits] using w2,p1,t1,u1⟩,
   UA (UA (UA (UA (UA jH jH) jH) p2) t2) u2⟩
end
abbrev OpA (u:TV):Prop:=∃ o:RawOp,o.Ok/\u=.agg (rwo o)
abbrev Qxb (u:TV):Prop:=∃ l:List RawOp,(∀ o∈l,o.Ok)/\u=.one (.row (qM l))
theorem Qc9:NB 58 Qxb:=Qda (sz:=12) (Ok:=RawOp.Ok) (rw_:=rwo) underlying58 (by kernel_rfl) (by decide) (of_decide_eq_true (by kernel_rfl)) (λ_=>rfl) λfuel cs x=>iC fuel cs x
theorem Qj9:NB 64 OpA:=λ{H enc W base v d p} hv h hz=>by
 obtain ⟨cs,rfl,_⟩:=okWide_struct underlying64 hv;obtain ⟨fu,h⟩:=h;obtain ⟨o,o1,o2⟩:=iC _ _ _ h hz;refine ⟨_,⟨o,o1,rfl⟩,cs.toList,by simp,F2.of o2.1 λj v x hv hx=>?_⟩;obtain ⟨v',h1,h2⟩:=o2.2 j x hx;have h1:cs.toList[j]? = some v':=h1;rw [hv] at h1; injection h1 with h1; subst h1;exact h2.x
end Orr
