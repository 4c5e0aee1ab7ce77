/- Q1 C1 C2 D1 E1 AlgL F1 F2 F3 F4 F5 T1 T2 T3 T4 T5 T6 -/
import Derived.Test.YthgaepodbpcjdaaGreatPart04
import Derived.Test.YthgaepodbpcjdaaGreatPart00
set_option linter.all false
namespace Orr
open Go Go.Proofs
set_option maxRecDepth 10000
theorem Zew {a b:Int} {q:Rat} (h1:a=q.num) (h2:b=(q.den:Int)):[sg a,mg a,sg b,mg b]=rl q:=by rw [h1,h2]
theorem Ih {n d:Int} (h0:d≠0) (hn:Ug n<=4294967295) (hd:Ug d<=4294967295):W0 Tryz.prog 141 [.agg (Gb n),.agg (Gb d)] [.agg (rl (Rat.divInt n d))]:=by
 have cg:=Q2s (Ga [n,d]) (λz hz=>by simp at hz; rcases hz with rfl | rfl <;> assumption);have gp:=Q5a (n:=n) h0;have gs:=Zbm (n:=n) h0 hd;have m1:=Qug n d;have m2:=Quh n d;obtain ⟨g,hg⟩:=nmE (((G5 [n,d]:Nat):Int));rw [<-hg] at cg gp gs m1 m2;by_cases hneg:d<0
 ·obtain ⟨e1,e2⟩:=Zbs (n:=n) hneg;rw [<-hg] at e1 e2;rw [<-Zew e1 e2];exact w tt Tryz.func141 rfl [.c [] cg,.t (by simpa using hneg),.c [] (Qhq (Wy n) hn),.c [] (Qhq (Wy d) hd),.c [] (D9 (Wy _) (Wy _) (by rw [Lj]; exact hn) gs (by omega) (Qyn m1)),.c [] (D9 (Wy _) (Wy _) (by rw [Lj]; exact hd) gs (by omega) (Qyn m2))] rfl rfl trivial
 ·obtain ⟨e1,e2⟩:=Zbt (n:=n) (d:=d) (by omega);rw [<-hg] at e1 e2;rw [<-Zew e1 e2];exact w tt Tryz.func141 rfl [.c [] cg,.f (by simpa using hneg),.c [] (D9 (Wy _) (Wy _) hn gs (by omega) m1),.c [] (D9 (Wy _) (Wy _) hd gs (by omega) m2)] rfl rfl trivial
theorem Qgm {x y x' y':LV} {n d:Int} (h1:Fc x y n) (h2:Fc x' y' d) (hn:Ug n<=4294967295) (hd:Ug d<=4294967295):W0 Tryz.prog 84 [.agg [x,y,x',y']] [.agg (rl (Rj n d))]:=by
 have c1:=Md h1 hn;have c2:=Md h2 hd;obtain ⟨b,l,rfl,rfl,_⟩:=h1;obtain ⟨b',l',rfl,rfl,_⟩:=h2;by_cases h0:d=0
 ·have e:Rj n d=Rat.divInt n 1:=by unfold Rj; rw [if_pos h0]
  rw [e];exact w tt Tryz.func84 rfl [.c [] c2,.c [] Nc,.t (by simpa using h0),.c [] (Qmq (z:=1) (by decide)),.c [] c1,.c [] (Ih (by decide) hn (by decide))] rfl rfl trivial
 ·have e:Rj n d=Rat.divInt n d:=by unfold Rj; rw [if_neg h0]
  rw [e];exact w tt Tryz.func84 rfl [.c [] c2,.c [] Nc,.f (by simpa using h0),.c [] c1,.c [] (Ih h0 hn hd)] rfl rfl trivial
theorem Qhx {q:Rat} (hq:Qs 4294967295 q):W0 Tryz.prog 84 [.agg (rl q)] [.agg (rl q)]:=by
 have:=Qgm (Wy q.num) (Wy (q.den:Int)) hq.1 hq.2;rwa [Tf] at this
theorem Zf5 {n:Int} (hn:Ug n<=4294967295):W0 Tryz.prog 22 [.agg (Gb n)] [.agg (rl (n:Rat))] :=
 w tt Tryz.func22 rfl [.c [] (Md (Wy n) hn),.c [] (Qmq (z:=1) (by decide))] rfl (by simp [rl]) trivial
theorem Qmv {a b:Rat} (ha:Qs 2147483647 a) (hb:Qs 2147483647 b):W0 Tryz.prog 98 [.agg (rl a),.agg (rl b)] [.agg (Gb (a.num*(b.den:Int))),.agg (Gb (b.num*(a.den:Int))),.agg (Gb ((a.den:Int)*(b.den:Int)))] :=
 w tt Tryz.func98 rfl [.c [] (Qhx (ha.mono (by decide))),.c [] (Qhx (hb.mono (by decide))),.c [] (Pf (Wy _) (Wy _) (Qd ha.1 (by decide)) (Qd hb.2 (by decide))),.c [] (Pf (Wy _) (Wy _) (Qd hb.1 (by decide)) (Qd ha.2 (by decide))),.c [] (Pf (Wy _) (Wy _) (Qd ha.2 (by decide)) (Qd hb.2 (by decide)))] rfl rfl trivial
theorem Nf {a b:Rat} (ha:Qs 2147483647 a) (hb:Qs 2147483647 b):W0 Tryz.prog 61 [.agg (rl a),.agg (rl b)] [.one (.int .i64 (Fp a b))] :=
 w tt Tryz.func61 rfl [.c [] (Qmv ha hb),.c [] (Qd9 (Wy _) (Wy _) (Qd (Fz _ _) (by have:=ha.1; have:=hb.2; omega)) (Qd (Fz _ _) (by have:=hb.1; have:=ha.2; omega)))] rfl rfl trivial
theorem Qhw {x y x' y':LV} {n d:Int} (h1:Fc x y n) (h2:Fc x' y' d) (hn:Ug n<=4294967295) (hd:Ug d<=4294967295):W0 Tryz.prog 42 [.agg [x,y,x',y'],.one (.row [])] [.agg (rl (Rj n d))]:=by
 have c1:=Qgm h1 h2 hn hd;obtain ⟨b,l,rfl,rfl,_⟩:=h1;obtain ⟨b',l',rfl,rfl,_⟩:=h2;refine U4 Tryz.func42 rfl ?_;refine go tt [.c [] c1] rfl trivial ?_;refine lp (S:=Unit) 3 (λL1 _=>(12,.v (.one (.int .i64 0)))::L1) (λ_=>[.blk 38 [.bool b,.row (lm l),.bool b',.row (lm l')],.blk 38 [.bool false,.nils,.bool false,.nils],.blk 38 (rl (Rj n d))]) (λ_=>0) (λ_=>True) () trivial rfl (λ_ _=>rfl) rfl λ_ _=>?_
 exact en tt [.f (by simp)] rfl rfl trivial
theorem S8 {q:Rat} (hq:Qs 4294967295 q):W0 Tryz.prog 42 [.agg (rl q),.one (.row [])] [.agg (rl q)]:=by
 have:=Qhw (Wy q.num) (Wy (q.den:Int)) hq.1 hq.2;rwa [Tf] at this
theorem Zao {q:Rat} (hq:Qs 4294967295 q):W0 Tryz.prog 226 [.agg (rl q)] [.agg (rl q)]:=w tt Tryz.func226 rfl [.c [] (S8 hq)] rfl rfl trivial
theorem Qwr {p:List Int} {q:Rat} {s t:Nat} (tp:Ua p) (hl:p.length<274877906944) (hp:Bd s p) (hq:Qs t q) (hst:s+p.length*(t+1)+2*t+10<=4294967295):W0 Tryz.prog 189 [pr p,.agg (rl q)] [.one (.int .i64 (Gk p q))]:=by
 have cc:=Qd9 (Wy (Zhq p q.num q.den)) Ao (Qd (Qzu hp hq.1 hq.2).1 (by omega)) (by decide);exact w tt Tryz.func189 rfl [.c [] (Zao (hq.mono (by omega))),.c [] (Gf tp hl (Wx hp (by omega))),.c [] (Q23 hl hp hq.1 hq.2 hst),.c [] cc] rfl rfl trivial
theorem Q3o {p:List Int} {g:Int} (hl:p.length<274877906944) (hp:Bd 4294967295 p) (hg:Ug g≤4294967295) (h0:g≠0) (hd:∀ z∈p,z % g=0):W0 Tryz.prog 125 [pr p,.agg (Gb g)] [pr (trim (p.map (· / g)))]:=by
 refine U4 Tryz.func125 rfl ?_;refine go tt [.r 9 (eI (b:=(p.length:Int)) (by simp)),.i p.length,.i p.length,.r 12 (eI (b:=(p.length:Int)) (by simp))] rfl (by simp [Wv]; omega) ?_;rw [Dn λk=>Gb (p.getD k 0 / g)];refine lp (S:=Nat) 2 (λL1 k=>(13,.v (.one (.int .i64 (k:Int))))::L1) (λk=>[.blk 36 (Gb g),.row false 36 2 (fil (λk=>Gb (p.getD k 0 / g)) [.bool false,.nils] p.length k)]) (λk=>p.length-k) (λk=>k<=p.length) 0 (Qi _) rfl (λ_ _=>rfl) rfl λk hk=>?_
 by_cases hlt:k<p.length
 ·have hg2:=Hb hlt;refine go tt [.t (by simp; omega),.x (Ta hg2),.c [] (D9 (Wy _) (Wy _) (U3 hp k) hg h0 (hd _ (Qa hg2))),.i k] rfl (by simp [Wv,Li]; omega) ?_;have e:=An (λk=>Gb (p.getD k 0 / g)) [.bool false,.nils] hlt;rw [e];exact rd (k+1) (by omega) hlt rfl
 ·obtain rfl:k=p.length:=by omega
  have e:fil (λk=>Gb (p.getD k 0 / g)) [.bool false,.nils] p.length p.length=(p.map (· / g)).map Gb:=by
   rw [Am];refine Xg λi=>?_
   by_cases hi:i<p.length
   ·simp [Jh hi,List.getD,Qf hi]
   ·simp [Q0,hi]
  rw [e];exact en tt [.f (by simp),.c [] (Cm (Ga (p.map (· / g))) (by simp; exact hl) (Qd3 hp g))] rfl rfl trivial
theorem Qjd (p:List Int):∀ c∈p.map Gb,c.length=2:=Zer p λ_=>rfl
theorem Qmu {lx ly:List (List LV)} {px py:List Int} {x y:LV} {d:Int} (hx:IsInts lx px) (hy:IsInts ly py) (hd:Fc x y d) (hk:Cs 4294967294 1073741824 (Crv.mk px py d)):W0 Tryz.prog 77 [.agg [.row lx,.row ly,x,y]] [.agg (cl (Crv.norm (Crv.mk px py d)))]:=by
 have hlx:=hk.lx;have hly:=hk.ly;simp only at hlx hly;have htx:=G0 px;have hty:=G0 py;have hd1:Ug (Crv.mk px py d).d'<=4294967295:=Qd (Q5t hk.d (by omega)) (by omega);have hg1:=Crv.isz_g (Crv.mk px py d) hd1;have hg0:=Crv.g_ne (Crv.mk px py d);have hgd:=Crv.g_dvd (Crv.mk px py d);have cx:=Cm hx (by omega) (Wx hk.x (by omega));have cy:=Cm hy (by omega) (Wx hk.y (by omega));have cd:=Md hd (Qd hk.d (by omega));have bx:Bd 4294967295 (trim px):=Wx (Ra hk.x) (by omega);have by_:Bd 4294967295 (trim py):=Wx (Ra hk.y) (by omega);obtain ⟨b,l,rfl,rfl,_⟩:=hd;obtain ⟨e,he⟩:=nmE ((Crv.mk px py d).d');obtain ⟨g,hgg⟩:=nmE ((Crv.mk px py d).g);obtain ⟨X,hX⟩:=nmE (trim px);obtain ⟨Y,hY⟩:=nmE (trim py);have hnorm:(Crv.mk px py d).norm=⟨trim (X.map (· / g)),trim (Y.map (· / g)),e / g⟩:=by rw [he,hgg,hX,hY]; rfl
 rw [hnorm];have hgdef:g=if e<0 then -((G5 (e::(X++Y)):Nat):Int) else (G5 (e::(X++Y)):Nat):=by rw [hgg,he,hX,hY]; rfl
 have hde:e=if d=0 then 1 else d:=by rw [he]; rfl
 simp only [<-he,<-hgg,<-hX,<-hY] at hd1 hg1 hg0 hgd htx hty cx cy bx by_;clear hnorm hgg he hX hY;refine U4 Tryz.func77 rfl ?_;refine go tt [.c [] cx,.c [] cy,.c [] cd,.c [] Nc] rfl trivial ?_;refine ct 1 (S:=Unit) (λ_=>[(2,.v (.one (.ow 1 0))),(3,.v (pr X)),(4,.v (pr Y)),(5,.v (.one (.ow 2 0)))]) (λ_=>[.blk 60 [.row lx,.row ly,.bool b,.row (lm l)],.blk 60 [.nils,.nils,.bool false,.nils],.blk 36 (Gb e)]) (λ_=>True) rfl ?_ ?_
 ·by_cases h0:d=0
  ·rw [hde,if_pos h0];exact go tt [.t (by simpa using h0),.c [] (Qmq (z:=1) (by decide))] rfl trivial (rc () trivial rfl)
  ·rw [hde,if_neg h0];exact go tt [.f (by simpa using h0)] rfl trivial (rc () trivial rfl)
 ·intro _ _;have hgi:IsInts ([Gb e]++X.map Gb++Y.map Gb) (e::(X++Y)):=by
   have:=Ga (e::(X++Y));simpa using this
  have hgs:∀ z∈e::(X++Y),Ug z≤4294967295:=λz hz=>by
   rcases Ql.1 hz with rfl | hz
   ·exact hd1
   ·rcases Qq.1 hz with hz | hz
    ·exact bx z hz
    ·exact by_ z hz
  have cg:=Q2s hgi hgs;have co1:=Q3o (p:=X) (by omega) bx hg1 hg0 λz hz=>hgd z (Qe _ (Xz _ hz))
  have co2:=Q3o (p:=Y) (by omega) by_ hg1 hg0 λz hz=>hgd z (Qe _ (X8 _ hz))
  have ce:=D9 (Wy e) (Wy g) hd1 hg1 hg0 (hgd e (Qx ..));have hszg:=Qgt hgs;by_cases hneg:e<0
  ·rw [if_pos hneg] at hgdef;have cn:=Qhq (Wy ((G5 (e::(X++Y)):Nat):Int)) hszg;rw [<-hgdef] at cn;exact en tt [.lo,.s (Qjd X),.s (Qjd Y),.c [] cg,.t (by simpa using hneg),.c [] cn,.c [] ce,.c [] co1,.c [] co2] rfl rfl (by simp [Wv]; omega)
  ·rw [if_neg hneg] at hgdef;rw [<-hgdef] at cg;exact en tt [.lo,.s (Qjd X),.s (Qjd Y),.c [] cg,.f (by simpa using hneg),.c [] ce,.c [] co1,.c [] co2] rfl rfl (by simp [Wv]; omega)
theorem Qhu {k:Crv} (hn:Nml k) (hk:Cs 4294967294 1073741824 k):W0 Tryz.prog 77 [.agg (cl k)] [.agg (cl k)]:=by
 have h:=Qmu (Ga k.x) (Ga k.y) (Wy k.d) hk;rw [Crv.norm_of hn] at h; exact h
theorem Qcj {lx ly:List (List LV)} {px py:List Int} {x y:LV} {d:Int} (hx:IsInts lx px) (hy:IsInts ly py) (hd:Fc x y d) (hk:Cs 4294967294 1073741824 (Crv.mk px py d)) (h0:d≠0):W0 Tryz.prog 159 [.one (.row lx),.one (.row ly),.agg [x,y]] [.agg (cl (Crv.norm (Crv.mk px py d))),.one (.int .i64 0)]:=by
 have cd:=Md hd (Qd hk.d (by omega));have cn:=Qmu hx hy hd hk;obtain ⟨b,l,rfl,rfl,_⟩:=hd;exact w tt Tryz.func159 rfl [.c [] cd,.c [] Nc,.f (by simpa using h0),.c [] cn] rfl rfl trivial
theorem Zd4 {lx ly:List (List LV)} {px py:List Int} (hx:IsInts lx px) (hy:IsInts ly py) (hk:Cs 4294967294 1073741824 (Crv.mk px py 0)):W0 Tryz.prog 29 [.one (.row lx),.one (.row ly)] [.agg (cl (Crv.norm (Crv.mk px py 0)))] :=
 w tt Tryz.func29 rfl [.c [] (Qmu hx hy Ao hk)] rfl rfl trivial
def E7 (x y:Int):Crv:=Crv.norm ⟨trim [x],trim [y],0⟩
theorem Qp0 {x y:Int} (hx:-9223372036854775808<=x/\x<=9223372036854775807) (hy:-9223372036854775808<=y/\y<=9223372036854775807):Cs 64 1 ⟨trim [x],trim [y],0⟩:=by
 have key:∀ z:Int,-9223372036854775808<=z/\z<=9223372036854775807->Ug z<=64:=λz hz=>by
  rw [Mg];have:(2:Nat)^64=18446744073709551616:=by decide
  omega
 refine ⟨Ra λz hz=>?_,Ra λz hz=>?_,Qi _,G0 [x],G0 [y]⟩
 ·rw [Qk] at hz; rw [hz]; exact key x hx
 ·rw [Qk] at hz; rw [hz]; exact key y hy
theorem Q99 {x y:Int} (hx:-9223372036854775808<=x/\x<=9223372036854775807) (hy:-9223372036854775808<=y/\y<=9223372036854775807):W0 Tryz.prog 30 [.one (.int .i64 x),.one (.int .i64 y)] [.agg (cl (E7 x y))] :=
 w tt Tryz.func30 rfl [.c [] (Qwq (p:=[x]) (show 1<274877906944 by decide) (by intro z hz; rw [Qk] at hz; rw [hz]; exact hx)),.c [] (Qwq (p:=[y]) (show 1<274877906944 by decide) (by intro z hz; rw [Qk] at hz; rw [hz]; exact hy)),.c [] (Zd4 (Ga _) (Ga _) ((Qp0 hx hy).mono (by omega) (by omega)))] rfl rfl trivial
theorem Zah {a b:Crv} (ha:Nml a) (hb:Nml b) (ca:Cs 4294967294 1073741824 a) (cb:Cs 4294967294 1073741824 b):W0 Tryz.prog 62 [.agg (cl a),.agg (cl b)] [.one (.bool (Lh a b))]:=by
 have na:=Qhu ha ca;have nb:=Qhu hb cb;have alx:=ca.lx;have aly:=ca.ly;have blx:=cb.lx;have bly:=cb.ly;have sx:=Qgl (p:=a.x) (q:=b.x) (by omega) (by omega) (Wx ca.x (by omega)) (Wx cb.x (by omega));have sy:=Qgl (p:=a.y) (q:=b.y) (by omega) (by omega) (Wx ca.y (by omega)) (Wx cb.y (by omega));have sd:=Qd9 (Wy a.d) (Wy b.d) (Qd ca.d (by omega)) (Qd cb.d (by omega));rw [ha.1,hb.1] at sx;rw [ha.2.1,hb.2.1] at sy;by_cases h1:a.x=b.x
 ·by_cases h2:a.y=b.y
  ·exact w tt Tryz.func62 rfl [.c [] na,.c [] nb,.c [] sx,.t (by simpa using h1),.c [] sy,.t (by simpa using h2),.c [] sd] rfl (by simp [Lh,h1,h2,Qm1]) trivial
  ·exact w tt Tryz.func62 rfl [.c [] na,.c [] nb,.c [] sx,.t (by simpa using h1),.c [] sy,.f (by simpa using h2)] rfl (by simp [Lh,h1,h2]) trivial
 ·exact w tt Tryz.func62 rfl [.c [] na,.c [] nb,.c [] sx,.f (by simpa using h1),.f rfl] rfl (by simp [Lh,h1]) trivial
theorem Ho {l:List Pt} {i:Nat} {p:Pt} (h:l[i]? = some p):(l.map W8)[i]? = some [pl p.c.x,pl p.c.y,sg p.c.d,mg p.c.d,.int .i64 p.id]:=Gu h
theorem Of (l:List Pt):∀ c∈l.map W8,c.length=5:=Zer l λ_=>rfl
theorem Zam {lx ly:List (List LV)} {px py:List Int} {x y:LV} {d:Int} (hx:IsInts lx px) (hy:IsInts ly py) (hd:Fc x y d) (hk:Cs 4294967294 1073741824 (Crv.mk px py d)) (id:Int):W0 Tryz.prog 166 [.agg [.row lx,.row ly,x,y,.int .i64 id]] [.agg (W8 ⟨Crv.norm (Crv.mk px py d),id⟩)]:=by
 have cd:=Md hd (Qd hk.d (by omega));by_cases h0:d=0
 ·subst h0;have ck:Cs 4294967294 1073741824 (Crv.mk px py 1):=⟨hk.x,hk.y,show Ug 1<=4294967294 by decide,hk.lx,hk.ly⟩;have cm:=Qcj hx hy (Wy 1) ck (by decide);have e:Crv.norm (Crv.mk px py 1)=Crv.norm (Crv.mk px py 0):=by simp only [Crv.norm,Crv.g,Crv.d']; rfl
  rw [e] at cm;obtain ⟨b,l,rfl,rfl,_⟩:=hd;exact w tt Tryz.func166 rfl [.c [] cd,.c [] Nc,.t (by simp),.c [] (Qmq (z:=1) (by decide)),.c [] cm] rfl rfl trivial
 ·have cm:=Qcj hx hy hd hk h0;obtain ⟨b,l,rfl,rfl,_⟩:=hd;exact w tt Tryz.func166 rfl [.c [] cd,.c [] Nc,.f (by simpa using h0),.c [] cm] rfl rfl trivial
theorem Zjj {l:List Pt} (id:Int) (hl:l.length<1073741824):W0 Tryz.prog 165 [.agg [pts l],.one (.int .i64 id)] [.one (.int .i64 (Lu l id:Int)),.one (.bool (has l id))]:=by
 refine U4 Tryz.func165 rfl ?_;refine go tt [] rfl trivial ?_;refine ct 2 (S:=Unit) (λ_=>[(1,.v (.one (.int .i64 id))),(2,.v (.one (.ow 0 0))),(6,.v (.one (.int .i64 (Lu l id:Int))))]) (λ_=>[.blk 149 [pts l]]) (λ_=>True) rfl ?_ ?_
 ·refine lp (S:=Nat) 1 (λL1 k=>(6,.v (.one (.int .i64 (k:Int))))::L1) (λ_=>[.blk 149 [pts l]]) (λk=>l.length-k) (λk=>k<=l.length/\∀ j p,j<k->l[j]? = some p->p.id<id) 0 ⟨Qi _,λj p h=>by omega⟩ rfl (λ_ _=>rfl) rfl λk ⟨hk,hlt⟩=>?_
  by_cases h:k<l.length
  ·obtain ⟨p,hp⟩:=gxE (l:=l) (i:=k) h;by_cases hid:p.id<id
   ·refine go tt [.t (by simp; omega),.x (Ho hp),.t (by simpa using hid)] rfl (by simp [Wv]; omega) ?_;exact rd (k+1) (by omega) ⟨h,λj q hj hq=>by
     rcases Zb j k with h2 | h2
     ·exact hlt j q h2 hq
     ·have:j=k:=by omega
      subst this; rw [hp] at hq; injection hq with hq; rw [<-hq]; exact hid⟩ rfl
   ·have e:=Qji hlt (.inr ⟨p,hp,hid⟩);refine go tt [.t (by simp; omega),.x (Ho hp),.f (by simpa using hid)] rfl trivial ?_;rw [e];exact rc () trivial rfl
  ·obtain rfl:k=l.length:=by omega
   have e:=Qji hlt (.inl rfl);refine go tt [.f (by simp),.f rfl] rfl trivial ?_;rw [e];exact rc () trivial rfl
 ·intro _ _;by_cases h:Lu l id<l.length
  ·obtain ⟨p,hp⟩:=gxE (l:=l) (i:=Lu l id) h;have e:has l id=decide (p.id=id):=by simp [has,hp]
   rw [e];exact en tt [.g 30 true (by simp; omega),.x (Ho hp)] rfl rfl trivial
  ·have e:has l id=false:=by simp [has,Q0 (Js h)]
   rw [e];exact en tt [.g 30 false (by simp; omega)] rfl rfl trivial
theorem Ln {l:List Pt}:W0 Tryz.prog 108 [.agg [pts l]] [.one (pts l)]:=w tt Tryz.func108 rfl [] rfl rfl trivial
theorem Qpo {lx ly:List (List LV)} {px py:List Int} {x y:LV} {d id:Int} {l:List Pt} (hx:IsInts lx px) (hy:IsInts ly py) (hd:Fc x y d) (hk:Cs 4294967294 1073741824 (Crv.mk px py d)) (hl:l.length<=1000000) :
 W0 Tryz.prog 104 [.agg [pts l],.agg [.row lx,.row ly,x,y,.int .i64 id]] [.agg [pts (if Qbw l (Pt.mk (Crv.norm (Crv.mk px py d)) id)=0 then put l (Pt.mk (Crv.norm (Crv.mk px py d)) id) else l)],.one (.int .i64 (Qbw l (Pt.mk (Crv.norm (Crv.mk px py d)) id)))]:=by
 have ca:=Zjj (l:=l) id (by omega);have cf:=Zam hx hy hd hk id;obtain ⟨b,r,rfl,rfl,_⟩:=hd;obtain ⟨q,hq⟩:=nmE (Pt.mk (Crv.norm (Crv.mk px py d)) id);have hqi:q.id=id:=by rw [hq]
 rw [<-hq] at cf ⊢;have hpl:=Qu7 l id;by_cases h1:has l id=true
 ·have e:Qbw l q=6:=by simp [Qbw,hqi,h1]
  rw [e,if_neg (by decide)];exact w tt Tryz.func104 rfl [.c [] ca,.t h1] rfl rfl trivial
 by_cases h2:6<=l.length
 ·have e:Qbw l q=9:=by simp [Qbw,hqi,h1,h2]
  rw [e,if_neg (by decide)];exact w tt Tryz.func104 rfl [.c [] ca,.f (by simpa using h1),.t (by simp; omega)] rfl rfl trivial
 have e:Qbw l q=0:=by simp [Qbw,hqi,h1,h2]
 rw [e,if_pos rfl];have s1:∀ c∈(l.map W8).take (Lu l id),c.length=5:=λc hc=>Of l c (Qn hc)
 have s3:∀ c∈(l.map W8).drop (Lu l id),c.length=5:=λc hc=>Of l c (Qz hc)
 refine w tt Tryz.func104 rfl [.c [] ca,.f (by simpa using h1),.f (by simp; omega),.i (Lu l id),.s s1,.c [] cf,.i (Lu l id),.s s3] rfl ?_ ?_
 ·simp [put,hqi,pts,J8,Y6,W8]
 ·simp [Wv];exact ⟨by omega,hpl,λ_ _=>rfl,by omega,by omega,hpl⟩
theorem Qtx {l:List Pt} (hok:∀ p∈l,Q16 4294967294 1073741824 p) (hl:l.length<1073741824):W0 Tryz.prog 113 [.agg [pts l]] [.one (pts (He l))]:=by
 refine U4 Tryz.func113 rfl ?_;refine go tt [.o 3 62 5] rfl trivial ?_;refine lp (S:=Nat) 2 (λL1 i=>(12,.v (.one (.int .i64 (i:Int))))::(3,.v (.one (.orow 1 5 none)))::L1) (λi=>[.blk 149 [pts l],.row false 62 5 (((l.take i).foldl P6 []).map W8)]) (λi=>l.length-i) (λi=>i<=l.length) 0 (Qi _) rfl (λ_ _=>rfl) rfl λi hi=>?_
 by_cases hlt:i<l.length
 ·obtain ⟨p,hp⟩:=gxE (l:=l) (i:=i) hlt;obtain ⟨hn,hk⟩:=hok p (Qa hp);have hws:=Hp P6 [] l hp;have hwl:=Qa6 l i;have hwm:=Qa7 l i;obtain ⟨o,ho⟩:=nmE ((l.take i).foldl P6 []);rw [<-ho] at hws hwl hwm ⊢;refine go tt [.t (by simp; omega),.x (Ho hp)] rfl trivial ?_;refine lp (S:=Nat) 3 (λL1 k=>(18,.v (.one (.int .i64 (k:Int))))::(6,.v (.one (.bool ((o.take k).any λq=>Lh p.c q.c))))::L1) (λk=>[.blk 149 [pts l],.row false 62 5 (o.map W8),.blk 62 (W8 p)]) (λk=>o.length-k) (λk=>k<=o.length) 0 (Qi _) rfl (λ_ _=>rfl) rfl λk hk2=>?_
  by_cases hk3:k<o.length
  ·obtain ⟨q,hq⟩:=gxE (l:=o) (i:=k) hk3;obtain ⟨hqn,hqk⟩:=hok q (hwm q (Qa hq));have hany:((o.take (k+1)).any λq=>Lh p.c q.c)=(((o.take k).any λq=>Lh p.c q.c) || Lh p.c q.c):=by rw [Yt,hq,List.any_append]; simp
   cases hb:(o.take k).any λq=>Lh p.c q.c with
   |
    true =>
    rw [hb] at hany;refine go tt [.t (by simp; omega),.i k,.x (Ho hq),.t rfl,.r 29 (v:=.one (.bool ((o.take (k+1)).any λq=>Lh p.c q.c))) (by rw [hany]; rfl)] rfl (by simp [Wv]; omega) ?_;exact rd (k+1) (by omega) hk3 rfl
   |
    false =>
    rw [hb] at hany;refine go tt [.t (by simp; omega),.i k,.x (Ho hq),.f rfl,.c [] (Zah hn hqn hk hqk),.r 29 (v:=.one (.bool ((o.take (k+1)).any λq=>Lh p.c q.c))) (by rw [hany]; rfl)] rfl (by simp [Wv]; omega) ?_;exact rd (k+1) (by omega) hk3 rfl
  ·obtain rfl:k=o.length:=by omega
   rw [Q4];cases hb:o.any λq=>Lh p.c q.c with
   |
    true =>
    have e:P6 o p=o:=by unfold P6; rw [if_pos hb]
    exact go tt [.f (by simp),.f rfl] rfl (by simp [Wv]; omega) (rd (i+1) (by omega) hlt (by rw [hws,e]; rfl))
   |
    false =>
    have e:P6 o p=o++[p]:=by unfold P6; rw [if_neg (by rw [hb]; decide)]
    exact go tt [.f (by simp),.t rfl] rfl (by simp [Wv]; omega) (rd (i+1) (by omega) hlt (by rw [hws,e,J0]; rfl))
 ·obtain rfl:i=l.length:=by omega
  exact en tt [.f (by simp)] rfl (by rw [Q4]; rfl) trivial
theorem Zc9 (q:Rat):Ua [-q.num,(q.den:Int)]:=by
 have:=q.den_nz;simp [Ua,trim,this]
theorem Zi0 {s:Nat} {q:Rat} (h:Qs s q):Bd s [-q.num,(q.den:Int)]:=λz hz=>by
 simp at hz;rcases hz with rfl | rfl
 ·rw [Lj]; exact h.1
 ·exact h.2
theorem Qaw {x y x' y':LV} {n d:Int} (h1:Fc x y n) (h2:Fc x' y' d) (hn:Ug n<=4294967295) (hd:Ug d<=4294967295) (hq:Qs 4294967295 (Rj n d)):W0 Tryz.prog 69 [.agg [x,y,x',y']] [.agg (qa (Rj n d))]:=by
 have c1:=Qhw h1 h2 hn hd;obtain ⟨b,l,rfl,rfl,_⟩:=h1;obtain ⟨b',l',rfl,rfl,_⟩:=h2;exact w tt Tryz.func69 rfl [.c [] c1,.c [] (Qhq (Wy _) hq.1),.c [] (S8 hq)] rfl rfl trivial
theorem Np {k:Crv} (hn:Nml k) (hk:Cs 4294967294 1073741824 k):W0 Tryz.prog 181 [.agg (cl k)] [.agg (cl k)]:=by
 have h0:k.d≠0:=by have:=hn.2.2.1; omega
 have cm:=Qcj (Ga k.x) (Ga k.y) (Wy k.d) hk h0;rw [show Crv.mk k.x k.y k.d=k from rfl,Crv.norm_of hn] at cm;exact w tt Tryz.func181 rfl [.c [] (Md (Wy k.d) (Qd hk.d (by omega))),.c [] Nc,.f (by simpa using h0),.c [] cm] rfl rfl trivial
theorem Qci {a b:Crv} (ha:Nml a) (hb:Nml b) (ca:Cb a) (cb:Cb b):W0 Tryz.prog 173 [.agg (cl a),.agg (cl b)] [pr (Uu a b)]:=by
 have l1:=ca.lx;have l2:=cb.lx;have l3:=Un b.x a.d;have l4:=Un a.x b.d;exact w tt Tryz.func173 rfl [.c [] (Np ha (ca.mono (by omega) (by omega))),.c [] (Np hb (cb.mono (by omega) (by omega))),.c [] (Sl (by omega) (Wx cb.x (by omega)) (Qd ca.d (by omega))),.c [] (Sl (by omega) (Wx ca.x (by omega)) (Qd cb.d (by omega))),.c [] (Qd7 (by omega) (by omega) (Wx (Uw cb.x ca.d) (by omega)) (Wx (Uw ca.x cb.d) (by omega)))] rfl rfl trivial
theorem Qcf {a b:Crv} (ha:Nml a) (hb:Nml b) (ca:Cb a) (cb:Cb b):W0 Tryz.prog 174 [.agg (cl a),.agg (cl b)] [pr (Ut a b)]:=by
 have l1:=ca.ly;have l2:=cb.ly;have l3:=Un b.y a.d;have l4:=Un a.y b.d;exact w tt Tryz.func174 rfl [.c [] (Np ha (ca.mono (by omega) (by omega))),.c [] (Np hb (cb.mono (by omega) (by omega))),.c [] (Sl (by omega) (Wx cb.y (by omega)) (Qd ca.d (by omega))),.c [] (Sl (by omega) (Wx ca.y (by omega)) (Qd cb.d (by omega))),.c [] (Qd7 (by omega) (by omega) (Wx (Uw cb.y ca.d) (by omega)) (Wx (Uw ca.y cb.d) (by omega)))] rfl rfl trivial
def Ri (ps:List (List Int)):List (List LV):=ps.map λp=>[pl p]
theorem Gs {ps:List (List Int)} {i:Nat} {p:List Int} (h:ps[i]? = some p):(Ri ps)[i]? = some [pl p]:=Gu h
theorem Qpr {p q:List Int}:W0 Tryz.prog 172 [pr p,pr q] [pr (Bz p q)]:=by
 by_cases h:0<p.length
 ·exact w tt Tryz.func172 rfl [.t (by simp; omega)] rfl (by simp only [Bz]; rw [if_pos h]) trivial
 ·exact w tt Tryz.func172 rfl [.f (by simp; exact Qh (by omega))] rfl (by simp only [Bz]; rw [if_neg h]) trivial
theorem Q0e:W0 Tryz.prog 171 [.one (.int .i64 1)] [.one (.int .i64 2)]:=w tt Tryz.func171 rfl [.t rfl,.t rfl] rfl rfl trivial
theorem Q0f:W0 Tryz.prog 171 [.one (.int .i64 2)] [.one (.int .i64 2)]:=w tt Tryz.func171 rfl [.f rfl,.t rfl] rfl rfl trivial
theorem Q0g:W0 Tryz.prog 171 [.one (.int .i64 3)] [.one (.int .i64 3)]:=w tt Tryz.func171 rfl [.f rfl,.f rfl,.t rfl] rfl rfl trivial
theorem Q0h:W0 Tryz.prog 171 [.one (.int .i64 4)] [.one (.int .i64 4)]:=w tt Tryz.func171 rfl [.f rfl,.f rfl,.f rfl,.t rfl,.t rfl] rfl rfl trivial
theorem Q0i:W0 Tryz.prog 171 [.one (.int .i64 5)] [.one (.int .i64 4)]:=w tt Tryz.func171 rfl [.f rfl,.f rfl,.f rfl,.f rfl,.t rfl] rfl rfl trivial
theorem Q2w {k i0 i1 i2 i3 l j0 j1 j2 j3:Int}:W0 Tryz.prog 207 [.agg [.int .i64 k,.int .i64 i0,.int .i64 i1,.int .i64 i2,.int .i64 i3],.agg [.int .i64 l,.int .i64 j0,.int .i64 j1,.int .i64 j2,.int .i64 j3]] [.one (.bool (M6 [k,i0,i1,i2,i3] [l,j0,j1,j2,j3]))]:=by
 by_cases hk:k=l
 ·subst hk;rw [show M6 [k,i0,i1,i2,i3] [k,j0,j1,j2,j3]=M6 [i0,i1,i2,i3] [j0,j1,j2,j3] from by simp [M6]];refine U4 Tryz.func207 rfl ?_;refine go tt [.f (by simp)] rfl trivial ?_;refine lp (S:=Nat) 2 (λL1 i=>(19,.v (.one (.int .i64 (i:Int))))::L1) (λ_=>[.blk 142 [.int .i64 k,.int .i64 i0,.int .i64 i1,.int .i64 i2,.int .i64 i3],.blk 142 [.int .i64 k,.int .i64 j0,.int .i64 j1,.int .i64 j2,.int .i64 j3]]) (λi=>4-i) (λi=>i<=4/\M6 ([i0,i1,i2,i3].drop i) ([j0,j1,j2,j3].drop i)=M6 [i0,i1,i2,i3] [j0,j1,j2,j3]) 0 ⟨by omega,rfl⟩ rfl (λ_ _=>rfl) rfl λi ⟨hi,he⟩=>?_
  rw [<-he];rcases (show i=0\/i=1\/i=2\/i=3\/i=4 by omega) with rfl | rfl | rfl | rfl | rfl
  ·by_cases h:i0=j0
   ·exact go tt [.t rfl,.i 0,.i 0,.f (by simpa using h)] rfl (by simp [Wv]) (rd 1 (by omega) ⟨by omega,by simp [M6,h]⟩ rfl)
   ·exact en tt [.t rfl,.i 0,.i 0,.t (by simpa using h),.i 0] rfl (by simp [M6,h]) trivial
  ·by_cases h:i1=j1
   ·exact go tt [.t rfl,.i 1,.i 1,.f (by simpa using h)] rfl (by simp [Wv]) (rd 2 (by omega) ⟨by omega,by simp [M6,h]⟩ rfl)
   ·exact en tt [.t rfl,.i 1,.i 1,.t (by simpa using h),.i 1] rfl (by simp [M6,h]) trivial
  ·by_cases h:i2=j2
   ·exact go tt [.t rfl,.i 2,.i 2,.f (by simpa using h)] rfl (by simp [Wv]) (rd 3 (by omega) ⟨by omega,by simp [M6,h]⟩ rfl)
   ·exact en tt [.t rfl,.i 2,.i 2,.t (by simpa using h),.i 2] rfl (by simp [M6,h]) trivial
  ·by_cases h:i3=j3
   ·exact go tt [.t rfl,.i 3,.i 3,.f (by simpa using h)] rfl (by simp [Wv]) (rd 4 (by omega) ⟨by omega,by simp [M6,h]⟩ rfl)
   ·exact en tt [.t rfl,.i 3,.i 3,.t (by simpa using h),.i 3] rfl (by simp [M6,h]) trivial
  ·exact en tt [.f rfl] rfl (by simp [M6]) trivial
 ·exact w tt Tryz.func207 rfl [.t (by simpa using hk)] rfl (by simp [M6,hk]) trivial
abbrev zCt:List LV:=[.int .i64 0,.int .i64 0,.int .i64 0,.int .i64 0,.int .i64 0,.nils,.int .i64 0]
def W3 (l:List Ct):List (List LV):=l.map Nj
theorem Qbg {l:List Ct} {i:Nat} {c:Ct} (h:l[i]? = some c):(W3 l)[i]? = some (Nj c):=Gu h
theorem Ry (l:List Ct):(W3 l).length=l.length:=by simp [W3]
theorem Ea (l:List Ct):∀ c∈W3 l,c.length=7:=λc hc=>by
 obtain ⟨x,_,rfl⟩:=Ze.1 hc; rfl
theorem Q5p {O:List Ct} {z:List LV} {c:Ct} {k m:Nat} {l2:List (List LV)} (hk:k<=O.length) (hp:Oc O c O.length=k) (hm:m=O.length-k) (h2:l2.take m=((W3 O++[z]).drop k).take m) :
 ((W3 O++[z]).take (k+1)++(l2.take m++(W3 O++[z]).drop (k+1+m))).set k (Nj c)=W3 (Qbk O c):=by
 rw [h2,<-Q8,Qqs (W3 O) z (Nj c) (by rw [Ry]; omega) (by rw [Ry]; omega)];simp [Qbk,hp,W3,J8,Y6]
theorem Qd8 {l:List Ct} (hl:∀ c∈l,Pb c.p) (hn:l.length≤1000000):W0 Tryz.prog 167 [.one (.row (W3 l))] [.one (.row (W3 (Ui l)))]:=by
 have hcl:=Ry l;refine U4 Tryz.func167 rfl ?_;refine go tt [.o 3 144 7] rfl trivial ?_;refine lp (S:=Nat) 1 (λL1 i=>(9,.v (.one (.int .i64 (i:Int))))::(3,.v (.one (.orow 0 7 none)))::L1) (λi=>[.row false 144 7 (W3 (Ui (l.take i)))]) (λi=>l.length-i) (λi=>i<=l.length) 0 (Qi _) rfl (λ_ _=>rfl) rfl λi hi=>?_
 by_cases hlt:i<l.length
 ·obtain ⟨c,hc⟩:=gxE (l:=l) (i:=i) hlt;have hst:=Qvv hc;have hcp:=hl c (Qa hc);obtain ⟨O,hO⟩:=nmE (Ui (l.take i));have hOl:O.length=i:=by rw [hO,Pz,Qu]; omega
  rw [<-hO] at hst ⊢;refine go tt [.t (by simp [hcl]; omega),.x (Qbg hc)] rfl trivial ?_;refine lp (S:=Nat) 2 (λL1 k=>(6,.v (.one (.int .i64 (k:Int))))::L1) (λk=>[.row false 144 7 (W3 O),.blk 144 (Nj c)]) id (λk=>k<=O.length/\Oc O c k=Oc O c O.length) (W3 O).length ⟨by rw [Ry]; exact Qm _,by rw [Ry]⟩ rfl (λ_ _=>rfl) rfl λk ⟨hk,hp⟩=>?_
  have hz:∀ y∈[zCt],y.length=7:=λy hy=>by rw [Qk.1 hy]; rfl
  have h77:∀ y∈W3 O++[zCt],y.length=7:=λy hy=>by
   rcases Qq.1 hy with hy | hy
   ·exact Ea O y hy
   ·exact hz y hy
  cases k with
  |
   zero =>
   have hp:Oc O c O.length=0:=by rw [<-hp]; rfl
   refine go tt [.g 17 false (by simp),.f rfl,.s (sz:=7) hz,.r 36 (eI (b:=((0+1:Nat):Int)) (by simp)),.i (0+1),.i (0),.s (sz:=7) (λy hy=>h77 y (Qn hy)),.i (O.length),.c [] (Gf hcp.t (by have:=hcp.l; omega) (Wx hcp.b (by omega))),.i (0)] rfl (by simp [Wv,Ry]; omega) ?_;exact rd (i+1) (by omega) hlt (by rw [hst,<-Q5p (z:=zCt) (l2:=(W3 O++[zCt]).take ((W3 O++[zCt]).length-0)) (k:=0) (m:=O.length) (by omega) hp (by omega) (by congr 1; exact Qr (by simp))]; rfl)
  |
   succ k =>
   obtain ⟨x,hx⟩:=gxE (l:=O) (i:=k) (by omega);by_cases hlc:Qqy c x=true
   ·refine go tt [.g 17 true (by simp),.r 22 (eI (b:=(k:Int)) (by simp)),.i k,.x (Qbg hx),.c [] Q2w,.t hlc,.r 29 (eI (b:=(k:Int)) (by simp))] rfl (by simp [Wv,Ry]; omega) ?_;exact rd k (by simp) ⟨by omega,by rw [<-hp,Zcd hx hlc]⟩ rfl
   ·have hlc:Qqy c x=false:=by simpa using hlc
    have hp:Oc O c O.length=k+1:=by rw [<-hp,Q62 hx hlc]
    refine go tt [.g 17 true (by simp),.r 22 (eI (b:=(k:Int)) (by simp)),.i k,.x (Qbg hx),.c [] Q2w,.f hlc,.s (sz:=7) hz,.r 36 (eI (b:=((k+1+1:Nat):Int)) (by simp)),.i (k+1+1),.i (k+1),.s (sz:=7) (λy hy=>h77 y (Qz (Qn hy))),.i (O.length-(k+1)),.c [] (Gf hcp.t (by have:=hcp.l; omega) (Wx hcp.b (by omega))),.i (k+1)] rfl (by simp [Wv,Ry]; omega) ?_;exact rd (i+1) (by omega) hlt (by rw [hst,<-Q5p (z:=zCt) (l2:=((W3 O++[zCt]).drop (k+1)).take ((W3 O++[zCt]).length-(k+1))) (k:=k+1) (m:=O.length-(k+1)) (by omega) hp (by omega) (by congr 1; exact Qr (by simp))]; rfl)
 ·obtain rfl:i=l.length:=by omega
  rw [Q4];exact en tt [.f (by simp [hcl])] rfl rfl trivial
end Orr
namespace Orr
def Uf (p:List Int):Int:=p.getD (p.length-1) 0
def chk (p:List Int):Option (List Int):=if p.length<=64/\(p.all λz=>Nat.ble (Ug z) 16777216)=true then some p else none
def chq (q:Rat):Option Rat:=if Ug q.num<=16777216/\Ug (q.den:Int)<=16777216 then some q else none
def Rl (p:List Int):Int:=(G5 p:Nat)
def M7 (p:List Int) (c:Int):List Int:=trim (p.map (· / c))
def Fv (p:List Int):Int:=if Uf p<0 then -Rl p else Rl p
def Ub (p:List Int):List Int:=if p.length=0 then [] else M7 p (Fv p)
def mono (i:Nat) (x:Int):List Int:=List.replicate i 0++[x]
def psd (b:List Int) (c:Int):Nat->List Int×List Int->List Int×List Int
 | 0,s=>s
 |
  i+1,(q,r) =>
  psd b c i (Qbr (Uv q c) (mono i (if r.length=b.length+i then Uf r else 0)),M3 (Uv r c) (U5 (trim (mono i (if r.length=b.length+i then Uf r else 0))) b))
def Tj (a b:List Int):List Int:=(psd b (Uf b) (a.length+1-b.length) ([],a)).2
def Px (a b r:List Int):List Int:=if (a.length+1-b.length) % 2=1/\Uf b<0 then B9 r else r
def Qa2 (r:List Int):List Int:=if r.length=0 then [] else M7 r (Rl r)
def G6 (a b:List Int):List Int:=Qa2 (Px a b (Tj a b))
def Qn6 (b:List Int):Nat->List Int->List Int->Option (List Int)
 | 0,a,q=>if a.length=0 then some q else none
 | i+1,a,q=>if a.length<b.length+i then Qn6 b i a q else if Uf a % Uf b=0 then Qn6 b i (M3 a (U5 (trim (mono i (Uf a / Uf b))) b)) (q.set i (Uf a / Uf b)) else none
def Od (a b:List Int):Option (List Int):=if b.length=0 then none else (Qn6 b (a.length+1-b.length) a (List.replicate (a.length+1-b.length) 0)).bind λq=>chk (trim q)
def Qfe:Nat->List Int->List Int->Option (List Int)
 | 0,_,_=>none
 | k+1,a,b=>if b.length=0 then some a else (chk (G6 a b)).bind λr=>Qfe k b r
def Og (a b:List Int):Option (List Int):=(Qfe 66 (Ub a) (Ub b)).map Ub
def Qn8 (a b:List Int):Option (List Int):=(Og [] a).bind λg=>Og g b
def Te (a:List Int):Option (List Int):=if (Ub a).length<2 then some (Ub a) else (chk (Fj (Ub a))).bind λd=>(Og (Ub a) d).bind λg=>Od (Ub a) g
def Qer:Nat->List Int->Option (List (List Int))
 | 0,_=>none
 | k+1,g=>if g.length<2 then some [] else (chk (Fj g)).bind λd=>(Og g d).bind λh=>(Od g h).bind λw=>(Qer k h).bind λl=>some (w::l)
def Qj7:List (List Int)->Option (List (List Int))
 | []=>some []
 | [w]=>some [w]
 | w::v::l=>(Od w v).bind λf=>(Qj7 (v::l)).bind λr=>some (f::r)
def Qc8:Nat->List Int->List (List Int)->Option (List Int)
 | _,p,[]=>some p
 | i,p,f::l=>if i % 2=0 then (chk (U5 p f)).bind λq=>Qc8 (i+1) q l else Qc8 (i+1) p l
def Qu6 (a:List Int):Option (List Int):=if (Ub a).length=0 then some [] else (Qer 66 (Ub a)).bind λl=>(Qj7 l).bind λfs=>Qc8 0 [1] fs
def chF:Nat->List Int->List Int->Option (List (List Int))
 | 0,_,_=>none
 | k+1,a,b=>if b.length=0 then some [] else (chk (G6 a b)).bind λr=>(chF k b (B9 r)).bind λl=>some (b::l)
def Df (p:List Int):Option (List (List Int)):=(Te p).bind λa=>if a.length=0 then none else (chk (Fj a)).bind λd=>(chF 66 a (Ub d)).bind λl=>some (a::l)
def Rr (sg:List Int->Int) (s:Nat×Int) (p:List Int):Nat×Int:=if sg p=0 then s else (if s.2=-(sg p) then s.1+1 else s.1,sg p)
def Mw (sg:List Int->Int) (l:List (List Int)):Nat:=(l.foldl (Rr sg) (0,0)).1
def Mx (l:List (List Int)) (q:Rat):Nat:=Mw (λp=>Gk p q) l
def Hg (l:List (List Int)) (lo hi:Rat):Int:=if Fp hi lo<0 then 0 else (Mx l lo:Int)-(Mx l hi:Int)
def Qcq (p:List Int):Int:=Int.sign (Uf p)
def A9 (p:List Int):Int:=if p.length % 2=0 then -Int.sign (Uf p) else Int.sign (Uf p)
def Oi (l:List (List Int)):Int:=(Mw A9 l:Int)-(Mw Qcq l:Int)
def Ib:List Int->Nat:=λl=>l.foldl (λm z=>if m<z.natAbs then z.natAbs else m) 0
def U9 (p:List Int):Rat:=Rat.divInt (((Uf p).natAbs:Int)+(Ib (p.take (p.length-1)):Int)) ((Uf p).natAbs:Int)
def mid (a b:Rat):Rat:=Rat.divInt (a.num*(b.den:Int)+b.num*(a.den:Int)) ((a.den:Int)*(b.den:Int)*2)
def Dz (p:List Int) (c:List (List Int)):Nat->Rat->Rat->Int->Option (List Tm)
 | 0,_,_,_=>none
 | k+1,lo,hi,n=>if n=0 then some [] else if n=1 then some [⟨p,lo,hi⟩] else (chq (mid lo hi)).bind λm=>(Dz p c k lo m (Hg c lo m)).bind λl=>(Dz p c k m hi (n-Hg c lo m)).bind λr=>some (l++r)
def Qjp (p:List Int):Option (List Tm):=(Df p).bind λc=>(Te p).bind λq=>(chq (U9 q)).bind λb=>Dz q c 100000 (-b) b (Oi c)
def Tm.point (a:Tm):Bool:=decide (0<=Fp a.lo a.hi)
def low (p:List Int) (q:Rat):Int:=if Gk p q≠0 then Gk p q else Gk (Fj p) q
def Qcv (p:List Int) (lo hi:Rat):Bool:=decide (Gk p hi=0\/Gk p hi≠low p lo)
def Ue (a:Tm) (t:Rat):Int :=
 if a.point=true then Fp a.lo t else if Fp t a.lo<=0 then 1 else if 0<Fp t a.hi then -1 else if Gk a.p t=0 then 0 else if Gk a.p t=low a.p a.lo then 1 else -1
def Qnk (a:Tm):Option Tm:=if a.point=true then some a else (chq (mid a.lo a.hi)).bind λm =>
 some (if Ue a m=0 then ⟨a.p,m,m⟩ else if Ue a m=-1 then ⟨a.p,a.lo,m⟩ else ⟨a.p,m,a.hi⟩)
def Fe (p:List Int):Nat:=p.foldl (λn z=>max n (Ug z)) 0
def Tc (a b:Tm):Nat:=64+2*(Ug a.lo.num+Ug a.hi.num+Ug b.lo.num+Ug b.hi.num)+4*(a.p.length+b.p.length)*(Fe a.p+Fe b.p+(a.p.length+b.p.length)+8)
def Qjq (a b:Rat):Rat:=Rat.divInt (a.num*(b.den:Int)-b.num*(a.den:Int)) ((a.den:Int)*(b.den:Int))
def Nz (a b:Tm):Bool:=decide (Fp a.hi b.lo<=0/\¬((a.point=true/\b.point=true)/\Fp a.hi b.lo=0))
def apF:Nat->Tm->Tm->Option (Tm×Tm×Int)
 | 0,a,b=>some (a,b,0)
 |
  k+1,a,b=>if Nz a b=true then some (a,b,-1) else if Nz b a=true then some (a,b,1) else
  if 0<=Fp (Qjq a.hi a.lo) (Qjq b.hi b.lo) then (Qnk a).bind λx=>apF k x b else (Qnk b).bind λx=>apF k a x
def Qck (a b:Tm):Option Int:=if a.point=true then some (-Ue b a.lo) else if b.point=true then some (Ue a b.lo) else
 let lo:=if 0<Fp b.lo a.lo then b.lo else a.lo
 let hi:=if Fp b.hi a.hi<0 then b.hi else a.hi
 if Fp lo hi<0 then (Qn8 a.p b.p).bind λg=>if 1<g.length/\Qcv g lo hi=true then some 0 else (apF (Tc a b) a b).bind λr=>some r.2.2
 else (apF (Tc a b) a b).bind λr=>some r.2.2
def sgF (c:List (List Int)):Nat->Tm->Option Tm
 | 0,a=>some a
 | k+1,a=>if a.point=true\/Hg c a.lo a.hi=0 then some a else (Qnk a).bind λx=>sgF c k x
def Qdn (p:List Int) (a:Tm):Option Int:=if p.length=0 then some 0 else if a.point=true then some (Gk p a.lo) else
 (Qn8 p a.p).bind λg=>if 1<g.length/\Qcv g a.lo a.hi=true then some 0 else (Df p).bind λc=>(sgF c (64+2*(Ug a.lo.num+Ug a.hi.num)+4*(a.p.length+p.length)*(Fe a.p+Fe p+(a.p.length+p.length)+8)) a).bind λx=>some (Gk p x.hi)
def Aq:Tm->List Tm->Option Tm
 | b,[]=>some b
 | b,a::l=>(Qck a b).bind λc=>Aq (if c<0 then a else b) l
def Qa0 (a:Tm):List Tm->Option (Option Tm)
 | []=>some none
 | r::l=>(Qck r a).bind λc=>if 0<c then some (some r) else Qa0 a l
def Qb3 (p:List Int):Option (List Tm):=(Qu6 p).bind λq=>if q.length=0 then some [] else Qjp q
def Qfy (p:List Int) (a:Tm):Option (Option Tm):=(Qb3 p).bind λl=>Qa0 a l
end Orr
namespace Orr
open Go Go.Proofs
set_option maxRecDepth 10000
theorem Cq {p:List Int} (tp:Ua p) (h:p.length≠0):Uf p≠0:=G7 tp (by omega)
theorem Qiu {p:List Int} (h:p.length≠0):Uf p∈p:=Qa (Hb (by omega))
theorem Ss {s:Nat} {p:List Int} (h:Bd s p):Ug (Uf p)<=s:=U3 h _
theorem Da {p:List Int}:∀ z∈p,Rl p∣z:=Io
theorem I9 {p:List Int} (tp:Ua p) (h:p.length≠0):Rl p≠0:=λh0=>Cq tp h (Int.zero_dvd.1 (h0 ▸ Da _ (Qiu h)))
theorem O5 {p:List Int} (h:Bd 4294967295 p):Ug (Rl p)<=4294967295:=Qgt h
theorem Qyz {p:List Int} (tp:Ua p) (h:p.length≠0):Fv p≠0:=by
 have:=I9 tp h;unfold Fv; split <;> omega
theorem Qdc {p:List Int}:∀ z∈p,Fv p∣z:=λz hz=>by
 unfold Fv; split
 ·exact Int.neg_dvd.2 (Da z hz)
 ·exact Da z hz
theorem Q5u {p:List Int} (h:Bd 4294967295 p):Ug (Fv p)<=4294967295:=by
 unfold Fv; split
 ·rw [Lj]; exact O5 h
 ·exact O5 h
theorem Qhk {s:Nat} {p:List Int} (h:Bd s p) (c:Int):Bd s (M7 p c):=Ra (Qd3 h c)
theorem Qlj (p:List Int) (c:Int):(M7 p c).length<=p.length:=Qd (G0 _) (by simp)
theorem Ay (p:List Int) (c:Int):Ua (M7 p c):=Hj _
theorem Q6w {p:List Int} (h:Pb p) (c:Int):Pb (M7 p c):=⟨Ay _ _,Qd (Qlj _ _) h.l,Qhk h.b c⟩
theorem Qe0:Pb []:=⟨rfl,by simp,Qa8⟩
theorem Gy {p:List Int} (h:Pb p):Pb (Ub p):=by
 unfold Ub; split
 ·exact Qe0
 ·exact Q6w h _
theorem Pb.bd {p:List Int} (h:Pb p):Bd 4294967295 p:=Wx h.b (by omega)
theorem Pb.ln {p:List Int} (h:Pb p):p.length<274877906944:=Z2 h.l (by omega)
theorem Pb.ln' {p:List Int} (h:Pb p):p.length<8589934592:=Z2 h.l (by omega)
theorem Aj {p q:List Int} (tp:Ua p) (h:chk p=some q):q=p/\Pb p:=by
 unfold chk at h
 split at h
 ·rename_i hc;injection h with h;refine ⟨h.symm,tp,hc.1,λz hz=>?_⟩;have:=Yy.1 hc.2 z hz;exact Q9 this
 ·cases h
theorem Qwx {p:List Int} {g:Int} (hl:p.length<274877906944) (hp:Bd 4294967295 p) (hg:Ug g≤4294967295) (h0:g≠0) (hd:∀ z∈p,g∣z):W0 Tryz.prog 256 [pr p,.agg (Gb g)] [pr (M7 p g)]:=by
 refine U4 Tryz.func256 rfl ?_;refine go tt [.r 9 (eI (b:=(p.length:Int)) (by simp)),.i p.length,.i p.length,.r 12 (eI (b:=(p.length:Int)) (by simp))] rfl (by simp [Wv]; omega) ?_;rw [Dn λk=>Gb (p.getD k 0 / g)];refine lp (S:=Nat) 2 (λL1 k=>(13,.v (.one (.int .i64 (k:Int))))::L1) (λk=>[.blk 36 (Gb g),.row false 36 2 (fil (λk=>Gb (p.getD k 0 / g)) [.bool false,.nils] p.length k)]) (λk=>p.length-k) (λk=>k<=p.length) 0 (Qi _) rfl (λ_ _=>rfl) rfl λk hk=>?_
 by_cases hlt:k<p.length
 ·have hg2:=Hb hlt;refine go tt [.t (by simp; omega),.x (Ta hg2),.c [] (D9 (Wy _) (Wy _) (U3 hp k) hg h0 (Yb (hd _ (Qa hg2)))),.i k] rfl (by simp [Wv,Li]; omega) ?_;have e:=An (λk=>Gb (p.getD k 0 / g)) [.bool false,.nils] hlt;rw [e];exact rd (k+1) (by omega) hlt rfl
 ·obtain rfl:k=p.length:=by omega
  have e:fil (λk=>Gb (p.getD k 0 / g)) [.bool false,.nils] p.length p.length=(p.map (· / g)).map Gb:=by
   rw [Am];refine Xg λi=>?_
   by_cases hi:i<p.length
   ·simp [Jh hi,List.getD,Qf hi]
   ·simp [Q0,hi]
  rw [e];exact en tt [.f (by simp),.c [] (Cm (Ga (p.map (· / g))) (by simp; exact hl) (Qd3 hp g))] rfl rfl trivial
theorem Qd5 {p:List Int} (hl:p.length<8589934592) (hp:Bd 4294967295 p):W0 Tryz.prog 257 [.one (.row [[pl p]])] [.agg (Gb (Rl p))]:=by
 refine U4 Tryz.func257 rfl ?_;refine go tt [.o 3 36 2] rfl trivial ?_;refine lp (S:=Nat) 2 (λL1 i=>(8,.v (.one (.int .i64 (i:Int))))::(3,.v (.one (.orow 1 2 none)))::L1) (λi=>[.blk 36 [.bool false,.nils],.row false 36 2 (if i=0 then [] else p.map Gb)]) (λi=>1-i) (λi=>i<=1) 0 (Qi _) rfl (λ_ _=>rfl) rfl λi hi=>?_
 rcases (show i=0\/i=1 by omega) with rfl | rfl
 ·refine go tt [.t rfl,.x (i:=0) (xs:=[pl p]) rfl,.s (Qjd p)] rfl (by simp [Wv]; omega) ?_;exact rd 1 (by omega) (by omega) rfl
 ·exact en tt [.f rfl,.c [] (Q2s (Ga p) hp)] rfl rfl trivial
theorem Q3r {p:List Int} (tp:Ua p) (hl':p.length<8589934592) (hp:Bd 4294967295 p):W0 Tryz.prog 250 [pr p] [.agg (Gb (if p.length=0 then 0 else Fv p)),pr (Ub p)]:=by
 have hl:p.length<274877906944:=by omega
 have cn:=Gf tp hl hp;by_cases h0:p.length=0
 ·have e:p=[]:=Qh h0;subst e;exact w tt Tryz.func250 rfl [.c [] cn,.t rfl] rfl (by simp [Dx,Ub]; rfl) trivial
 ·have hpf:Ub p=M7 p (Fv p):=by unfold Ub; rw [if_neg h0]
  rw [if_neg h0,hpf];have co:=Qwx hl hp (Q5u hp) (Qyz tp h0) Qdc;by_cases hneg:Uf p<0
  ·have e:Fv p=-Rl p:=by unfold Fv; rw [if_pos hneg]
   rw [e] at co ⊢;exact w tt Tryz.func250 rfl [.c [] cn,.f (by simpa using h0),.c [] (Qd5 hl' hp),.c [] (No tp hl hp),.t (by simpa [Uf] using hneg),.c [] (Qhq (Wy _) (O5 hp)),.c [] co] rfl rfl trivial
  ·have e:Fv p=Rl p:=by unfold Fv; rw [if_neg hneg]
   rw [e] at co ⊢;exact w tt Tryz.func250 rfl [.c [] cn,.f (by simpa using h0),.c [] (Qd5 hl' hp),.c [] (No tp hl hp),.f (by simpa [Uf] using hneg),.c [] co] rfl rfl trivial
theorem Lb {p:List Int} (hp:Pb p):W0 Tryz.prog 228 [pr p] [pr (Ub p)] :=
 w tt Tryz.func228 rfl [.c [] (Q3r hp.t hp.ln' hp.bd)] rfl rfl trivial
theorem Sf (p:List Int):W0 Tryz.prog 138 [pr p] [.one (.int .i64 ((p.length:Int)-1))]:=by
 have h:W0 Tryz.prog 138 [pr p] [.one (.int .i64 (((p.map Gb).length:Int)-1))]:=U4 Tryz.func138 rfl (ln 0 rfl rfl λhl=>en tt [] rfl rfl (by simp [Wv] at hl ⊢; omega));rw [Zm] at h; exact h
theorem Ej (i:Nat) (x:Int):(mono i x).length=i+1:=by simp [mono]
theorem Qhi {s i:Nat} {x:Int} (h:Ug x<=s):Bd s (mono i x):=λz hz=>by
 simp only [mono,Qq,Qk] at hz;rcases hz with hz | rfl
 ·rw [(List.mem_replicate.1 hz).2,Bf]; exact Qi _
 ·exact h
def stq (c:Int) (i:Nat) (x:Int) (q:List Int):List Int:=Qbr (Uv q c) (mono i x)
def str (b:List Int) (c:Int) (i:Nat) (x:Int) (r:List Int):List Int:=M3 (Uv r c) (U5 (trim (mono i x)) b)
theorem Zfj {u t i:Nat} {c x:Int} {q:List Int} (hq:Bd u q) (hc:Ug c<=t) (hx:Ug x<=u):Bd (u+t+8) (stq c i x q) :=
 Wx (Qcd (Uw hq hc) (Qhi hx)) (by omega)
theorem Zbp {c x:Int} {i:Nat} {q:List Int}:(stq c i x q).length<=max q.length (i+1):=by
 have h:=Ix (Uv q c) (mono i x);have h1:=Un q c;rw [Ej] at h;unfold stq; omega
theorem Qnp {i:Nat} {x:Int} {b:List Int}:(U5 (trim (mono i x)) b).length<=i+b.length:=by
 have h:=Rh (trim (mono i x)) b;have h1:=G0 (mono i x);rw [Ej] at h1; omega
theorem Qwk {u t i:Nat} {x:Int} {b:List Int} (hb:Bd t b) (hx:Ug x<=u) (hi:i<=64):Bd (u+t+7) (U5 (trim (mono i x)) b) :=
 Tt (Ra (Qhi hx)) hb (Z2 (G0 _) (by rw [Ej]; omega))
theorem Qtm {u t i:Nat} {c x:Int} {b r:List Int} (hr:Bd u r) (hb:Bd t b) (hc:Ug c<=t) (hx:Ug x<=u) (hi:i<=64):Bd (u+t+8) (str b c i x r) :=
 Wx (Nn (Uw hr hc) (Qwk hb hx hi)) (by omega)
theorem Qnq {c x:Int} {i:Nat} {b r:List Int}:(str b c i x r).length<=max r.length (i+b.length):=by
 have h:=Su (Uv r c) (U5 (trim (mono i x)) b);have h1:=Un r c;have h2:=Qnp (i:=i) (x:=x) (b:=b);unfold str; omega
theorem Qq8 (i:Nat) (x:Int):((List.replicate (i+1) (0:Int)).map Gb).set i (Gb x)=(mono i x).map Gb:=by
 rw [Qu5,mono];congr 1;refine Xg λj=>?_
 simp only [J6,List.getElem?_append,Jl,Ke];by_cases h:j=i
 ·subst h; simp
 ·rw [if_neg (by omega)];by_cases h2:j<i
  ·simp [h2]; omega
  ·rw [if_neg (by omega),if_neg h2];cases hj:j-i with
   | zero=>omega
   | succ m=>simp
theorem Qyh (i:Nat) {x:Int} {y:List LV} (h:y.map Qey=Gb x):(((List.replicate (i+1) [LV.bool false,LV.nils]).set i y).map λc=>c.map Qey)=(mono i x).map Gb:=by
 rw [Ko,Qg4,h]; exact Qq8 i x
theorem Oe {b:List Int} {c:Int} {i:Nat} {q r:List Int} {x:Int} (hx:x=if r.length=b.length+i then Uf r else 0):psd b c (i+1) (q,r)=psd b c i (stq c i x q,str b c i x r):=by
 subst hx; rfl
theorem Q22 {a b:List Int} (ha:Pb a) (hb:Pb b) (h0:b.length≠0):W0 Tryz.prog 254 [pr a,pr b] [pr (psd b (Uf b) (a.length+1-b.length) ([],a)).1,pr (Tj a b),.one (.int .i64 ((a.length+1-b.length:Nat):Int)),.one (.int .i64 0)]:=by
 have hal:=ha.l;have hbl:=hb.l;have hlb:Ug (Uf b)<=16777216:=Ss hb.b;obtain ⟨c,hc⟩:=nmE (Uf b);have cl:=No hb.t hb.ln hb.bd;rw [show b.getD (b.length-1) 0=c from hc.symm] at cl;obtain ⟨k,hk⟩:=nmE (a.length+1-b.length);unfold Tj;rw [<-hc,<-hk];rw [<-hc] at hlb;refine U4 Tryz.func254 rfl ?_;refine go tt [.z 4,.c [] (Gf ha.t ha.ln ha.bd),.c [] (Gf hb.t hb.ln hb.bd),.f (by simpa using h0),.c [] cl,.c [] (Sf a),.c [] (Sf b),.r 27 (eI (b:=(k:Int)) (by omega))] rfl (by simp [Wv]; omega) ?_;refine lp (S:=Nat×List Int×List Int) 1 (λL1 s=>(4,.v (pr s.2.1))::(5,.v (pr s.2.2))::(9,.v (.one (.int .i64 ((s.1:Int)-1))))::L1) (λ_=>[.blk 36 (Gb c)]) (λs=>s.1) (λs=>s.1<=k/\Ua s.2.2/\s.2.1.length<=66/\s.2.2.length<=a.length/\Bd (16777216+(k-s.1)*16777224) s.2.1/\Bd (16777216+(k-s.1)*16777224) s.2.2/\psd b c s.1 s.2=psd b c k ([],a)) (k,[],a) ⟨Qm _,ha.t,by simp,Qm _,Qa8,by simpa using ha.b,rfl⟩ rfl (λ_ _=>rfl) rfl λ⟨i,q,r⟩ ⟨j1,j2,j3,j4,j5,j6,j7⟩=>?_
 dsimp only at j1 j2 j3 j4 j5 j6 j7 ⊢;rw [<-j7];cases i with
 | zero=>exact en tt [.f (by simp)] rfl rfl trivial
 |
  succ i =>
  obtain ⟨x,hx⟩:=nmE (if r.length=b.length+i then Uf r else 0);obtain ⟨u,hu⟩:=nmE (16777216+(k-(i+1))*16777224);rw [<-hu] at j5 j6;have hub:u<=1107296256:=by
   have:(k-(i+1))*16777224<=64*16777224:=Qy _ (by omega);omega
  have hxs:Ug x<=u:=by
   rw [hx]; split
   ·exact Ss j6
   ·rw [Bf]; exact Qi _
  have cs:=Sl (p:=q) (c:=c) (by omega) (Wx j5 (by omega)) (by omega);have cs2:=Sl (p:=r) (c:=c) (by omega) (Wx j6 (by omega)) (by omega);have l1:=Un q c;have l2:=Un r c;have ca:=Qmr (p:=Uv q c) (q:=mono i x) (by omega) (by rw [Ej]; omega) (Wx (Uw j5 hlb) (by omega)) (Wx (Qhi hxs) (by omega));have cm:=Qms (p0:=mono i x) hb.t (by rw [Ej]; omega) (by omega) (Qhi hxs) hb.b (by omega);have l3:=Qnp (i:=i) (x:=x) (b:=b);have cb:=Qd7 (p:=Uv r c) (q:=U5 (trim (mono i x)) b) (by omega) (by omega) (Wx (Uw j6 hlb) (by omega)) (Wx (Qwk hb.b hxs (by omega)) (by omega));have hst:=Oe (b:=b) (c:=c) (q:=q) hx;have hI:i<=k/\Ua (str b c i x r)/\(stq c i x q).length<=66/\(str b c i x r).length<=a.length/\Bd (16777216+(k-i)*16777224) (stq c i x q)/\Bd (16777216+(k-i)*16777224) (str b c i x r):=by
   have l5:=Zbp (c:=c) (x:=x) (i:=i) (q:=q);have l6:=Qnq (c:=c) (x:=x) (i:=i) (b:=b) (r:=r);have hku:u+16777216+8=16777216+(k-i)*16777224:=by
    rw [hu,show k-i=(k-(i+1))+1 from by omega,X4]; omega
   refine ⟨by omega,Ur _ _,by omega,by omega,?_,?_⟩
   ·rw [<-hku]; exact Zfj j5 hlb hxs
   ·rw [<-hku]; exact Qtm j6 hb.b hlb hxs (by omega)
  rw [hst];by_cases h:r.length=b.length+i
  ·refine go tt [.t (by simp <;> omega),.c [] (Sf r),.c [] (Sf b),.t (by simp; omega),.c [] (No j2 (by omega) (Wx j6 (by omega))),.r 44 (eI (b:=((i+1:Nat):Int)) (by omega)),.i (i+1),.i (i+1),.r 47 (eI (b:=(i:Int)) (by omega)),.i i] rfl (by simp [Wv]; omega) ?_;refine nl 2 rfl rfl rfl ?_;rw [Qyh i (x:=x) (by rw [hx,if_pos h]; rfl)];refine go tt [.c [] cs,.c [] ca,.c [] cs2,.c [] cm,.c [] cb,.r 33 (eI (b:=(i:Int)-1) (by omega))] rfl (by simp [Wv]; omega) ?_;exact rd (i,stq c i x q,str b c i x r) (by dsimp only; omega) ⟨hI.1,hI.2.1,hI.2.2.1,hI.2.2.2.1,hI.2.2.2.2.1,hI.2.2.2.2.2,rfl⟩ rfl
  ·refine go tt [.t (by simp <;> omega),.c [] (Sf r),.c [] (Sf b),.f (by simp; omega),.r 44 (eI (b:=((i+1:Nat):Int)) (by omega)),.i (i+1),.i (i+1),.r 47 (eI (b:=(i:Int)) (by omega)),.i i] rfl (by simp [Wv]; omega) ?_;refine nl 2 rfl rfl rfl ?_;rw [Qyh i (x:=x) (by rw [hx,if_neg h,Dx]; rfl)];refine go tt [.c [] cs,.c [] ca,.c [] cs2,.c [] cm,.c [] cb,.r 33 (eI (b:=(i:Int)-1) (by omega))] rfl (by simp [Wv]; omega) ?_;exact rd (i,stq c i x q,str b c i x r) (by dsimp only; omega) ⟨hI.1,hI.2.1,hI.2.2.1,hI.2.2.2.1,hI.2.2.2.2.1,hI.2.2.2.2.2,rfl⟩ rfl
theorem Q65 {b:List Int} {c:Int} (hb:Bd 16777216 b) (hc:Ug c<=16777216) {n:Nat}:∀ (i u:Nat) (q r:List Int),i<=64->i+b.length<=n+1->Ua r->r.length<=n->Bd u r->Ua (psd b c i (q,r)).2/\(psd b c i (q,r)).2.length<=n/\Bd (u+i*16777224) (psd b c i (q,r)).2
 | 0,u,q,r,_,_,h1,h2,h3=>⟨h1,h2,by simpa [psd] using h3⟩
 |
  i+1,u,q,r,hi,hn,h1,h2,h3=>by
  rw [Oe rfl];have hx:Ug (if r.length=b.length+i then Uf r else 0)<=u:=by
   split
   ·exact Ss h3
   ·rw [Bf]; exact Qi _
  have l6:=Qnq (c:=c) (x:=if r.length=b.length+i then Uf r else 0) (i:=i) (b:=b) (r:=r);have:=Q65 hb hc (n:=n) i (u+16777216+8) (stq c i (if r.length=b.length+i then Uf r else 0) q) (str b c i (if r.length=b.length+i then Uf r else 0) r) (by omega) (by omega) (Ur _ _) (by omega) (Qtm h3 hb hc hx (by omega));exact ⟨this.1,this.2.1,Wx this.2.2 (by omega)⟩
theorem Qy3 {a b:List Int} (ha:Pb a) (hb:Pb b) (h0:b.length≠0):Ua (Tj a b)/\(Tj a b).length<=a.length/\Bd 1107296256 (Tj a b):=by
 have hal:=ha.l;by_cases h:b.length<=a.length+1
 ·obtain ⟨h1,h2,h3⟩:=Q65 hb.b (Ss hb.b) (n:=a.length) (a.length+1-b.length) 16777216 [] a (by omega) (by omega) ha.t (Qm _) ha.b;refine ⟨h1,h2,Wx h3 ?_⟩;have:(a.length+1-b.length)*16777224<=64*16777224:=Qy _ (by omega);omega
 ·have e:Tj a b=a:=by unfold Tj; rw [show a.length+1-b.length=0 from by omega]; rfl
  rw [e];exact ⟨ha.t,Qm _,Wx ha.b (by omega)⟩
theorem Qdg {a b r:List Int} {s n:Nat} (h1:Ua r) (h2:r.length<=n) (h3:Bd s r):Ua (Px a b r)/\(Px a b r).length<=n/\Bd s (Px a b r):=by
 unfold Px; split
 ·exact ⟨Ur _ _,Qd (Qiw r) h2,Qmo h3⟩
 ·exact ⟨h1,h2,h3⟩
theorem Qjf {r:List Int} {s n:Nat} (h2:r.length<=n) (h3:Bd s r):Ua (Qa2 r)/\(Qa2 r).length<=n/\Bd s (Qa2 r):=by
 unfold Qa2; split
 ·exact ⟨rfl,by simp,Qa8⟩
 ·exact ⟨Ay _ _,Qd (Qlj _ _) h2,Qhk h3 _⟩
theorem Qde {a b:List Int} (ha:Pb a) (hb:Pb b) (h0:b.length≠0):Ua (G6 a b)/\(G6 a b).length<=a.length/\Bd 1107296256 (G6 a b):=by
 obtain ⟨h1,h2,h3⟩:=Qy3 ha hb h0;obtain ⟨h4,h5,h6⟩:=Qdg (a:=a) (b:=b) h1 h2 h3;exact Qjf h5 h6
theorem Q24 {a b:List Int} (ha:Pb a) (hb:Pb b) (h0:b.length≠0):W0 Tryz.prog 229 [pr a,pr b] [pr (G6 a b),.one (.int .i64 0)]:=by
 obtain ⟨h1,h2,h3⟩:=Qy3 ha hb h0;obtain ⟨h4,h5,h6⟩:=Qdg (a:=a) (b:=b) h1 h2 h3;have hal:=ha.l;have cp:=Q22 ha hb h0;have cl:=No hb.t hb.ln hb.bd;have cn:=Q20 (p:=Tj a b) (by omega) (Wx h3 (by omega));unfold G6;obtain ⟨r,hr⟩:=nmE (Px a b (Tj a b));have cc:=Qd5 (p:=r) (by rw [hr]; omega) (by rw [hr]; exact Wx h6 (by omega));rw [<-hr] at h4 h5 h6 ⊢;obtain ⟨k,hk⟩:=nmE (a.length+1-b.length);rw [<-hk] at cp;have em:((k:Int).tmod 2)=((k % 2:Nat):Int):=by rw [Vs (by omega)]; omega
 have key:Qa2 r=if r.length=0 then [] else M7 r (Rl r):=rfl
 by_cases hz:r.length=0
 ·rw [key,if_pos hz];by_cases hodd:k % 2=1
  ·by_cases hneg:Uf b<0
   ·have e:r=B9 (Tj a b):=by rw [hr]; unfold Px; rw [if_pos ⟨by rw [<-hk]; exact hodd,hneg⟩]
    rw [e] at hz;exact w tt Tryz.func229 rfl [.c [] cp,.f (by simp),.r 22 (eI em),.t (by simp; omega),.c [] cl,.t (by simpa [Uf] using hneg),.c [] cn,.t (by simpa using hz)] rfl rfl (by simp [Wv])
   ·have e:r=Tj a b:=by rw [hr]; unfold Px; rw [if_neg (λh=>hneg h.2)]
    rw [e] at hz;exact w tt Tryz.func229 rfl [.c [] cp,.f (by simp),.r 22 (eI em),.t (by simp; omega),.c [] cl,.f (by simpa [Uf] using hneg),.t (by simpa using hz)] rfl rfl (by simp [Wv])
  ·have e:r=Tj a b:=by rw [hr]; unfold Px; rw [if_neg (λh=>hodd (by rw [hk]; exact h.1))]
   rw [e] at hz;exact w tt Tryz.func229 rfl [.c [] cp,.f (by simp),.r 22 (eI em),.f (by simp; omega),.f rfl,.t (by simpa using hz)] rfl rfl (by simp [Wv])
 ·rw [key,if_neg hz];have cd:=Qwx (p:=r) (g:=Rl r) (by omega) (Wx h6 (by omega)) (O5 (Wx h6 (by omega))) (I9 h4 hz) Da;by_cases hodd:k % 2=1
  ·by_cases hneg:Uf b<0
   ·have e:r=B9 (Tj a b):=by rw [hr]; unfold Px; rw [if_pos ⟨by rw [<-hk]; exact hodd,hneg⟩]
    rw [e] at hz cc cd ⊢;exact w tt Tryz.func229 rfl [.c [] cp,.f (by simp),.r 22 (eI em),.t (by simp; omega),.c [] cl,.t (by simpa [Uf] using hneg),.c [] cn,.f (by simpa using hz),.c [] cc,.c [] cd] rfl rfl (by simp [Wv])
   ·have e:r=Tj a b:=by rw [hr]; unfold Px; rw [if_neg (λh=>hneg h.2)]
    rw [e] at hz cc cd ⊢;exact w tt Tryz.func229 rfl [.c [] cp,.f (by simp),.r 22 (eI em),.t (by simp; omega),.c [] cl,.f (by simpa [Uf] using hneg),.f (by simpa using hz),.c [] cc,.c [] cd] rfl rfl (by simp [Wv])
  ·have e:r=Tj a b:=by rw [hr]; unfold Px; rw [if_neg (λh=>hodd (by rw [hk]; exact h.1))]
   rw [e] at hz cc cd ⊢;exact w tt Tryz.func229 rfl [.c [] cp,.f (by simp),.r 22 (eI em),.f (by simp; omega),.f rfl,.f (by simpa using hz),.c [] cc,.c [] cd] rfl rfl (by simp [Wv])
theorem Zbn {s:Nat} {x:Int} (h:Ug x<=s) (g:Int):Ug (x / g)<=s:=Qd3 (p:=[x]) (λz hz=>by rw [Qk.1 hz]; exact h) g _ (by simp)
def sta (b:List Int) (i:Nat) (x:Int) (a:List Int):List Int:=M3 a (U5 (trim (mono i x)) b)
theorem Zfi {u t i:Nat} {x:Int} {b a:List Int} (ha:Bd u a) (hb:Bd t b) (hx:Ug x<=u) (hi:i<=64):Bd (u+t+8) (sta b i x a) :=
 Wx (Nn ha (Qwk hb hx hi)) (by omega)
theorem Qya {x:Int} {i:Nat} {b a:List Int}:(sta b i x a).length<=max a.length (i+b.length):=by
 have h:=Su a (U5 (trim (mono i x)) b);have h2:=Qnp (i:=i) (x:=x) (b:=b);unfold sta; omega
theorem Q9n (s n:Nat):Bd s (List.replicate n 0):=λz hz=>by rw [(List.mem_replicate.1 hz).2,Bf]; exact Qi _
theorem Zfh {s i:Nat} {l:List Int} {x:Int} (h:Bd s l) (hx:Ug x<=s):Bd s (l.set i x):=λz hz=>by
 rcases Jv hz with hz | rfl
 ·exact h z hz
 ·exact hx
theorem Q2y {a b q:List Int} (ha:Pb a) (hb:Pb b) (h:Od a b=some q):W0 Tryz.prog 292 [pr a,pr b] [pr q,.one (.int .i64 0)]:=by
 unfold Od at h
 split at h
 ·cases h
 rename_i h0;obtain ⟨k,hk⟩:=nmE (a.length+1-b.length);rw [<-hk] at h;obtain ⟨q',hq,hq2⟩:=Qc.1 h;obtain ⟨rfl,hpb⟩:=Aj (Hj _) hq2;have hal:=ha.l;have hbl:=hb.l;refine U4 Tryz.func292 rfl ?_;refine go tt [.c [] (Gf ha.t ha.ln ha.bd),.c [] (Gf hb.t hb.ln hb.bd),.f (by simpa using h0),.r 24 (eI (b:=(k:Int)) (by simp; omega)),.i k,.i k,.r 27 (eI (b:=(k:Int)) (by simp))] rfl (by simp [Wv]; omega) ?_;refine nl 0 rfl rfl rfl ?_;rw [Qg4];refine lp (S:=Nat×List Int×List Int) 1 (λL1 s=>(0,.v (pr s.2.1))::(7,.v (.one (.int .i64 ((s.1:Int)-1))))::L1) (λs=>[.row false 36 2 (s.2.2.map Gb)]) (λs=>s.1) (λs=>s.1<=k/\Ua s.2.1/\s.2.1.length<=a.length/\Bd (16777216+(k-s.1)*16777224) s.2.1/\s.2.2.length=k/\Bd 1107296256 s.2.2/\Qn6 b s.1 s.2.1 s.2.2=some q') (k,a,List.replicate k 0) ⟨Qm _,ha.t,Qm _,by simpa using ha.b,by simp,Q9n _ _,hq⟩ rfl (λ_ _=>rfl) rfl λ⟨i,A,Q⟩ ⟨j1,j2,j3,j4,j5,j7,j6⟩=>?_
 dsimp only at j1 j2 j3 j4 j5 j6 j7 ⊢;cases i with
 |
  zero =>
  simp only [Qn6] at j6
  split at j6
  ·rename_i hA;injection j6 with j6; subst j6;exact en tt [.f (by simp),.f (by simpa using hA),.c [] (Cm (Ga Q) (by omega) (Wx j7 (by omega)))] rfl rfl trivial
  ·cases j6
 |
  succ i =>
  obtain ⟨u,hu⟩:=nmE (16777216+(k-(i+1))*16777224);rw [<-hu] at j4;have hub:u<=1107296256:=by
   have:(k-(i+1))*16777224<=64*16777224:=Qy _ (by omega);omega
  have hku:u+16777216+8=16777216+(k-i)*16777224:=by
   rw [hu,show k-i=(k-(i+1))+1 from by omega,X4]; omega
  simp only [Qn6] at j6;by_cases hlt:A.length<b.length+i
  ·rw [if_pos hlt] at j6;refine go tt [.t (by simp <;> omega),.c [] (Sf A),.c [] (Sf b),.t (by simp; omega),.r 32 (eI (b:=(i:Int)-1) (by omega))] rfl (by simp [Wv]; omega) ?_;exact rd (i,A,Q) (by dsimp only; omega) ⟨by dsimp only; omega,j2,j3,Wx j4 (by dsimp only; omega),j5,j7,j6⟩ rfl
  ·rw [if_neg hlt] at j6
   split at j6
   ·rename_i hdv;obtain ⟨x,hx⟩:=nmE (Uf A / Uf b);rw [<-hx] at j6;have hxs:Ug x<=u:=by rw [hx]; exact Zbn (Ss j4) _
    have ce:=D9 (Wy (Uf A)) (Wy (Uf b)) (Qd (Ss j4) (by omega)) (Qd (Ss hb.b) (by omega)) (Cq hb.t h0) hdv;rw [<-hx] at ce;have cm:W0 Tryz.prog 202 [.one (.row ((mono i x).map Gb)),pr b] [pr (U5 (trim (mono i x)) b)]:=Qms (p0:=mono i x) hb.t (by rw [Ej]; omega) (by omega) (Qhi hxs) hb.b (by omega);have l3:=Qnp (i:=i) (x:=x) (b:=b);have l4:=Qya (i:=i) (x:=x) (b:=b) (a:=A);have cb:=Qd7 (p:=A) (q:=U5 (trim (mono i x)) b) (by omega) (by omega) (Wx j4 (by omega)) (Wx (Qwk hb.b hxs (by omega)) (by omega));refine go tt [.t (by simp <;> omega),.c [] (Sf A),.c [] (Sf b),.f (by simp; omega),.c [] (No j2 (by omega) (Wx j4 (by omega))),.c [] (No hb.t hb.ln hb.bd),.c [] ce,.f rfl,.r 51 (eI (b:=(i:Int)) (by omega)),.i i,.r 55 (eI (b:=((i+1:Nat):Int)) (by omega)),.i (i+1),.i (i+1),.r 58 (eI (b:=(i:Int)) (by omega))] rfl (by simp [Wv]; omega) ?_;refine nl 2 rfl rfl rfl ?_;rw [Qg4,Qu5];rw [<-Qq8 i x] at cm;refine go tt [.i i,.c [] cm,.c [] cb,.r 32 (eI (b:=(i:Int)-1) (by omega))] rfl (by simp [Wv]; omega) ?_;exact rd (i,sta b i x A,Q.set i x) (by dsimp only; omega) ⟨by dsimp only; omega,Ur _ _,by dsimp only; omega,by dsimp only; rw [<-hku]; exact Zfi j4 hb.b hxs (by omega),by simpa using j5,Zfh j7 (Nat.le_trans hxs hub),j6⟩ rfl
   ·cases j6
theorem Qu3 {a b q:List Int} (h:Od a b=some q):Pb q:=by
 unfold Od at h
 split at h
 ·cases h
 ·obtain ⟨q',_,hq2⟩:=Qc.1 h;obtain ⟨rfl,hpb⟩:=Aj (Hj _) hq2;exact hpb
theorem Q3s {a b q:List Int} (ha:Pb a) (hb:Pb b) (h:Od a b=some q):W0 Tryz.prog 275 [pr a,pr b] [pr q] :=
 w tt Tryz.func275 rfl [.c [] (Q2y ha hb h)] rfl rfl trivial
theorem Qov:∀ {k:Nat} {a b g:List Int},Pb a->Pb b->Qfe k a b=some g->Pb g
 | 0,_,_,_,_,_,h=>by cases h
 |
  k+1,a,b,g,ha,hb,h=>by
  simp only [Qfe] at h
  split at h
  ·injection h with h; subst h; exact ha
  ·rename_i h0;obtain ⟨r,hr,h⟩:=Qc.1 h;obtain ⟨rfl,hpb⟩:=Aj (Qde ha hb h0).1 hr;exact Qov hb hpb h
theorem Qw2 {a b g:List Int} (ha:Pb a) (hb:Pb b) (h:Og a b=some g):W0 Tryz.prog 191 [pr a,pr b] [pr g]:=by
 unfold Og at h;obtain ⟨g',h2,rfl⟩:=Yl.1 h;have hg:=Qov (Gy ha) (Gy hb) h2;refine U4 Tryz.func191 rfl ?_;refine go tt [.c [] (Lb ha),.c [] (Lb hb)] rfl trivial ?_;refine lp (S:=Nat×List Int×List Int) 0 (λL1 s=>(0,.v (pr s.2.1))::(1,.v (pr s.2.2))::L1) (λ_=>[]) (λs=>s.1) (λs=>Pb s.2.1/\Pb s.2.2/\Qfe s.1 s.2.1 s.2.2=some g') (66,Ub a,Ub b) ⟨Gy ha,Gy hb,h2⟩ rfl (λ_ _=>rfl) rfl λ⟨k,A,C⟩ ⟨j1,j2,j3⟩=>?_
 dsimp only at j1 j2 j3 ⊢;cases k with
 | zero=>cases j3
 |
  succ k =>
  simp only [Qfe] at j3
  split at j3
  ·rename_i h0;injection j3 with j3; subst j3;exact en tt [.f (by simpa using h0),.c [] (Lb j1)] rfl rfl trivial
  ·rename_i h0;obtain ⟨r,hr,j3⟩:=Qc.1 j3;obtain ⟨rfl,hpb⟩:=Aj (Qde j1 j2 h0).1 hr;refine go tt [.t (by simp; omega),.c [] (Q24 j1 j2 h0)] rfl trivial ?_;exact rd (k,C,G6 A C) (by dsimp only; omega) ⟨j2,hpb,j3⟩ rfl
theorem Qe2 {a b g:List Int} (ha:Pb a) (hb:Pb b) (h:Og a b=some g):Pb g:=by
 unfold Og at h;obtain ⟨g',h2,rfl⟩:=Yl.1 h;exact Gy (Qov (Gy ha) (Gy hb) h2)
theorem Q2z {a b g:List Int} (ha:Pb a) (hb:Pb b) (h:Qn8 a b=some g):W0 Tryz.prog 137 [.one (.row (Ri [a,b]))] [pr g]:=by
 unfold Qn8 at h;obtain ⟨g1,h1,h2⟩:=Qc.1 h;have hg1:=Qe2 Qe0 ha h1;refine U4 Tryz.func137 rfl ?_;refine go tt [.z 3] rfl trivial ?_;refine lp (S:=Nat) 0 (λL1 i=>(8,.v (.one (.int .i64 (i:Int))))::(3,.v (pr (if i=0 then [] else if i=1 then g1 else g)))::L1) (λ_=>[]) (λi=>2-i) (λi=>i<=2) 0 (Qi _) rfl (λ_ _=>rfl) rfl λi hi=>?_
 rcases (show i=0\/i=1\/i=2 by omega) with rfl | rfl | rfl
 ·refine go tt [.t rfl,.x (Gs (i:=0) (p:=a) rfl),.c [] (Qw2 Qe0 ha h1)] rfl (by simp [Wv]) ?_;exact rd 1 (by omega) (by omega) rfl
 ·refine go tt [.t rfl,.x (Gs (i:=1) (p:=b) rfl),.c [] (Qw2 hg1 hb h2)] rfl (by simp [Wv]) ?_;exact rd 2 (by omega) (by omega) rfl
 ·exact en tt [.f rfl] rfl rfl trivial
theorem Q6t {a b g:List Int} (ha:Pb a) (hb:Pb b) (h:Qn8 a b=some g):Pb g:=by
 unfold Qn8 at h;obtain ⟨g1,h1,h2⟩:=Qc.1 h;exact Qe2 (Qe2 Qe0 ha h1) hb h2
theorem Qi9 {p d:List Int} (h:chk (Fj p)=some d):d=Fj p/\Pb (Fj p):=Aj (Ur _ _) h
theorem Qhs {a g:List Int} (ha:Pb a) (h:Te a=some g):W0 Tryz.prog 249 [pr a] [pr g]:=by
 have hp:=Gy ha;unfold Te at h
 split at h
 ·rename_i h0;injection h with h; subst h;exact w tt Tryz.func249 rfl [.c [] (Lb ha),.c [] (Sf _),.t (by simp; omega)] rfl rfl trivial
 ·rename_i h0;obtain ⟨d,h1,h⟩:=Qc.1 h;obtain ⟨rfl,hd⟩:=Qi9 h1;obtain ⟨g1,h1,h⟩:=Qc.1 h;exact w tt Tryz.func249 rfl [.c [] (Lb ha),.c [] (Sf _),.f (by simp; omega),.c [] (L6 hp.ln hp.bd),.c [] (Qw2 hp hd h1),.c [] (Q3s hp (Qe2 hp hd h1) h)] rfl rfl trivial
theorem Qe1 {a g:List Int} (ha:Pb a) (h:Te a=some g):Pb g:=by
 unfold Te at h
 split at h
 ·injection h with h; subst h; exact Gy ha
 ·obtain ⟨d,h1,h⟩:=Qc.1 h;obtain ⟨g1,h1,h⟩:=Qc.1 h;exact Qu3 h
theorem Q6u {p:List Int} (h:Pb p):Pb (B9 p):=⟨Ur _ _,Qd (Qiw p) h.l,Qmo h.b⟩
theorem Qt2:∀ {k:Nat} {a b:List Int} {l:List (List Int)},Pb a->Pb b->chF k a b=some l->l.length≤k/\∀ p∈l,Pb p
 | 0,_,_,_,_,_,h=>by cases h
 |
  k+1,a,b,l,ha,hb,h=>by
  simp only [chF] at h
  split at h
  ·injection h with h; subst h; exact ⟨by simp,λp hp=>by cases hp⟩
  ·rename_i h0;obtain ⟨r,hr,h⟩:=Qc.1 h;obtain ⟨rfl,hpb⟩:=Aj (Qde ha hb h0).1 hr;obtain ⟨l',h1,h⟩:=Qc.1 h;injection h with h; subst h;obtain ⟨i1,i2⟩:=Qt2 hb (Q6u hpb) h1;refine ⟨by simp; exact i1,λp hp=>?_⟩;rcases Ql.1 hp with rfl | hp
   ·exact hb
   ·exact i2 p hp
theorem chain_ok {p:List Int} {l:List (List Int)} (hp:Pb p) (h:Df p=some l):l.length≤67/\∀ q∈l,Pb q:=by
 unfold Df at h;obtain ⟨a,h1,h⟩:=Qc.1 h;have ha:=Qe1 hp h1
 split at h
 ·cases h
 ·obtain ⟨d,h2,h⟩:=Qc.1 h;obtain ⟨rfl,hd⟩:=Qi9 h2;obtain ⟨l',h3,h⟩:=Qc.1 h;injection h with h; subst h;obtain ⟨i1,i2⟩:=Qt2 ha (Gy hd) h3;refine ⟨by simp; omega,λp hp=>?_⟩;rcases Ql.1 hp with rfl | hp
  ·exact ha
  ·exact i2 p hp
theorem Qje (l:List (List Int)) (p:List Int):Ri l++[[pl p]]=Ri (l++[p]):=by simp [Ri]
theorem Db (l:List (List Int)):(Ri l).length=l.length:=by simp [Ri]
theorem Q26 {p:List Int} {l:List (List Int)} (hp:Pb p) (h:Df p=some l):W0 Tryz.prog 214 [pr p] [.one (.sh [.row (Ri l)]),.one (.int .i64 0)]:=by
 unfold Df at h;obtain ⟨a,h1,h⟩:=Qc.1 h;have ha:=Qe1 hp h1
 split at h
 ·cases h
 rename_i h0;obtain ⟨d,h2,h⟩:=Qc.1 h;obtain ⟨rfl,hd⟩:=Qi9 h2;obtain ⟨l',h3,h⟩:=Qc.1 h;injection h with h; subst h;refine U4 Tryz.func214 rfl ?_;refine go tt [.c [] (Qhs hp h1),.f (by simpa using h0),.lo,.c [] (L6 ha.ln ha.bd),.c [] (Q3r hd.t hd.ln' hd.bd)] rfl (by simp [Wv]) ?_;obtain ⟨z,hz⟩:=nmE (if (Fj a).length=0 then 0 else Fv (Fj a));rw [<-hz];refine sb [(4,.v (pr a)),(7,.v (pr (Ub (Fj a)))),(5,.v (.one (.ow 1 0)))] [.row false 33 1 [[pl a]],.blk 321 [.orow 0 1 none],.blk 36 (Gb z)] rfl rfl ?_;have hll:=(Qt2 ha (Gy hd) h3).1;refine lp (S:=Nat×List (List Int)×List Int×List Int) 3 (λL1 s=>(4,.v (pr s.2.2.1))::(7,.v (pr s.2.2.2))::L1) (λs=>[.row false 33 1 (Ri s.2.1),.blk 321 [.orow 0 1 none],.blk 36 (Gb z)]) (λs=>s.1) (λs=>Pb s.2.2.1/\Pb s.2.2.2/\∃ m,chF s.1 s.2.2.1 s.2.2.2=some m/\s.2.1++m=a::l') (66,[a],a,Ub (Fj a)) ⟨ha,Gy hd,l',h3,rfl⟩ rfl (λ_ _=>rfl) rfl λ⟨k,out,A,C⟩ ⟨j1,j2,m,j3,j4⟩=>?_
 dsimp only at j1 j2 j3 j4 ⊢;have hol:out.length<=67:=by have:=congrArg List.length j4; simp at this; omega
 cases k with
 | zero=>cases j3
 |
  succ k =>
  simp only [chF] at j3
  split at j3
  ·rename_i h0;injection j3 with j3; subst j3;rw [Zw] at j4;rw [<-j4];exact en tt [.f (by simpa using h0)] rfl rfl trivial
  ·rename_i h0;obtain ⟨r,hr,j3⟩:=Qc.1 j3;obtain ⟨rfl,hpb⟩:=Aj (Qde j1 j2 h0).1 hr;obtain ⟨m',j6,j5⟩:=Qc.1 j3;injection j5 with j5; subst j5;refine go tt [.t (by simp; omega),.s (sz:=1) (λc hc=>by rw [Qk.1 hc]; rfl),.c [] (Q24 j1 j2 h0),.c [] (Q20 hpb.ln hpb.bd)] rfl (by simp [Wv,Db]; omega) ?_;exact rd (k,out++[C],C,B9 (G6 A C)) (by dsimp only; omega) ⟨j2,Q6u hpb,m',j6,by rw [<-j4]; simp⟩ (by rw [Qje]; rfl)
structure Tb (t:Tm):Prop where
 p:Pb t.p
 lo:Qb t.lo
 hi:Qb t.hi
theorem Qxb (x y:Int):-1<=Bb x y/\Bb x y<=1:=by unfold Bb; split <;> (try split) <;> omega
theorem Ak (a b:Rat):-1<=Fp a b/\Fp a b<=1:=Qxb _ _
theorem Ex (p:List Int) (q:Rat):-1<=Gk p q/\Gk p q<=1:=Qxb _ _
theorem Quu (p:List Int) (q:Rat):-1<=low p q/\low p q<=1:=by unfold low; split <;> exact Ex _ _
theorem Qb.s31 {q:Rat} (h:Qb q):Qs 2147483647 q:=h.mono (by decide)
theorem Qb.s32 {q:Rat} (h:Qb q):Qs 4294967295 q:=h.mono (by decide)
theorem Qf9 {p:List Int} {q:Rat} (hp:Pb p) (hq:Qb q):W0 Tryz.prog 189 [pr p,.agg (rl q)] [.one (.int .i64 (Gk p q))]:=by
 have hm:p.length*(16777216+1)<=64*16777217:=Qy _ hp.l;exact Qwr hp.t hp.ln hp.b hq (by omega)
theorem Zjb {p:List Int} {q:Rat} (hp:Pb p) (hq:Qb q):W0 Tryz.prog 189 [pr (Fj p),.agg (rl q)] [.one (.int .i64 (Gk (Fj p) q))]:=by
 have hl:=Qd (Bi p) (show p.length-1<=64 by have:=hp.l; omega);have hm:(Fj p).length*(16777216+1)<=64*16777217:=Qy _ hl;exact Qwr (Ur _ _) (Z2 hl (by omega)) (Qwl (t:=6) hp.b hp.l) hq (by omega)
theorem Ba {t:Tm} (ht:Tb t):W0 Tryz.prog 135 [.agg (ta t)] [.one (.bool t.point)] :=
 w tt Tryz.func135 rfl [.c [] (Nf ht.lo.s31 ht.hi.s31)] rfl rfl trivial
theorem Qgn {t:Tm} (ht:Tb t):W0 Tryz.prog 134 [.agg (ta t)] [.agg (ta t)] :=
 w tt Tryz.func134 rfl [.c [] (Gf ht.p.t ht.p.ln ht.p.bd),.c [] (S8 ht.lo.s32),.c [] (S8 ht.hi.s32)] rfl rfl trivial
theorem Q3x {t:Tm} (ht:Tb t):W0 Tryz.prog 83 [.agg (ta t)] [.agg (ta t)]:=w tt Tryz.func83 rfl [.c [] (Qgn ht)] rfl rfl trivial
theorem Q3m {p:List Int} {q:Rat} (hp:Pb p) (hq:Qb q):W0 Tryz.prog 190 [pr p,.agg (rl q)] [.one (.int .i64 (low p q))]:=by
 unfold low;by_cases h:Gk p q=0
 ·rw [if_neg (by simpa using h)];exact w tt Tryz.func190 rfl [.c [] (Qf9 hp hq),.f (by simpa using h),.c [] (L6 hp.ln hp.bd),.c [] (Zjb hp hq)] rfl rfl trivial
 ·rw [if_pos h];exact w tt Tryz.func190 rfl [.c [] (Qf9 hp hq),.t (by simpa using h)] rfl rfl trivial
theorem Q3k {p:List Int} {lo hi:Rat} (hp:Pb p) (hl:Qb lo) (hh:Qb hi):W0 Tryz.prog 139 [pr p,.agg (rl lo),.agg (rl hi)] [.one (.bool (Qcv p lo hi))]:=by
 by_cases h:Gk p hi=0
 ·exact w tt Tryz.func139 rfl [.c [] (Qf9 hp hh),.t (by simpa using h)] rfl (by simp [Qcv,h]) trivial
 ·exact w tt Tryz.func139 rfl [.c [] (Qf9 hp hh),.f (by simpa using h),.c [] (Q3m hp hl)] rfl (by simp [Qcv,h]) trivial
theorem Nb {t:Tm} {q:Rat} (ht:Tb t) (hq:Qb q):W0 Tryz.prog 136 [.agg (ta t),.agg (rl q)] [.one (.int .i64 (Ue t q))]:=by
 have cp:=Ba ht;unfold Ue;by_cases h1:t.point=true
 ·rw [if_pos h1];exact w tt Tryz.func136 rfl [.c [] cp,.t h1,.c [] (Nf ht.lo.s31 hq.s31)] rfl rfl trivial
 rw [if_neg h1];have h1:t.point=false:=by simpa using h1
 have c1:=Nf hq.s31 ht.lo.s31;have c2:=Nf hq.s31 ht.hi.s31;by_cases h2:Fp q t.lo<=0
 ·rw [if_pos h2];exact w tt Tryz.func136 rfl [.c [] cp,.f h1,.c [] c1,.t (by simpa using h2)] rfl rfl trivial
 rw [if_neg h2];by_cases h3:0<Fp q t.hi
 ·rw [if_pos h3];exact w tt Tryz.func136 rfl [.c [] cp,.f h1,.c [] c1,.f (by simpa using h2),.c [] c2,.t (by simpa using h3)] rfl rfl trivial
 rw [if_neg h3];by_cases h4:Gk t.p q=0
 ·rw [if_pos h4];exact w tt Tryz.func136 rfl [.c [] cp,.f h1,.c [] c1,.f (by simpa using h2),.c [] c2,.f (by simpa using h3),.c [] (Qf9 ht.p hq),.t (by simpa using h4)] rfl rfl trivial
 rw [if_neg h4];by_cases h5:Gk t.p q=low t.p t.lo
 ·rw [if_pos h5];exact w tt Tryz.func136 rfl [.c [] cp,.f h1,.c [] c1,.f (by simpa using h2),.c [] c2,.f (by simpa using h3),.c [] (Qf9 ht.p hq),.f (by simpa using h4),.c [] (Q3m ht.p ht.lo),.t (by simpa using h5)] rfl rfl trivial
 ·rw [if_neg h5];exact w tt Tryz.func136 rfl [.c [] cp,.f h1,.c [] c1,.f (by simpa using h2),.c [] c2,.f (by simpa using h3),.c [] (Qf9 ht.p hq),.f (by simpa using h4),.c [] (Q3m ht.p ht.lo),.f (by simpa using h5)] rfl rfl trivial
theorem Zax (t:Tm) (q:Rat):-1<=Ue t q/\Ue t q<=1:=by
 unfold Ue;have:=Ak t.lo q
 repeat' split
 all_goals omega
theorem Za5 (q:Rat):0<(q.den:Int):=by have:=q.den_pos; omega
theorem Zd1 {a b:Rat} (ha:Qb a) (hb:Qb b):W0 Tryz.prog 231 [.agg (rl a),.agg (rl b)] [.agg (rl (mid a b))]:=by
 have h1:Ug (a.num*(b.den:Int))<=33554432:=Qd (Fz _ _) (by have:=ha.1; have:=hb.2; omega);have h2:Ug (b.num*(a.den:Int))<=33554432:=Qd (Fz _ _) (by have:=hb.1; have:=ha.2; omega);have h3:Ug ((a.den:Int)*(b.den:Int))<=33554432:=Qd (Fz _ _) (by have:=ha.2; have:=hb.2; omega);have h4:Ug (2:Int)<=2:=by decide
 have h5:Ug (a.num*(b.den:Int)+b.num*(a.den:Int))<=33554433:=Qd (Qcz _ _) (by omega);have h6:Ug ((a.den:Int)*(b.den:Int)*2)<=33554434:=Qd (Fz _ _) (by omega);have h0:(a.den:Int)*(b.den:Int)*2≠0:=by
  have:=Int.mul_pos (Za5 a) (Za5 b); omega
 exact w tt Tryz.func231 rfl [.c [] (Qmv ha.s31 hb.s31),.c [] (Qbb (Wy _) (Wy _) (by omega) (by omega)),.c [] (Qmq (z:=2) (by decide)),.c [] (Pf (Wy _) (Wy _) (by omega) (by omega)),.c [] (Ih h0 (by omega) (by omega))] rfl rfl trivial
theorem Qmy {a b:Rat} (ha:Qb a) (hb:Qb b):W0 Tryz.prog 193 [.agg (rl a),.agg (rl b)] [.agg (rl (Qjq a b))]:=by
 have h1:Ug (a.num*(b.den:Int))<=33554432:=Qd (Fz _ _) (by have:=ha.1; have:=hb.2; omega);have h2:Ug (b.num*(a.den:Int))<=33554432:=Qd (Fz _ _) (by have:=hb.1; have:=ha.2; omega);have h3:Ug ((a.den:Int)*(b.den:Int))<=33554432:=Qd (Fz _ _) (by have:=ha.2; have:=hb.2; omega);have h5:Ug (a.num*(b.den:Int)-b.num*(a.den:Int))<=33554433:=Qd (Qno _ _) (by omega);have h0:(a.den:Int)*(b.den:Int)≠0:=by
  have:=Int.mul_pos (Za5 a) (Za5 b); omega
 exact w tt Tryz.func193 rfl [.c [] (Qmv ha.s31 hb.s31),.c [] (Q3g (Wy _) (Wy _) (by omega) (by omega)),.c [] (Ih h0 (by omega) (by omega))] rfl rfl trivial
theorem Qh1 {q r:Rat} (h:chq q=some r):r=q/\Qb q:=by
 unfold chq at h
 split at h
 ·rename_i hc; injection h with h; exact ⟨h.symm,hc⟩
 ·cases h
theorem Qty {t u:Tm} (ht:Tb t) (h:Qnk t=some u):W0 Tryz.prog 194 [.agg (ta t)] [.agg (ta u)]:=by
 have cp:=Ba ht;unfold Qnk at h
 split at h
 ·rename_i h1;injection h with h; subst h;exact w tt Tryz.func194 rfl [.c [] cp,.t h1] rfl rfl trivial
 ·rename_i h1;have h1:t.point=false:=by simpa using h1
  obtain ⟨m,hm0,h⟩:=Qc.1 h;obtain ⟨rfl,hm⟩:=Qh1 hm0;injection h with h;subst h;have cm:=Zd1 ht.lo ht.hi;have cc:=Nb ht hm;by_cases h2:Ue t (mid t.lo t.hi)=0
  ·rw [if_pos h2];exact w tt Tryz.func194 rfl [.c [] cp,.f h1,.c [] cm,.c [] cc,.t (by simpa using h2)] rfl rfl trivial
  rw [if_neg h2];by_cases h3:Ue t (mid t.lo t.hi)=-1
  ·rw [if_pos h3];exact w tt Tryz.func194 rfl [.c [] cp,.f h1,.c [] cm,.c [] cc,.f (by simpa using h2),.t (by simpa using h3)] rfl rfl trivial
  ·rw [if_neg h3];exact w tt Tryz.func194 rfl [.c [] cp,.f h1,.c [] cm,.c [] cc,.f (by simpa using h2),.f (by simpa using h3)] rfl rfl trivial
theorem Qoo {t u:Tm} (ht:Tb t) (h:Qnk t=some u):Tb u:=by
 unfold Qnk at h
 split at h
 ·injection h with h; subst h; exact ht
 ·obtain ⟨m,hm0,h⟩:=Qc.1 h;obtain ⟨rfl,hm⟩:=Qh1 hm0;injection h with h;subst h
  repeat' split
  ·exact ⟨ht.p,hm,hm⟩
  ·exact ⟨ht.p,ht.lo,hm⟩
  ·exact ⟨ht.p,hm,ht.hi⟩
theorem Ag {z:Int} (h:Ug z<=4294967296):W0 Tryz.prog 206 [.one (mg z)] [.one (.int .i64 (Ug z:Int))]:=by
 have h1:=Qts (l:=Uo z.natAbs) (Bv _) (by rw [Fb]; exact h);rw [Fb] at h1; exact h1
theorem Qjk {p:List Int} {i:Nat} {z:Int} (h:p[i]? = some z):Fe (p.take (i+1))=max (Fe (p.take i)) (Ug z):=by
 unfold Fe; rw [List.take_succ,h,Option.toList_some,List.foldl_append]; rfl
theorem Tp {p:List Int} {s:Nat} (h:Bd s p):∀ i,Fe (p.take i)<=s
 | 0=>by simp [Fe]
 |
  i+1=>by
  cases hz:p[i]? with
  |
   none =>
   rw [Qr (by have:=Xo.1 hz; omega),<-Qr (l:=p) (i:=i) (by have:=Xo.1 hz; omega)];exact Tp h i
  | some z=>rw [Qjk hz]; have:=Tp h i; have:=Q2i h hz; omega
theorem Qmz {p:List Int} (hp:Pb p):W0 Tryz.prog 230 [pr p] [.one (.int .i64 (Fe p:Int))]:=by
 have hl:=hp.l;refine U4 Tryz.func230 rfl ?_;refine go tt [] rfl trivial ?_;refine lp (S:=Nat) 0 (λL1 i=>(8,.v (.one (.int .i64 (i:Int))))::(3,.v (.one (.int .i64 (Fe (p.take i):Int))))::L1) (λ_=>[]) (λi=>p.length-i) (λi=>i<=p.length) 0 (Qi _) rfl (λ_ _=>rfl) rfl λi hi=>?_
 by_cases hlt:i<p.length
 ·have hg:=Hb hlt;have hz:=U3 hp.b i;have hs:=Qjk hg;refine go tt [.t (by simp; omega),.x (Ta hg),.c [] (Ag (by omega)),.r 16 (eI (b:=(Fe (p.take (i+1)):Int)) (by rw [hs]; omega))] rfl (by simp [Wv]; omega) ?_;exact rd (i+1) (by omega) hlt rfl
 ·obtain rfl:i=p.length:=by omega
  rw [Q4];exact en tt [.f (by simp)] rfl rfl trivial
theorem Zas {a:Tm} {b:Tm} (ha:Tb a) (hb:Tb b):W0 Tryz.prog 192 [.agg (ta a),.agg (ta b)] [.one (.int .i64 (Tc a b:Nat))]:=by
 have l1:=ha.p.l;have l2:=hb.p.l;have b1:=ha.lo.1;have b2:=ha.hi.1;have b3:=hb.lo.1;have b4:=hb.hi.1;have s1:Fe a.p<=16777216:=by have:=Tp ha.p.b a.p.length; rwa [Q4] at this
 have s2:Fe b.p<=16777216:=by have:=Tp hb.p.b b.p.length; rwa [Q4] at this
 obtain ⟨N,hN⟩:=nmE (4*(a.p.length+b.p.length));obtain ⟨S,hS⟩:=nmE (Fe a.p+Fe b.p+(a.p.length+b.p.length)+8);have hNS:N*S<=512*33554568:=Zk (by omega) (by omega);have h0:(N:Int)*(S:Int)=((N*S:Nat):Int):=(Int.natCast_mul _ _).symm;have hst:Tc a b=64+2*(Ug a.lo.num+Ug a.hi.num+Ug b.lo.num+Ug b.hi.num)+N*S:=by rw [hN,hS]; rfl
 rw [hst];exact w tt Tryz.func192 rfl [.c [] (Ag (z:=a.lo.num) (by omega)),.c [] (Ag (z:=a.hi.num) (by omega)),.c [] (Ag (z:=b.lo.num) (by omega)),.c [] (Ag (z:=b.hi.num) (by omega)),.r 41 (eI (b:=(N:Int)) (by rw [hN]; simp)),.c [] (Qmz ha.p),.c [] (Qmz hb.p),.r 51 (eI (b:=(S:Int)) (by rw [hS]; simp)),.r 52 (eI (b:=((N*S:Nat):Int)) h0)] rfl (by simp) (by rw [h0]; simp [Wv]; omega)
def Qv0 (p:List Int) (a:Tm):Nat:=64+2*(Ug a.lo.num+Ug a.hi.num)+4*(a.p.length+p.length)*(Fe a.p+Fe p+(a.p.length+p.length)+8)
theorem Qwm:W0 Tryz.prog 206 [lr []] [.one (.int .i64 0)]:=Qts (l:=[]) (by simp [Sm]) (by decide)
theorem Q3v {a:Tm} {p:List Int} (ha:Tb a) (hp:Pb p):W0 Tryz.prog 192 [.agg (ta a),.agg ([pl p,.bool false,.row [],.bool false,.row [],.bool false,.row [],.bool false,.row []])] [.one (.int .i64 (Qv0 p a:Nat))]:=by
 have l1:=ha.p.l;have l2:=hp.l;have b1:=ha.lo.1;have b2:=ha.hi.1;have s1:Fe a.p<=16777216:=by have:=Tp ha.p.b a.p.length; rwa [Q4] at this
 have s2:Fe p<=16777216:=by have:=Tp hp.b p.length; rwa [Q4] at this
 obtain ⟨N,hN⟩:=nmE (4*(a.p.length+p.length));obtain ⟨S,hS⟩:=nmE (Fe a.p+Fe p+(a.p.length+p.length)+8);have hNS:N*S<=512*33554568:=Zk (by omega) (by omega);have h0:(N:Int)*(S:Int)=((N*S:Nat):Int):=(Int.natCast_mul _ _).symm;have hst:Qv0 p a=64+2*(Ug a.lo.num+Ug a.hi.num)+N*S:=by rw [hN,hS]; rfl
 rw [hst];exact w tt Tryz.func192 rfl [.c [] (Ag (z:=a.lo.num) (by omega)),.c [] (Ag (z:=a.hi.num) (by omega)),.c [] Qwm,.c [] Qwm,.r 41 (eI (b:=(N:Int)) (by rw [hN]; simp)),.c [] (Qmz ha.p),.c [] (Qmz hp),.r 51 (eI (b:=(S:Int)) (by rw [hS]; simp)),.r 52 (eI (b:=((N*S:Nat):Int)) h0)] rfl (by simp) (by rw [h0]; simp [Wv]; omega)
def tst (sg:List Int->Int) (l:List (List Int)) (i:Nat):Nat×Int:=(l.take i).foldl (Rr sg) (0,0)
theorem Qos {sg:List Int->Int} (hs:∀ p,-1<=sg p/\sg p<=1) (l:List (List Int)):∀ i,(tst sg l i).1<=i/\-1<=(tst sg l i).2/\(tst sg l i).2<=1
 | 0=>⟨Qm _,show (-1:Int)<=0 by decide,show (0:Int)<=1 by decide⟩
 |
  i+1=>by
  obtain ⟨h1,h2,h3⟩:=Qos hs l i;cases h:l[i]? with
  |
   none =>
   have:tst sg l (i+1)=tst sg l i:=by unfold tst; rw [List.take_of_length_le (by have:=List.getElem?_eq_none_iff.1 h; omega),List.take_of_length_le (List.getElem?_eq_none_iff.1 h)]
   rw [this]; omega
  |
   some p =>
   have:tst sg l (i+1)=Rr sg (tst sg l i) p:=Hp _ _ _ h;rw [this];have:=hs p;unfold Rr
   split
   ·omega
   ·dsimp only; split <;> omega
theorem Zau {l:List (List Int)} {fid:Nat} {l1:List LV} {sg:List Int->Int} (hl:l.length≤1000) (hs:∀ p,-1≤sg p/\sg p≤1) (h:∀ p∈l,W0 Tryz.prog fid [pr p,.one (.sh l1)] [.one (.int .i64 (sg p))]):W0 Tryz.prog 277 [.one (.sh [.row (Ri l)]),.one (.fn fid [] [.sh l1])] [.one (.int .i64 (Mw sg l:Nat))]:=by
 have hpl:=Db l;refine U4 Tryz.func277 rfl ?_;refine go tt [] rfl trivial ?_;refine lp (S:=Nat) 0 (λL1 i=>(15,.v (.one (.int .i64 (i:Int))))::(5,.v (.one (.int .i64 ((tst sg l i).1:Int))))::(6,.v (.one (.int .i64 (tst sg l i).2)))::L1) (λ_=>[]) (λi=>l.length-i) (λi=>i<=l.length) 0 (Qi _) rfl (λ_ _=>rfl) rfl λi hi=>?_
 by_cases hlt:i<l.length
 ·obtain ⟨p,hp⟩:=gxE (l:=l) (i:=i) hlt;have hst:tst sg l (i+1)=Rr sg (tst sg l i) p:=Hp _ _ _ hp;obtain ⟨b1,b2,b3⟩:=Qos hs l i;have b4:=hs p;by_cases h0:sg p=0
  ·refine go tt [.t (by simp [hpl]; omega),.x (Gs hp),.c [] (h p (Qa hp)),.t (by simpa using h0)] rfl (by simp [Wv]; omega) ?_;exact rd (i+1) (by omega) hlt (by rw [hst,show Rr sg (tst sg l i) p=tst sg l i from by unfold Rr; rw [if_pos h0]]; rfl)
  ·by_cases h1:(tst sg l i).2=-(sg p)
   ·refine go tt [.t (by simp [hpl]; omega),.x (Gs hp),.c [] (h p (Qa hp)),.f (by simpa using h0),.t (by simpa using h1)] rfl (by simp [Wv]; omega) ?_;exact rd (i+1) (by omega) hlt (by rw [hst,show Rr sg (tst sg l i) p=((tst sg l i).1+1,sg p) from by unfold Rr; rw [if_neg h0,if_pos h1]]; rfl)
   ·refine go tt [.t (by simp [hpl]; omega),.x (Gs hp),.c [] (h p (Qa hp)),.f (by simpa using h0),.f (by simpa using h1)] rfl (by simp [Wv]; omega) ?_;exact rd (i+1) (by omega) hlt (by rw [hst,show Rr sg (tst sg l i) p=((tst sg l i).1,sg p) from by unfold Rr; rw [if_neg h0,if_neg h1]]; rfl)
 ·obtain rfl:i=l.length:=by omega
  refine en tt [.f (by simp [hpl])] rfl ?_ trivial;unfold tst Mw; rw [List.take_length]
theorem Q3e {p:List Int} {q:Rat} (hp:Pb p) (hq:Qb q):W0 Tryz.prog 278 [pr p,.one (.sh (rl q))] [.one (.int .i64 (Gk p q))]:=w tt Tryz.func278 rfl [.c [] (Qf9 hp hq)] rfl rfl trivial
theorem Qwv {l:List (List Int)} {q:Rat} (hl:l.length≤1000) (hp:∀ p∈l,Pb p) (hq:Qb q):W0 Tryz.prog 252 [.one (.sh [.row (Ri l)]),.agg (rl q)] [.one (.int .i64 (Mx l q:Nat))] :=
 w tt Tryz.func252 rfl [.c [] (Zau (fid:=278) (l1:=rl q) (sg:=λp=>Gk p q) hl (λp=>Ex p q) λp h=>Q3e (hp p h) hq)] rfl rfl trivial
theorem By {sg:List Int->Int} (hs:∀ p,-1<=sg p/\sg p<=1) (l:List (List Int)):Mw sg l<=l.length:=by
 have:=(Qos hs l l.length).1;unfold tst at this; rwa [List.take_length] at this
theorem Qki {l:List (List Int)} {lo hi:Rat} (hl:l.length≤1000) (hp:∀ p∈l,Pb p) (ql:Qb lo) (qh:Qb hi):W0 Tryz.prog 215 [.one (.sh [.row (Ri l)]),.agg (rl lo),.agg (rl hi)] [.one (.int .i64 (Hg l lo hi))]:=by
 have b1:Mx l lo<=l.length:=By (λp=>Ex p lo) l;have b2:Mx l hi<=l.length:=By (λp=>Ex p hi) l;have c1:=Nf qh.s31 ql.s31;unfold Hg;by_cases h:Fp hi lo<0
 ·rw [if_pos h];exact w tt Tryz.func215 rfl [.c [] c1,.t (by simpa using h)] rfl rfl trivial
 ·rw [if_neg h];exact w tt Tryz.func215 rfl [.c [] c1,.f (by simpa using h),.c [] (Qwv hl hp ql),.c [] (Qwv hl hp qh)] rfl rfl (by simp [Wv]; omega)
def zTm:List LV:=[.nils,.bool false,.nils,.bool false,.nils,.bool false,.nils,.bool false,.nils]
theorem Q1n {a b:Tm} (ha:Tb a) (hb:Tb b):Tc a b<=17179938816+200000000:=by
 have l1:=ha.p.l;have l2:=hb.p.l;have b1:=ha.lo.1;have b2:=ha.hi.1;have b3:=hb.lo.1;have b4:=hb.hi.1;have s1:Fe a.p<=16777216:=by have:=Tp ha.p.b a.p.length; rwa [Q4] at this
 have s2:Fe b.p<=16777216:=by have:=Tp hb.p.b b.p.length; rwa [Q4] at this
 have:4*(a.p.length+b.p.length)*(Fe a.p+Fe b.p+(a.p.length+b.p.length)+8)<=512*33554568:=Zk (by omega) (by omega);unfold Tc; omega
theorem Zco {a b:Rat} (ha:Qb a) (hb:Qb b):Qs 2147483647 (Qjq a b):=by
 have h1:Ug (a.num*(b.den:Int))<=33554432:=Qd (Fz _ _) (by have:=ha.1; have:=hb.2; omega);have h2:Ug (b.num*(a.den:Int))<=33554432:=Qd (Fz _ _) (by have:=hb.1; have:=ha.2; omega);have h3:Ug ((a.den:Int)*(b.den:Int))<=33554432:=Qd (Fz _ _) (by have:=ha.2; have:=hb.2; omega);have h5:Ug (a.num*(b.den:Int)-b.num*(a.den:Int))<=33554433:=Qd (Qno _ _) (by omega);exact (Qs.divInt (s:=33554433) h5 (by omega) (by omega)).mono (by omega)
theorem Qmt {a b:Tm} {r:Tm×Tm×Int} (ha:Tb a) (hb:Tb b) (h:apF (Tc a b) a b=some r):W0 Tryz.prog 140 [.agg (ta a),.agg (ta b)] [.agg (ta r.1),.agg (ta r.2.1),.one (.int .i64 r.2.2)]:=by
 have hsb:=Q1n ha hb;refine U4 Tryz.func140 rfl ?_;refine go tt [.c [] (Zas ha hb)] rfl trivial ?_;obtain ⟨n,hn⟩:=nmE (Tc a b);rw [<-hn] at h hsb ⊢;refine sb [(10,.v (.one (.int .i64 0))),(9,.v (.one (.int .i64 (n:Int)))),(5,.v (.one (.ow 3 0))),(4,.v (.one (.ow 2 0))),(3,.v (.one (.ow 1 0))),(2,.v (.one (.ow 0 0)))] [.blk 40 (ta a),.blk 40 (ta b),.blk 40 zTm,.blk 40 zTm] rfl rfl ?_;refine lp (S:=Nat×Tm×Tm) 4 (λL1 s=>(10,.v (.one (.int .i64 (s.1:Int))))::L1) (λs=>[.blk 40 (ta s.2.1),.blk 40 (ta s.2.2),.blk 40 zTm,.blk 40 zTm]) (λs=>n-s.1) (λs=>s.1<=n/\Tb s.2.1/\Tb s.2.2/\apF (n-s.1) s.2.1 s.2.2=some r) (0,a,b) ⟨Qi _,ha,hb,h⟩ rfl (λ_ _=>rfl) rfl λ⟨i,u,v⟩ ⟨j1,j2,j3,j4⟩=>?_
 dsimp only at j1 j2 j3 j4 ⊢;by_cases hi:i<n
 ·obtain ⟨k,hk⟩:∃ k,n-i=k+1:=⟨n-i-1,by omega⟩;have hk':n-(i+1)=k:=by omega
  rw [hk] at j4;have c1:=Nf j2.hi.s31 j3.lo.s31;have c2:=Nf j3.hi.s31 j2.lo.s31;have pu:=Ba j2;have pv:=Ba j3;have hlt:decide ((i:Int)<(n:Int))=true:=by simp; omega
  simp only [apF] at j4;refine go tt [.t hlt] rfl trivial ?_;refine ct 3 (S:=Unit) (λ_=>[(10,.v (.one (.int .i64 (i:Int)))),(9,.v (.one (.int .i64 (n:Int)))),(5,.v (.one (.ow 3 0))),(4,.v (.one (.ow 2 0))),(3,.v (.one (.ow 1 0))),(2,.v (.one (.ow 0 0)))]) (λ_=>[.blk 40 (ta u),.blk 40 (ta v),.blk 40 zTm,.blk 40 zTm]) (λ_=>¬Nz u v=true/\¬Nz v u=true) rfl ?_ ?_
  ·have bA:Nz u v=(decide (Fp u.hi v.lo<=0) && !(u.point && v.point && decide (Fp u.hi v.lo=0))):=by
    unfold Nz; cases u.point <;> cases v.point <;> simp
   have bB:Nz v u=(decide (Fp v.hi u.lo<=0) && !(u.point && v.point && decide (Fp v.hi u.lo=0))):=by
    unfold Nz; cases u.point <;> cases v.point <;> simp
   obtain ⟨a0,A'⟩:∃ b,decide (Fp u.hi v.lo<=0)=b:=⟨_,rfl⟩;obtain ⟨b0,B'⟩:∃ b,decide (Fp v.hi u.lo<=0)=b:=⟨_,rfl⟩;obtain ⟨p0,P'⟩:∃ b,u.point=b:=⟨_,rfl⟩;obtain ⟨q0,Q'⟩:∃ b,v.point=b:=⟨_,rfl⟩;obtain ⟨x0,X'⟩:∃ b,decide (Fp u.hi v.lo=0)=b:=⟨_,rfl⟩;obtain ⟨y0,Y'⟩:∃ b,decide (Fp v.hi u.lo=0)=b:=⟨_,rfl⟩;rw [A',P',Q',X'] at bA;rw [B',P',Q',Y'] at bB;have r1:Nz u v=true->(u,v,-1)=r:=λh=>by rw [if_pos h] at j4; injection j4
   have r2:¬Nz u v=true->Nz v u=true->(u,v,1)=r:=λh h'=>by rw [if_neg h,if_pos h'] at j4; injection j4
   clear j4;cases a0
   ·cases b0
    ·exact go tt [.c [] c1,.g 19 false A',.f rfl,.c [] c2,.g 45 false B',.f rfl] rfl trivial (rc () ⟨by rw [bA]; simp,by rw [bB]; simp⟩ rfl)
    ·cases p0
     ·obtain rfl:=r2 (by rw [bA]; simp) (by rw [bB]; rfl);exact en tt [.c [] c1,.g 19 false A',.f rfl,.c [] c2,.g 45 true B',.c [] pu,.g 48 false P',.g 52 false rfl,.t rfl] rfl rfl trivial
     ·cases q0
      ·obtain rfl:=r2 (by rw [bA]; simp) (by rw [bB]; rfl);exact en tt [.c [] c1,.g 19 false A',.f rfl,.c [] c2,.g 45 true B',.c [] pu,.g 48 true P',.c [] pv,.g 52 false Q',.t rfl] rfl rfl trivial
      ·cases y0
       ·obtain rfl:=r2 (by rw [bA]; simp) (by rw [bB]; rfl);exact en tt [.c [] c1,.g 19 false A',.f rfl,.c [] c2,.g 45 true B',.c [] pu,.g 48 true P',.c [] pv,.g 52 true Q',.c [] c2,.t (by simpa using Y')] rfl rfl trivial
       ·exact go tt [.c [] c1,.g 19 false A',.f rfl,.c [] c2,.g 45 true B',.c [] pu,.g 48 true P',.c [] pv,.g 52 true Q',.c [] c2,.f (by simpa using Y')] rfl trivial (rc () ⟨by rw [bA]; simp,by rw [bB]; simp⟩ rfl)
   ·cases p0
    ·obtain rfl:=r1 (by rw [bA]; rfl);exact en tt [.c [] c1,.g 19 true A',.c [] pu,.g 22 false P',.g 26 false rfl,.t rfl] rfl rfl trivial
    ·cases q0
     ·obtain rfl:=r1 (by rw [bA]; rfl);exact en tt [.c [] c1,.g 19 true A',.c [] pu,.g 22 true P',.c [] pv,.g 26 false Q',.t rfl] rfl rfl trivial
     ·cases x0
      ·obtain rfl:=r1 (by rw [bA]; rfl);exact en tt [.c [] c1,.g 19 true A',.c [] pu,.g 22 true P',.c [] pv,.g 26 true Q',.c [] c1,.t (by simpa using X')] rfl rfl trivial
      ·cases b0
       ·exact go tt [.c [] c1,.g 19 true A',.c [] pu,.g 22 true P',.c [] pv,.g 26 true Q',.c [] c1,.f (by simpa using X'),.c [] c2,.g 45 false B',.f rfl] rfl trivial (rc () ⟨by rw [bA]; simp,by rw [bB]; simp⟩ rfl)
       ·cases y0
        ·obtain rfl:=r2 (by rw [bA]; simp) (by rw [bB]; rfl);exact en tt [.c [] c1,.g 19 true A',.c [] pu,.g 22 true P',.c [] pv,.g 26 true Q',.c [] c1,.f (by simpa using X'),.c [] c2,.g 45 true B',.c [] pu,.g 48 true P',.c [] pv,.g 52 true Q',.c [] c2,.t (by simpa using Y')] rfl rfl trivial
        ·exact go tt [.c [] c1,.g 19 true A',.c [] pu,.g 22 true P',.c [] pv,.g 26 true Q',.c [] c1,.f (by simpa using X'),.c [] c2,.g 45 true B',.c [] pu,.g 48 true P',.c [] pv,.g 52 true Q',.c [] c2,.f (by simpa using Y')] rfl trivial (rc () ⟨by rw [bA]; simp,by rw [bB]; simp⟩ rfl)
  ·rintro _ ⟨n1,n2⟩
   rw [if_neg n1,if_neg n2] at j4;have qr:∀ {x y:Rat},Qb x->Qb y->Qs 2147483647 (Qjq x y):=λh1 h2=>Zco h1 h2
   have cc:=Nf (qr j2.hi j2.lo) (qr j3.hi j3.lo);by_cases D:0<=Fp (Qjq u.hi u.lo) (Qjq v.hi v.lo)
   ·rw [if_pos D] at j4;obtain ⟨x,x1,x2⟩:=Qc.1 j4;refine go tt [.c [] (Qmy j2.hi j2.lo),.c [] (Qmy j3.hi j3.lo),.c [] cc,.t (by simpa using D),.c [] (Qty j2 x1)] rfl (by simp [Wv]; omega) ?_;exact rd (i+1,x,v) (by dsimp only; omega) ⟨hi,Qoo j2 x1,j3,by dsimp only; rw [hk']; exact x2⟩ rfl
   ·rw [if_neg D] at j4;obtain ⟨x,x1,x2⟩:=Qc.1 j4;refine go tt [.c [] (Qmy j2.hi j2.lo),.c [] (Qmy j3.hi j3.lo),.c [] cc,.f (by simpa using D),.c [] (Qty j3 x1)] rfl (by simp [Wv]; omega) ?_;exact rd (i+1,u,x) (by dsimp only; omega) ⟨hi,j2,Qoo j3 x1,by dsimp only; rw [hk']; exact x2⟩ rfl
 ·obtain rfl:i=n:=by omega
  rw [Ks] at j4;simp only [apF] at j4;injection j4 with j4; subst j4;exact en tt [.f (by simp)] rfl rfl trivial
theorem Zar {a b:Rat} (ha:Qb a) (hb:Qb b):W0 Tryz.prog 42 [.agg (rl a),.one (.row [rl b])] [.agg (rl (if 0<Fp b a then b else a))]:=by
 have ca:=Qgm (Wy a.num) (Wy (a.den:Int)) ha.s32.1 ha.s32.2;have cb:=Qgm (Wy b.num) (Wy (b.den:Int)) hb.s32.1 hb.s32.2;rw [Tf] at ca cb;have cc:=Nf hb.s31 ha.s31;refine U4 Tryz.func42 rfl ?_;refine go tt [.c [] ca] rfl trivial ?_;refine lp (S:=Nat) 3 (λL1 i=>(12,.v (.one (.int .i64 (i:Int))))::L1) (λi=>[.blk 38 (rl a),.blk 38 [.bool false,.nils,.bool false,.nils],.blk 38 (rl (if i=0 then a else if 0<Fp b a then b else a))]) (λi=>1-i) (λi=>i<=1) 0 (Qi _) rfl (λ_ _=>rfl) rfl λi hi=>?_
 rcases (show i=0\/i=1 by omega) with rfl | rfl
 ·by_cases h:0<Fp b a
  ·refine go tt [.t rfl,.x (i:=0) (xs:=rl b) rfl,.c [] cc,.t (by simpa using h),.c [] cb] rfl (by simp [Wv]) ?_;exact rd 1 (by omega) (by omega) (by rw [if_pos h]; rfl)
  ·refine go tt [.t rfl,.x (i:=0) (xs:=rl b) rfl,.c [] cc,.f (by simpa using h)] rfl (by simp [Wv]) ?_;exact rd 1 (by omega) (by omega) (by rw [if_neg h]; rfl)
 ·exact en tt [.f rfl] rfl rfl trivial
theorem Qa9 {a b:Tm} {c:Int} (ha:Tb a) (hb:Tb b) (h:Qck a b=some c):W0 Tryz.prog 82 [.agg (ta a),.agg (ta b)] [.one (.int .i64 c)]:=by
 have ca:=Qgn ha;have cb:=Qgn hb;have pa:=Ba ha;have pb:=Ba hb;unfold Qck at h;by_cases h1:a.point=true
 ·rw [if_pos h1] at h;injection h with h; subst h;have:=Zax b a.lo;exact w tt Tryz.func82 rfl [.c [] ca,.c [] cb,.c [] pa,.t h1,.c [] (Nb hb ha.lo)] rfl rfl (by simp [Wv]; omega)
 rw [if_neg h1] at h;have h1:a.point=false:=by simpa using h1
 by_cases h2:b.point=true
 ·rw [if_pos h2] at h;injection h with h; subst h;exact w tt Tryz.func82 rfl [.c [] ca,.c [] cb,.c [] pa,.f h1,.c [] pb,.t h2,.c [] (Nb ha hb.lo)] rfl rfl trivial
 rw [if_neg h2] at h;have h2:b.point=false:=by simpa using h2
 obtain ⟨lo,hlo⟩:=nmE (if 0<Fp b.lo a.lo then b.lo else a.lo);obtain ⟨hi,hhi⟩:=nmE (if Fp b.hi a.hi<0 then b.hi else a.hi);have h:(if Fp lo hi<0 then (Qn8 a.p b.p).bind λg=>if 1<g.length/\Qcv g lo hi=true then some 0 else (apF (Tc a b) a b).bind λr=>some r.2.2 else (apF (Tc a b) a b).bind λr=>some r.2.2)=some c:=by rw [hlo,hhi]; exact h
 have qlo:Qb lo:=by rw [hlo]; split; exact hb.lo; exact ha.lo
 have qhi:Qb hi:=by rw [hhi]; split; exact hb.hi; exact ha.hi
 have cm:=Zar ha.lo hb.lo;rw [<-hlo] at cm;have cc1:=Nf hb.hi.s31 ha.hi.s31;have cc2:=Nf qlo.s31 qhi.s31;refine U4 Tryz.func82 rfl ?_;refine go tt [.c [] ca,.c [] cb,.c [] pa,.f h1,.c [] pb,.f h2,.c [] cm] rfl trivial ?_;refine ct 2 (S:=Unit) (λ_=>[(6,.v (.one (.ow 3 0))),(5,.v (.one (.ow 2 0))),(4,.v (.one (.int .i64 0))),(3,.v (.one (.ow 1 0))),(2,.v (.one (.ow 0 0)))]) (λ_=>[.blk 40 (ta a),.blk 40 (ta b),.blk 38 (rl lo),.blk 38 (rl hi)]) (λ_=>True) rfl ?_ ?_
 ·by_cases D:Fp b.hi a.hi<0
  ·rw [if_pos D] at hhi; subst hhi;exact go tt [.c [] cc1,.t (by simpa using D)] rfl trivial (rc () trivial rfl)
  ·rw [if_neg D] at hhi; subst hhi;exact go tt [.c [] cc1,.f (by simpa using D)] rfl trivial (rc () trivial rfl)
 ·rintro _ _
  by_cases D:Fp lo hi<0
  ·rw [if_pos D] at h;obtain ⟨g,g1,h⟩:=Qc.1 h;have cg:=Q2z ha.p hb.p g1;have pg:=Q6t ha.p hb.p g1;have ch:=Q3k pg qlo qhi;by_cases G:1<g.length
   ·by_cases R:Qcv g lo hi=true
    ·rw [if_pos ⟨G,R⟩] at h;injection h with h; subst h;exact en tt [.c [] cc2,.t (by simpa using D),.c [] cg,.c [] (Sf g),.g 58 true (by simp; omega),.c [] ch,.t R] rfl rfl trivial
    ·rw [if_neg λh=>R h.2] at h;obtain ⟨r,r1,h⟩:=Qc.1 h;injection h with h; subst h;exact en tt [.c [] cc2,.t (by simpa using D),.c [] cg,.c [] (Sf g),.g 58 true (by simp; omega),.c [] ch,.f (by simpa using R),.c [] (Qmt ha hb r1)] rfl rfl trivial
   ·rw [if_neg λh=>G h.1] at h;obtain ⟨r,r1,h⟩:=Qc.1 h;injection h with h; subst h;exact en tt [.c [] cc2,.t (by simpa using D),.c [] cg,.c [] (Sf g),.g 58 false (by simp; omega),.f rfl,.c [] (Qmt ha hb r1)] rfl rfl trivial
  ·rw [if_neg D] at h;obtain ⟨r,r1,h⟩:=Qc.1 h;injection h with h; subst h;exact en tt [.c [] cc2,.f (by simpa using D),.c [] (Qmt ha hb r1)] rfl rfl trivial
theorem Q9p {p:List Int} {a:Tm} {s:Int} (hp:Pb p) (ha:Tb a) (h:Qdn p a=some s):W0 Tryz.prog 180 [pr p,.agg (ta a)] [.one (.int .i64 s)]:=by
 have ca:=Qgn ha;have pa:=Ba ha;have cn:=Gf hp.t hp.ln hp.bd;unfold Qdn at h;by_cases h0:p.length=0
 ·rw [if_pos h0] at h;injection h with h; subst h;exact w tt Tryz.func180 rfl [.c [] cn,.c [] ca,.t (by simp; exact Qh h0)] rfl rfl trivial
 rw [if_neg h0] at h;have h0:p≠[]:=λe=>h0 (by rw [e]; rfl)
 by_cases h1:a.point=true
 ·rw [if_pos h1] at h;injection h with h; subst h;exact w tt Tryz.func180 rfl [.c [] cn,.c [] ca,.f (by simpa using h0),.c [] pa,.t h1,.c [] (Qf9 hp ha.lo)] rfl rfl trivial
 rw [if_neg h1] at h;have h1:a.point=false:=by simpa using h1
 obtain ⟨g,g1,h⟩:=Qc.1 h;have cg:=Q2z hp ha.p g1;have pg:=Q6t hp ha.p g1;have ch:=Q3k pg ha.lo ha.hi;by_cases G:1<g.length/\Qcv g a.lo a.hi=true
 ·rw [if_pos G] at h;injection h with h; subst h;exact w tt Tryz.func180 rfl [.c [] cn,.c [] ca,.f (by simpa using h0),.c [] pa,.f h1,.c [] cg,.c [] (Sf g),.g 29 true (by simp; omega),.c [] ch,.t G.2] rfl rfl trivial
 rw [if_neg G] at h;obtain ⟨c,c1,h⟩:=Qc.1 h;obtain ⟨u,u1,h⟩:=Qc.1 h;injection h with h; subst h;obtain ⟨cl,call⟩:=chain_ok hp c1;obtain ⟨n,hn⟩:=nmE (64+2*(Ug a.lo.num+Ug a.hi.num)+4*(a.p.length+p.length)*(Fe a.p+Fe p+(a.p.length+p.length)+8));have cst:=Q3v ha hp;rw [show Qv0 p a=n from hn.symm] at cst;rw [<-hn] at u1;have hnb:n<=17179938816+200000000:=by
  have l1:=ha.p.l;have l2:=hp.l;have b1:=ha.lo.1;have b2:=ha.hi.1;have s1:Fe a.p<=16777216:=by have:=Tp ha.p.b a.p.length; rwa [Q4] at this
  have s2:Fe p<=16777216:=by have:=Tp hp.b p.length; rwa [Q4] at this
  have:4*(a.p.length+p.length)*(Fe a.p+Fe p+(a.p.length+p.length)+8)<=512*33554568:=Zk (by omega) (by omega);omega
 refine U4 Tryz.func180 rfl ?_;refine go tt [.c [] cn,.c [] ca,.f (by simpa using h0),.c [] pa,.f h1,.c [] cg] rfl trivial ?_;refine ct 2 (S:=Unit) (λ_=>[(3,.v (.one (.ow 0 0))),(0,.v (pr p))]) (λ_=>[.blk 40 (ta a)]) (λ_=>True) rfl ?_ ?_
 ·by_cases G1:1<g.length
  ·exact go tt [.c [] (Sf g),.g 29 true (by simp; omega),.c [] ch,.f (by simpa using λh=>G ⟨G1,h⟩)] rfl trivial (rc () trivial rfl)
  ·exact go tt [.c [] (Sf g),.g 29 false (by simp; omega),.f rfl] rfl trivial (rc () trivial rfl)
 rintro _ _
 refine go tt [.c [] (Q26 hp c1),.c [] cst] rfl trivial ?_;refine lp (S:=Nat×Tm) 1 (λL1 s=>(46,.v (.one (.int .i64 (s.1:Int))))::L1) (λs=>[.blk 40 (ta s.2)]) (λs=>n-s.1) (λs=>s.1<=n/\Tb s.2/\sgF c (n-s.1) s.2=some u) (0,a) ⟨Qi _,ha,u1⟩ rfl (λ_ _=>rfl) rfl λ⟨i,x⟩ ⟨j1,j2,j3⟩=>?_
 dsimp only at j1 j2 j3 ⊢;by_cases hi:i<n
 ·obtain ⟨k,hk⟩:∃ k,n-i=k+1:=⟨n-i-1,by omega⟩;have hk':n-(i+1)=k:=by omega
  rw [hk] at j3;simp only [sgF] at j3;have px:=Ba j2;have cb:=Qki (by omega) call j2.lo j2.hi;have hlt:decide ((i:Int)<(n:Int))=true:=by simp; omega
  by_cases X:x.point=true
  ·rw [if_pos (.inl X)] at j3;injection j3 with j3; subst j3;exact en tt [.t hlt,.c [] px,.g 50 true X,.t rfl,.c [] (Qf9 hp j2.hi)] rfl rfl trivial
  ·have X':x.point=false:=by simpa using X
   by_cases Z:Hg c x.lo x.hi=0
   ·rw [if_pos (.inr Z)] at j3;injection j3 with j3; subst j3;exact en tt [.t hlt,.c [] px,.g 50 false X',.c [] cb,.t (by simpa using Z),.c [] (Qf9 hp j2.hi)] rfl rfl trivial
   ·rw [if_neg (by rintro (h | h); exact X h; exact Z h)] at j3;obtain ⟨v,v1,v2⟩:=Qc.1 j3;refine go tt [.t hlt,.c [] px,.g 50 false X',.c [] cb,.f (by simpa using Z),.c [] (Qty j2 v1)] rfl (by simp [Wv]; omega) ?_;exact rd (i+1,v) (by dsimp only; omega) ⟨hi,Qoo j2 v1,by dsimp only; rw [hk']; exact v2⟩ rfl
 ·obtain rfl:i=n:=by omega
  rw [Ks] at j3;simp only [sgF] at j3;injection j3 with j3; subst j3;exact en tt [.f (by simp),.c [] (Qf9 hp j2.hi)] rfl rfl trivial
abbrev tas (l:List Tm):LV:=.row (l.map λt=>ta t)
theorem Qhc {l:List Tm} {i:Nat} {t:Tm} (h:l[i]? = some t):(l.map λt=>ta t)[i]? = some (ta t):=Gu h
def zTr:List LV:=[.row [],.bool false,.row [],.bool false,.row [],.bool false,.row [],.bool false,.row []]
theorem Qhp:W0 Tryz.prog 41 [.one (.row [])] [.agg zTr,.one (.bool false)]:=w tt Tryz.func41 rfl [.t rfl] rfl rfl trivial
theorem Rf {b:Tm} {l:List Tm} {m:Tm} (hb:Tb b) (hl:∀ t∈l,Tb t) (hn:l.length≤1000000) (h:Aq b l=some m):W0 Tryz.prog 41 [.one (tas (b::l))] [.agg (ta m),.one (.bool true)]:=by
 refine U4 Tryz.func41 rfl ?_;refine go tt [.f (by simp; omega),.x (i:=0) (xs:=ta b) rfl,.i 1] rfl (by simp [Wv]; exact ⟨rfl,λ_ _=>rfl⟩) ?_;refine lp (S:=Nat×Tm) 2 (λL1 s=>(17,.v (.one (.int .i64 (s.1:Int))))::L1) (λs=>[.blk 40 zTm,.blk 40 (ta s.2)]) (λs=>l.length-s.1) (λs=>s.1<=l.length/\Tb s.2/\Aq s.2 (l.drop s.1)=some m) (0,b) ⟨Qi _,hb,h⟩ rfl (λ_ _=>rfl) rfl λ⟨i,x⟩ ⟨j1,j2,j3⟩=>?_
 dsimp only at j1 j2 j3 ⊢;by_cases hi:i<l.length
 ·obtain ⟨a,ha⟩:=gxE (l:=l) (i:=i) hi;have hdr:l.drop i=a::l.drop (i+1):=by
   rw [Zz hi]; congr 1;have:=Qf hi; rw [ha] at this; injection this with this; exact this.symm
  rw [hdr] at j3;simp only [Aq] at j3;obtain ⟨c,c1,j3⟩:=Qc.1 j3;have ta':=hl a (Qa ha);by_cases hc:c<0
  ·rw [if_pos hc] at j3;refine go tt [.t (by simp; omega),.x (Qhc ha),.c [] (Qa9 ta' j2 c1),.t (by simpa using hc)] rfl (by simp [Wv]; omega) ?_;exact rd (i+1,a) (by dsimp only; omega) ⟨hi,ta',j3⟩ rfl
  ·rw [if_neg hc] at j3;refine go tt [.t (by simp; omega),.x (Qhc ha),.c [] (Qa9 ta' j2 c1),.f (by simpa using hc)] rfl (by simp [Wv]; omega) ?_;exact rd (i+1,x) (by dsimp only; omega) ⟨hi,j2,j3⟩ rfl
 ·obtain rfl:i=l.length:=by omega
  rw [Yz] at j3;simp only [Aq] at j3;injection j3 with j3; subst j3;exact en tt [.f (by simp),.c [] (Q3x j2)] rfl rfl trivial
end Orr
namespace Orq
def Uc (x:Rat):Rat:=if x<0 then -x else x
theorem Ge (x:Rat):0<=Uc x:=by unfold Uc; split <;> grind
theorem Tq {x b:Rat}:Uc x<=b↔-b<=x/\x<=b:=by unfold Uc; split <;> constructor <;> grind
theorem Qof {x b:Rat}:Uc x<b↔-b<x/\x<b:=by unfold Uc; split <;> constructor <;> grind
theorem Hw (x y:Rat):Uc (x+y)<=Uc x+Uc y:=by unfold Uc; split <;> split <;> split <;> grind
theorem Qzb (x y:Rat):Uc (x-y)=Uc (y-x):=by unfold Uc; split <;> split <;> grind
theorem Cx (x:Rat):Uc (-x)=Uc x:=by unfold Uc; split <;> split <;> grind
theorem Gn:Uc 0=0:=by decide
theorem Mp {x:Rat} (h:x≠0):0<Uc x:=by unfold Uc; split <;> grind
theorem Zcn {x:Rat} (h:Uc x=0):x=0:=by unfold Uc at h; split at h <;> grind
theorem Pk {x y:Rat} (h1:0<=x) (h2:0<=y):0<=x*y:=Vj h1 h2
theorem Ls {x y:Rat} (h1:0<x) (h2:0<y):0<x*y:=Xl h1 h2
theorem Mj {a b c d:Rat} (h0:0<=a) (h1:a<=b) (h2:0<=c) (h3:c<=d):a*c<=b*d:=by
 have e1:=Q7 h1 h2;have e2:=Zv h3 (Zf h0 h1);exact Zf e1 e2
theorem Ll (x y:Rat):Uc (x*y)=Uc x*Uc y:=by
 unfold Uc;by_cases h1:x<0 <;> by_cases h2:y<0
 ·have:=Ls (x:=-x) (y:=-y) (by grind) (by grind); simp only [h1,h2,if_true]; split <;> grind
 ·have:=Pk (x:=-x) (y:=y) (by grind) (by grind); simp only [h1,h2,if_true,if_false]; split <;> grind
 ·have:=Pk (x:=x) (y:=-y) (by grind) (by grind); simp only [h1,h2,if_true,if_false]; split <;> grind
 ·have:=Pk (x:=x) (y:=y) (by grind) (by grind); simp only [h1,h2,if_false]; split <;> grind
theorem Fh {x y a b:Rat} (h1:Uc x<=a) (h2:Uc y<=b):Uc (x*y)<=a*b:=by
 rw [Ll]; exact Mj (Ge x) h1 (Ge y) h2
theorem Dk {x y:Rat} (h1:0<x) (h2:0<y):0<x / y:=by rw [Jx]; exact Ls h1 (Rat.inv_pos.2 h2)
theorem Fi {x y:Rat} (h2:0<y):x / y*y=x:=Zc (by grind)
theorem Fo {b d:Rat} (hb:0<=b) (hd:0<d):∃ e:Rat,0<e/\e<=1/\e*b<d:=by
 have h1:0<d / (b+1):=Dk hd (by grind);have h2:d / (b+1)*(b+1)=d:=Fi (by grind);rcases Vi (a:=d / (b+1)) (b:=1) with h | h
 ·exact ⟨d / (b+1),h1,h,by
   have:d / (b+1)*(b+1)=d / (b+1)*b+d / (b+1):=by grind
   grind⟩
 ·refine ⟨1,by decide,by decide,?_⟩;have:1*(b+1)<=d / (b+1)*(b+1):=Q7 h (by grind);grind
def ev:List Rat->Rat->Rat
 | [],_=>0
 | a::p,t=>a+t*ev p t
def dv:List Rat->Rat->Rat
 | [],_=>0
 | _::p,t=>ev p t+t*dv p t
def dq:List Rat->Rat->Rat->Rat
 | [],_,_=>0
 | _::p,x,y=>ev p x+y*dq p x y
def dd:List Rat->Rat->Rat->Rat
 | [],_,_=>0
 | _::p,x,y=>dq p x y+y*dd p x y
theorem Qk0 (x y:Rat):∀ p,ev p x-ev p y=(x-y)*dq p x y
 | []=>by simp only [ev,dq]; grind
 | a::p=>by have:=Qk0 x y p; simp only [ev,dq]; grind
theorem Qm8 (y:Rat):∀ p,dq p y y=dv p y
 | []=>rfl
 | a::p=>by simp only [dq,dv,Qm8 y p]
theorem Zee (x y:Rat):∀ p,dq p x y-dv p y=(x-y)*dd p x y
 | []=>by simp only [dv,dq,dd]; grind
 |
  a::p=>by
  have h1:=Zee x y p;have h2:=Qk0 x y p;simp only [dv,dq,dd]; grind
theorem Zeh (p:List Rat) (x y:Rat):ev p x-ev p y=(x-y)*dv p y+(x-y)*(x-y)*dd p x y:=by
 have h1:=Qk0 x y p;have h2:=Zee x y p;grind
def evB (R:Rat):List Rat->Rat
 | []=>0
 | a::p=>Uc a+R*evB R p
def dqB (R:Rat):List Rat->Rat
 | []=>0
 | _::p=>evB R p+R*dqB R p
def ddB (R:Rat):List Rat->Rat
 | []=>0
 | _::p=>dqB R p+R*ddB R p
theorem Il {R:Rat} (hR:0<=R):∀ p,0<=evB R p
 | []=>by simp only [evB]; grind
 | a::p=>by have:=Pk hR (Il hR p); have:=Ge a; simp only [evB]; grind
theorem Sk {R:Rat} (hR:0<=R):∀ p,0<=dqB R p
 | []=>by simp only [dqB]; grind
 | a::p=>by have:=Pk hR (Sk hR p); have:=Il hR p; simp only [dqB]; grind
theorem Qh6 {R:Rat} (hR:0<=R):∀ p,0<=ddB R p
 | []=>by simp only [ddB]; grind
 | a::p=>by have:=Pk hR (Qh6 hR p); have:=Sk hR p; simp only [ddB]; grind
theorem Qfs {R x:Rat} (hx:Uc x<=R):∀ p,Uc (ev p x)<=evB R p
 | []=>by simp only [ev,evB,Gn]; grind
 |
  a::p=>by
  have h1:=Hw a (x*ev p x);have h2:=Fh hx (Qfs hx p);simp only [ev,evB]; grind
theorem Qp6 {R x y:Rat} (hx:Uc x<=R) (hy:Uc y<=R):∀ p,Uc (dq p x y)<=dqB R p
 | []=>by simp only [dq,dqB,Gn]; grind
 |
  a::p=>by
  have h1:=Hw (ev p x) (y*dq p x y);have h2:=Fh hy (Qp6 hx hy p);have h3:=Qfs hx p;simp only [dq,dqB]; grind
theorem Q4e {R x y:Rat} (hx:Uc x<=R) (hy:Uc y<=R):∀ p,Uc (dd p x y)<=ddB R p
 | []=>by simp only [dd,ddB,Gn]; grind
 |
  a::p=>by
  have h1:=Hw (dq p x y) (y*dd p x y);have h2:=Fh hy (Q4e hx hy p);have h3:=Qp6 hx hy p;simp only [dd,ddB]; grind
theorem Zgo {R x y:Rat} (hx:Uc x<=R) (hy:Uc y<=R) (p:List Rat):Uc (ev p x-ev p y)<=Uc (x-y)*dqB R p:=by
 rw [Qk0,Ll]; exact Mj (Ge _) Qo (Ge _) (Qp6 hx hy p)
def Hx:List Rat->List Rat->List Rat
 | [],q=>q
 | a::p,[]=>a::p
 | a::p,b::q=>(a+b)::Hx p q
def Nx (c:Rat) (p:List Rat):List Rat:=p.map (c * ·)
def Fa:List Rat->List Rat->List Rat
 | [],_=>[]
 | a::p,q=>Hx (Nx a q) (0::Fa p q)
def Pm:List Rat->List Rat
 | []=>[]
 | _::p=>Hx p (0::Pm p)
theorem U7 (t:Rat):∀ p q,ev (Hx p q) t=ev p t+ev q t
 | [],q=>by simp only [Hx,ev]; grind
 | a::p,[]=>by simp only [Hx,ev]; grind
 | a::p,b::q=>by have:=U7 t p q; simp only [Hx,ev]; grind
theorem Uz (c t:Rat):∀ p,ev (Nx c p) t=c*ev p t
 | []=>by simp only [Nx,X7,ev]; grind
 | a::p=>by have:=Uz c t p; simp only [Nx,Zx,ev] at *; grind
theorem W9 (t:Rat):∀ p q,ev (Fa p q) t=ev p t*ev q t
 | [],q=>by simp only [Fa,ev]; grind
 | a::p,q=>by have:=W9 t p q; simp only [Fa,U7,Uz,ev]; grind
theorem Hh (t:Rat):∀ p,ev (Pm p) t=dv p t
 | []=>rfl
 | a::p=>by have:=Hh t p; simp only [Pm,U7,ev,dv]; grind
theorem Qna (t:Rat):∀ p q,dv (Hx p q) t=dv p t+dv q t
 | [],q=>by simp only [Hx,dv]; grind
 | a::p,[]=>by simp only [Hx,dv]; grind
 | a::p,b::q=>by have:=Qna t p q; have:=U7 t p q; simp only [Hx,dv]; grind
theorem Qeg (c t:Rat):∀ p,dv (Nx c p) t=c*dv p t
 | []=>by simp only [Nx,X7,dv]; grind
 | a::p=>by have:=Qeg c t p; have:=Uz c t p; simp only [Nx,Zx,dv] at *; grind
theorem Qnb (t:Rat):∀ p q,dv (Fa p q) t=dv p t*ev q t+ev p t*dv q t
 | [],q=>by simp only [Fa,dv,ev]; grind
 | a::p,q=>by have:=Qnb t p q; have:=W9 t p q; simp only [Fa,Qna,Qeg,dv,ev]; grind
theorem Qxq:∀ {p:List Rat},(∀ x∈p,x=0)->∀ t,ev p t=0
 | [],_,t=>rfl
 |
  a::p,h,t=>by
  have h1:=Qxq (p:=p) (λx hx=>h x (Qe _ hx)) t;have h2:=h a (Qx ..);simp only [ev,h1,h2]; grind
theorem Qxl:∀ {p:List Rat},(∀ x∈p,x=0)->∀ t,dv p t=0
 | [],_,t=>rfl
 |
  a::p,h,t=>by
  have h0:=λx hx=>h x (Qe _ hx)
  have h1:=Qxq (p:=p) h0 t;have h2:=Qxl (p:=p) h0 t;simp only [dv,h1,h2]; grind
theorem Qb6:∀ {p:List Rat},(∀ t,0<t->t<1->ev p t=0)->∀ x∈p,x=0
 | [],_=>λx hx=>by cases hx
 |
  a::p,h=>by
  have ha:a=0:=by
   rcases Classical.em (a=0) with h0 | h0
   ·exact h0
   ·obtain ⟨e,e1,e2,e3⟩:=Fo (Il (R:=1) (by decide) p) (Mp h0);obtain ⟨f,f1,f2,f3⟩:=Fo (b:=1) (d:=e) (by decide) e1;have h1:=h f f1 (by grind);have h2:=Qfs (R:=1) (x:=f) (by unfold Uc; split <;> grind) p;have h3:=Ll f (ev p f);have h4:Uc f=f:=by unfold Uc; split <;> grind
    have h5:a=-(f*ev p f):=by simp only [ev] at h1; grind
    have h6:Uc a=f*Uc (ev p f):=by rw [h5,Cx,h3,h4]
    have h7:f*Uc (ev p f)<=e*evB 1 p:=Mj (Qp f1) (by grind) (Ge _) h2;grind
  intro x hx;rcases Ql.1 hx with rfl | hx
  ·exact ha
  ·refine Qb6 (p:=p) (λt h1 h2=>?_) x hx;have:=h t h1 h2;simp only [ev,ha] at this;have h3:t*ev p t=0:=by grind
   rcases Yp.1 h3 with h4 | h4
   ·grind
   ·exact h4
theorem Q4m {p q:List Rat} (h:∀ t,ev p t=ev q t) (t:Rat):dv p t=dv q t:=by
 have h1:=Qxl (p:=Hx p (Nx (-1) q)) (Qb6 λt _ _=>by rw [U7,Uz,h t]; grind) t;rw [Qna,Qeg] at h1; grind
def W7 (x:Rat):Int:=if x<0 then -1 else if 0<x then 1 else 0
theorem Ux {x:Rat}:W7 x=0↔x=0:=by
 unfold W7; constructor
 ·intro h; split at h <;> (try split at h) <;> grind
 ·intro h; subst h; rfl
theorem Gg {x:Rat}:W7 x=1↔0<x:=by
 unfold W7; constructor
 ·intro h; split at h <;> (try split at h) <;> grind
 ·intro h; rw [if_neg (by grind),if_pos h]
theorem Rk {x:Rat}:W7 x=-1↔x<0:=by
 unfold W7; constructor
 ·intro h; split at h <;> (try split at h) <;> grind
 ·intro h; rw [if_pos h]
theorem Um (x:Rat):W7 x=-1/\x<0\/W7 x=0/\x=0\/W7 x=1/\0<x:=by
 rcases Vi (a:=x) (b:=0) with h | h
 ·rcases Classical.em (x=0) with h0 | h0
  ·exact .inr (.inl ⟨Ux.2 h0,h0⟩)
  ·exact .inl ⟨Rk.2 (by grind),by grind⟩
 ·rcases Classical.em (x=0) with h0 | h0
  ·exact .inr (.inl ⟨Ux.2 h0,h0⟩)
  ·exact .inr (.inr ⟨Gg.2 (by grind),by grind⟩)
theorem Hz (x y:Rat):W7 (x*y)=W7 x*W7 y:=by
 rcases Um x with ⟨e1,h1⟩ | ⟨e1,h1⟩ | ⟨e1,h1⟩ <;> rcases Um y with ⟨e2,h2⟩ | ⟨e2,h2⟩ | ⟨e2,h2⟩ <;> rw [e1,e2]
 ·have:=Ls (x:=-x) (y:=-y) (by grind) (by grind); exact Gg.2 (by grind)
 ·subst h2; exact Ux.2 (by grind)
 ·have:=Ls (x:=-x) (y:=y) (by grind) (by grind); exact Rk.2 (by grind)
 ·subst h1; exact Ux.2 (by grind)
 ·subst h1; exact Ux.2 (by grind)
 ·subst h1; exact Ux.2 (by grind)
 ·have:=Ls (x:=x) (y:=-y) (by grind) (by grind); exact Rk.2 (by grind)
 ·subst h2; exact Ux.2 (by grind)
 ·exact Gg.2 (Ls h1 h2)
theorem Rv {a b d:Rat} (h1:d<=Uc a) (h2:Uc (b-a)<d):W7 b=W7 a/\W7 a≠0:=by
 rw [Qof] at h2;rcases Um a with ⟨e,h⟩ | ⟨e,h⟩ | ⟨e,h⟩
 ·rw [e,Rk]; unfold Uc at h1; rw [if_pos h] at h1; exact ⟨by grind,by decide⟩
 ·subst h; rw [Gn] at h1; grind
 ·rw [e,Gg]; unfold Uc at h1; rw [if_neg (by grind)] at h1; exact ⟨by grind,by decide⟩
def tc (x:Rat):Int->List (List Rat)->Nat
 | _,[]=>0
 | s,p::l=>if W7 (ev p x)=0 then tc x s l else (if s=-(W7 (ev p x)) then 1 else 0)+tc x (W7 (ev p x)) l
inductive SCl:List Rat->List Rat->List (List Rat)->Prop
 | base {f g:List Rat} {c:Rat} (hc:c≠0) (hg:∀ t,ev g t=c):SCl f g []
 | step {f g h:List Rat} {l:List (List Rat)} {a b:Rat} {q:List Rat} (ha:0<a) (hb:0<b) (he:∀ t,a*ev f t=ev q t*ev g t-b*ev h t) (hl:SCl g h l):SCl f g (h::l)
theorem Q8c {x:Rat} {s:Int} {g h:List Rat} {l:List (List Rat)} (hh:W7 (ev h x)=-s) (hs:s≠0):tc x s (g::h::l)=1+tc x (-s) l:=by
 have h3:W7 (ev h x)≠0:=by omega
 have hv:s=1\/s=-1:=by rcases Um (ev h x) with ⟨e,_⟩ | ⟨e,_⟩ | ⟨e,_⟩ <;> omega
 simp only [tc,if_neg h3,hh];rcases Um (ev g x) with ⟨e,_⟩ | ⟨e,_⟩ | ⟨e,_⟩ <;> rw [e] <;> rcases hv with rfl | rfl <;> simp
theorem Qdr {x:Rat} {s:Int} {p:List Rat} {l:List (List Rat)} (h:W7 (ev p x)≠0):tc x s (p::l)=(if s=-(W7 (ev p x)) then 1 else 0)+tc x (W7 (ev p x)) l:=by rw [tc,if_neg h]
theorem Tn {R x y e d:Rat} {p:List Rat} (hx:Uc x<=R) (hy:Uc y<=R) (hR:0<=R) (h:Uc (y-x)<=e) (hd:e*dqB R p<d):Uc (ev p y-ev p x)<d:=by
 have h1:=Zgo hy hx p;have h2:=Q7 h (Sk hR p);grind
theorem Qll {a x y:Rat} (ha:0<a) (h:a*x<a*y):x<y:=by
 rcases Vi (a:=y) (b:=x) with h' | h'
 ·have:=Zv h' (Qp ha); grind
 ·rcases Classical.em (x=y) with e | e
  ·subst e; grind
  ·grind
theorem Zh2 {a b d d' B f g h q:Rat} (ha:0<a) (hb:0<b) (dp:0<d) (h7:B*d+a*d<b*d') (hq:Uc q<=B) (hg:Uc g<d) (hh:d'<=Uc h) (he:a*f=q*g-b*h) (hd':0<d'):W7 h=-W7 f/\d<=Uc f:=by
 have h4:=Fh hq (Qp hg);rw [Tq] at h4;have had:=Ls ha dp;have h8:=Zv hh (Qp hb);rcases Um h with ⟨s,p⟩ | ⟨s,p⟩ | ⟨s,p⟩
 ·have:Uc h=-h:=by unfold Uc; rw [if_pos p]
  rw [this] at h8;have h10:d<f:=Qll ha (by grind);rw [s,Gg.2 (show 0<f by grind)];exact ⟨rfl,by unfold Uc; split <;> grind⟩
 ·rw [p,Gn] at hh; grind
 ·have:Uc h=h:=by unfold Uc; rw [if_neg (by grind)]
  rw [this] at h8;have h10:f < -d:=Qll ha (by grind);rw [s,Rk.2 (show f<0 by grind)];exact ⟨rfl,by unfold Uc; split <;> grind⟩
theorem min2 {a b:Rat} (ha:0<a) (hb:0<b):∃ e:Rat,0<e/\e<=a/\e<=b:=by
 rcases Vi (a:=a) (b:=b) with h | h
 ·exact ⟨a,ha,Qo,h⟩
 ·exact ⟨b,hb,h,Qo⟩
theorem Uq (a b:Rat):a<=b\/b<a:=by
 rcases Vi (a:=a) (b:=b) with h | h
 ·exact .inl h
 ·rcases Classical.em (a=b) with e | e
  ·exact .inl (by grind)
  ·exact .inr (by grind)
theorem Zg9 {R:Rat} (hR:0<=R) {f g:List Rat} {l:List (List Rat)} (hc:SCl f g l):∃ d e:Rat,0<d/\0<e/\∀ x y,Uc x<=R->Uc y<=R->Uc (y-x)<=e ->
 (d<=Uc (ev f x)\/d<=Uc (ev g x))/\(d<=Uc (ev f x)->W7 (ev f y)=W7 (ev f x)/\W7 (ev f x)≠0)/\(d<=Uc (ev g x)->W7 (ev g y)=W7 (ev g x)/\W7 (ev g x)≠0) /\
 (W7 (ev f y)=W7 (ev f x)->W7 (ev f x)≠0->tc x (W7 (ev f x)) (g::l)=tc y (W7 (ev f x)) (g::l)) /\
 (W7 (ev g y)=W7 (ev g x)->W7 (ev g x)≠0->tc x (W7 (ev g x)) l=tc y (W7 (ev g x)) l):=by
 induction hc with
 |
  @base f g c hc hg =>
  have hd:=Mp hc;obtain ⟨e,e1,e2,e3⟩:=Fo (Sk hR f) hd;refine ⟨Uc c,e,hd,e1,λx y hx hy hxy=>⟨.inr (by rw [hg]; exact Qo),λh=>Rv h (Tn hx hy hR hxy e3),λh=>?_,λ_ _=>?_,λ_ _=>rfl⟩⟩
  ·rw [hg,hg]; exact ⟨rfl,λh=>hc (Ux.1 h)⟩
  ·simp only [tc,hg]
 |
  @step f g h l a b q ha hb he hl ih =>
  obtain ⟨d',e',hd',he',ih⟩:=ih;obtain ⟨d1,d1p,_,d1b⟩:=Fo (b:=evB R q+a) (d:=b*d') (by have:=Il hR q; grind) (Ls hb hd');obtain ⟨d,dp,hd1,hdd⟩:=min2 d1p hd';obtain ⟨ef,ef1,_,ef3⟩:=Fo (Sk hR f) dp;obtain ⟨eg,eg1,_,eg3⟩:=Fo (Sk hR g) dp;obtain ⟨e0,e0p,h1,h2⟩:=min2 ef1 eg1;obtain ⟨e,ep,h0,h3⟩:=min2 e0p he';have h1:=Zf h0 h1;have h2:=Zf h0 h2;refine ⟨d,e,dp,ep,λx y hx hy hxy=>?_⟩;obtain ⟨i1,i2,i3,i4,i5⟩:=ih x y hx hy (Zf hxy h3);have hsm:Uc (ev g x)<d->d'<=Uc (ev h x)/\W7 (ev h x)=-W7 (ev f x)/\d<=Uc (ev f x):=λhg=>by
   have hh:d'<=Uc (ev h x):=by
    rcases i1 with i | i
    ·exact absurd (Zf hdd i) (Ji.2 hg)
    ·exact i
   have h6:d*(evB R q+a)<=d1*(evB R q+a):=Q7 hd1 (by have:=Il hR q; clear ih i1 i2 i3 i4 i5 he; grind);have h7:evB R q*d+a*d<b*d':=by clear ih i1 i2 i3 i4 i5 he; grind
   exact ⟨hh,Zh2 ha hb dp h7 (Qfs hx q) hg hh (he x) hd'⟩
  have hfs:d<=Uc (ev f x)->W7 (ev f y)=W7 (ev f x)/\W7 (ev f x)≠0:=λh=>Rv h (Tn hx hy hR (Zf hxy h1) ef3)
  have hgs:d<=Uc (ev g x)->W7 (ev g y)=W7 (ev g x)/\W7 (ev g x)≠0:=λh=>Rv h (Tn hx hy hR (Zf hxy h2) eg3)
  refine ⟨?_,hfs,hgs,λs1 s2=>?_,i4⟩
  ·rcases Uq d (Uc (ev g x)) with h | h
   ·exact .inr h
   ·exact .inl (hsm h).2.2
  ·rcases Uq d (Uc (ev g x)) with h | h
   ·obtain ⟨g1,g2⟩:=hgs h;rw [Qdr (x:=x) (p:=g) g2,Qdr (x:=y) (p:=g) (by rw [g1]; exact g2),g1,i4 g1 g2]
   ·obtain ⟨h4,h5,_⟩:=hsm h;obtain ⟨h6,h7⟩:=i3 h4;have i5:=i5 h6 h7;rw [Q8c h5 s2,Q8c (h6.trans h5) s2,<-h5,i5]
def Rp (p:List Rat) (x:Rat):Int:=if W7 (ev p x)≠0 then W7 (ev p x) else W7 (dv p x)
def vv (L:List (List Rat)) (x:Rat):Nat:=tc x 0 L
def Stm (f:List Rat) (L:List (List Rat)):Prop:=(∃ c:Rat,c≠0/\(∀ t,ev f t=c)/\L=[f])\/∃ g l,∃ k:Rat,0<k/\(∀ t,ev g t=k*dv f t)/\SCl f g l/\L=f::g::l
structure Sm (w:List Rat) (x y:Rat):Prop where
 s:W7 (ev w y)=Rp w x
 l:Rp w y=Rp w x
 n:Rp w x≠0
theorem Du {p:List Rat} {x:Rat} (h:W7 (ev p x)≠0):Rp p x=W7 (ev p x):=by unfold Rp; rw [if_pos h]
theorem Quv {p:List Rat} {x:Rat} (h:W7 (ev p x)=0):Rp p x=W7 (dv p x):=by unfold Rp; rw [if_neg (by simpa using h)]
theorem Qsi {p:List Rat} {x y:Rat} (h:W7 (ev p y)=W7 (ev p x)) (h0:W7 (ev p x)≠0):Sm p x y:=by
 have h1:=Du h0;have h2:=Du (p:=p) (x:=y) (by rw [h]; exact h0);exact ⟨by rw [h,h1],by rw [h2,h1,h],by rw [h1]; exact h0⟩
theorem Al {f w u:List Rat} (h:∀ t,ev f t=ev w t*ev u t) (x:Rat):dv f x=dv w x*ev u x+ev w x*dv u x:=by
 rw [<-Qnb]; exact Q4m (λt=>by rw [h,W9]) x
theorem Qyd {f w u:List Rat} {x:Rat} (h:∀ t,ev f t=ev w t*ev u t) (hu:W7 (ev u x)≠0):Rp f x=Rp w x*W7 (ev u x):=by
 by_cases hw:W7 (ev w x)=0
 ·have hw0:=Ux.1 hw;have e1:ev f x=0:=by rw [h,hw0]; grind
  have e2:dv f x=dv w x*ev u x:=by rw [Al h,hw0]; grind
  rw [Quv hw,Quv (Ux.2 e1),e2,Hz]
 ·have e1:W7 (ev f x)=W7 (ev w x)*W7 (ev u x):=by rw [h,Hz]
  rw [Du hw,Du (by rw [e1]; exact Vv hw hu),e1]
theorem Zh3 {f w u:List Rat} {x y:Rat} (h:∀ t,ev f t=ev w t*ev u t) (hu:W7 (ev u y)=W7 (ev u x)) (h0:W7 (ev u x)≠0) (hf:Sm f x y):Sm w x y:=by
 have e1:=Qyd h h0;have e2:=Qyd (x:=y) h (by rw [hu]; exact h0);have e3:W7 (ev f y)=W7 (ev w y)*W7 (ev u y):=by rw [h,Hz]
 obtain ⟨s,l,n⟩:=hf;rw [hu] at e2 e3;refine ⟨?_,?_,λh=>n (by rw [e1,h,Ym])⟩
 ·rw [e3,e1] at s; exact Yq h0 s
 ·rw [e2,e1] at l; exact Yq h0 l
theorem tc0 {x:Rat} {s:Int} {f g:List Rat} {l:List (List Rat)} (h:W7 (ev g x)=s) (hs:s≠0):tc x 0 (f::g::l)=(if W7 (ev f x)=-s then 1 else 0)+tc x s l:=by
 have hv:s=1\/s=-1:=by rcases Um (ev g x) with ⟨e,_⟩ | ⟨e,_⟩ | ⟨e,_⟩ <;> omega
 have hg:W7 (ev g x)≠0:=by omega
 rw [tc];rcases Um (ev f x) with ⟨e,_⟩ | ⟨e,_⟩ | ⟨e,_⟩ <;> rw [e] <;> rcases hv with rfl | rfl <;> simp [Qdr hg,h]
theorem Qi1 {R x y e d:Rat} {p:List Rat} (hx:Uc x<=R) (hy:Uc y<=R) (hR:0<=R) (hxy:x<y) (h:y-x<=e) (hd:d<=Uc (dv p x)) (he:e*ddB R p<d):W7 (ev p y-ev p x)=W7 (dv p x):=by
 have h1:=Zeh p y x;have h2:ev p y-ev p x=(y-x)*(dv p x+(y-x)*dd p y x):=by rw [h1]; grind
 have h3:=Fh (x:=y-x) (y:=dd p y x) (a:=e) (b:=ddB R p) (by rw [Tq]; constructor <;> grind) (Q4e hy hx p);have h4:=Rv (b:=dv p x+(y-x)*dd p y x) hd (by
  have:dv p x+(y-x)*dd p y x-dv p x=(y-x)*dd p y x:=by grind
  rw [this]; exact Ji.1 λh=>absurd (Zf h h3) (Ji.2 he))
 rw [h2,Hz,Gg.2 (show 0<y-x by grind),h4.1,Ky]
def Q15 (f w:List Rat) (L:List (List Rat)) (x y:Rat):Prop :=
 (vv L x=vv L y/\Sm f x y/\Sm w x y)\/(vv L x=vv L y+1/\Rp f x≠0/\Rp f y=-Rp f x/\W7 (ev f x)=Rp f x/\(W7 (ev f y)=0\/W7 (ev f y)=-Rp f x))
theorem Zel {R d:Rat} (hR:0<=R) (hd:0<d) {f w u:List Rat} (h:∀ t,ev f t=ev w t*ev u t):∃ e:Rat,0<e/\∀ x y,Uc x<=R->Uc y<=R->Uc (y-x)<=e->d<=Uc (ev f x)->Sm f x y/\Sm w x y:=by
 obtain ⟨ef,ef1,_,ef3⟩:=Fo (Sk hR f) hd;obtain ⟨d1,d1p,_,d1b⟩:=Fo (Il hR u) hd;obtain ⟨ew,ew1,_,ew3⟩:=Fo (Sk hR w) d1p;obtain ⟨e,ep,e1,e2⟩:=min2 ef1 ew1;refine ⟨e,ep,λx y hx hy hxy hf=>⟨?_,?_⟩⟩
 ·have:=Rv hf (Tn hx hy hR (Zf hxy e1) ef3);exact Qsi this.1 this.2
 ·have hw:d1<=Uc (ev w x):=by
   rcases Uq d1 (Uc (ev w x)) with h' | h'
   ·exact h'
   ·have h5:=Fh (Qp h') (Qfs hx u);rw [<-h] at h5;exact absurd (Zf hf h5) (Ji.2 d1b)
  have:=Rv hw (Tn hx hy hR (Zf hxy e2) ew3);exact Qsi this.1 this.2
theorem loc {R:Rat} (hR:0<=R) {f w u:List Rat} {L:List (List Rat)} (hc:Stm f L) (h:∀ t,ev f t=ev w t*ev u t):∃ e:Rat,0<e/\∀ x y,Uc x<=R->Uc y<=R->x<y->y-x<=e->Q15 f w L x y:=by
 rcases hc with ⟨c,hc,hf,rfl⟩ | ⟨g,l,k,hk,hg,hc,rfl⟩
 ·obtain ⟨e,ep,h1⟩:=Zel hR (Mp hc) h;refine ⟨e,ep,λx y hx hy hxy he=>.inl ⟨?_,h1 x y hx hy (by rw [Tq]; constructor <;> grind) (by rw [hf]; exact Qo)⟩⟩;simp only [vv,tc,hf]
 ·obtain ⟨d,e1,dp,e1p,h1⟩:=Zg9 hR hc;obtain ⟨e2,e2p,h2⟩:=Zel hR dp h;obtain ⟨d3,d3p,_,d3b⟩:=Fo (b:=k) (d:=d) (Qp hk) dp;obtain ⟨e3,e3p,_,e3b⟩:=Fo (Qh6 hR f) d3p;obtain ⟨d4,d4p,_,d4b⟩:=Fo (b:=dqB R w+dqB R u) (d:=d3) (by have:=Sk hR w; have:=Sk hR u; grind) d3p;obtain ⟨e4,e4p,_,e4b⟩:=Fo (Sk hR w) d4p;obtain ⟨e5,e5p,_,e5b⟩:=Fo (Sk hR u) d4p;obtain ⟨a1,a1p,a11,a12⟩:=min2 e1p e2p;obtain ⟨a2,a2p,a21,a22⟩:=min2 e3p e4p;obtain ⟨a3,a3p,a31,a32⟩:=min2 a1p a2p;obtain ⟨e,ep,b1,b2⟩:=min2 a3p e5p;refine ⟨e,ep,λx y hx hy hxy he=>?_⟩;have hab:Uc (y-x)<=e:=by rw [Tq]; clear h1 h2; constructor <;> grind
  have hab1:Uc (y-x)<=e1:=by clear h1 h2; grind
  have hab2:Uc (y-x)<=e2:=by clear h1 h2; grind
  obtain ⟨i1,i2,i3,i4,i5⟩:=h1 x y hx hy hab1;rcases Uq d (Uc (ev f x)) with hf | hf
  ·obtain ⟨s1,s2⟩:=h2 x y hx hy hab2 hf;obtain ⟨j1,j2⟩:=i2 hf;refine .inl ⟨?_,s1,s2⟩;have:=i4 j1 j2;simp only [vv];rw [Qdr (x:=x) (p:=f) j2,Qdr (x:=y) (p:=f) (by rw [j1]; exact j2),j1,this]
  ·have hg1:d<=Uc (ev g x):=by
    rcases i1 with i | i
    ·exact absurd i (Ji.2 hf)
    ·exact i
   obtain ⟨g1,g2⟩:=i3 hg1;have i5:=i5 g1 g2;have hD:d3<=Uc (dv f x):=by
    rcases Uq d3 (Uc (dv f x)) with h' | h'
    ·exact h'
    ·have h5:=Fh (x:=k) (a:=k) (by unfold Uc; split <;> clear h1 h2 <;> grind) (Rat.le_of_lt h');rw [<-hg] at h5;have:k*d3=d3*k:=by grind
     exact absurd (Zf hg1 h5) (Ji.2 (by rw [this]; exact d3b))
   have hm:=Qi1 hx hy hR hxy (by clear h1 h2; grind:y-x<=e3) hD e3b;have s1:W7 (ev g x)=W7 (dv f x):=by rw [hg,Hz,Gg.2 hk,Ky]
   have s2:W7 (ev g y)=W7 (dv f y):=by rw [hg,Hz,Gg.2 hk,Ky]
   obtain ⟨s,hs⟩:=nmE (W7 (ev g x));rw [<-hs] at g1 g2 i5 s1;rw [g1] at s2;have v1:=tc0 (f:=f) (l:=l) hs.symm g2;have v2:=tc0 (f:=f) (l:=l) g1 g2;rw [<-i5] at v2;rw [<-s1] at hm;have hw:Sm f x y->Sm w x y:=λhf=>by
    rcases Uq d4 (Uc (ev u x)) with hu | hu
    ·have hu:=Rv hu (Tn hx hy hR (Zf hab b2) e5b);exact Zh3 h hu.1 hu.2 hf
    ·have hw:d4<=Uc (ev w x):=by
      rcases Uq d4 (Uc (ev w x)) with h' | h'
      ·exact h'
      ·have q1:=Fh (x:=dv w x) (y:=ev u x) (a:=dqB R w) (by rw [<-Qm8]; exact Qp6 hx hx w) (Qp hu);have q2:=Fh (x:=ev w x) (y:=dv u x) (b:=dqB R u) (Qp h') (by rw [<-Qm8]; exact Qp6 hx hx u);have q3:=Hw (dv w x*ev u x) (ev w x*dv u x);rw [<-Al h] at q3;have:d4*(dqB R w+dqB R u)=dqB R w*d4+d4*dqB R u:=by grind
       rw [this] at d4b;exact absurd (Zf hD (Zf q3 (by clear h1 h2; grind:_<=dqB R w*d4+d4*dqB R u))) (Ji.2 d4b)
     have hw:=Rv hw (Tn hx hy hR (Zf hab (by clear h1 h2; grind)) e4b);exact Qsi hw.1 hw.2
   have lx:Rp f x=if W7 (ev f x)≠0 then W7 (ev f x) else s:=by rw [s1]; rfl
   have ly:Rp f y=if W7 (ev f y)≠0 then W7 (ev f y) else s:=by rw [s2]; rfl
   clear h1 h2 i1 i2 i3 i4;have hsv:s=1\/s=-1:=by rcases Um (ev g x) with ⟨e,_⟩ | ⟨e,_⟩ | ⟨e,_⟩ <;> omega
   unfold Q15;simp only [vv,v1,v2];rcases hsv with rfl | rfl
   ·have hm:=Gg.1 hm;rcases Um (ev f x) with ⟨p1,p2⟩ | ⟨p1,p2⟩ | ⟨p1,p2⟩
    ·rcases Um (ev f y) with ⟨q1,q2⟩ | ⟨q1,q2⟩ | ⟨q1,q2⟩
     ·rw [p1,q1]; have hsm:=Qsi (p:=f) (x:=x) (y:=y) (by rw [p1,q1]) (by rw [p1]; decide);exact .inl ⟨rfl,hsm,hw hsm⟩
     ·rw [lx,ly,p1,q1]; refine .inr ⟨by simp; omega,by decide,by decide,by decide,by decide⟩
     ·rw [lx,ly,p1,q1]; refine .inr ⟨by simp; omega,by decide,by decide,by decide,by decide⟩
    ·have q1:=Gg.2 (show 0<ev f y by grind);have hsm:Sm f x y:=⟨by rw [lx,q1,p1]; rfl,by rw [lx,ly,q1,p1]; rfl,by rw [lx,p1]; decide⟩;rw [p1,q1]; exact .inl ⟨rfl,hsm,hw hsm⟩
    ·have q1:=Gg.2 (show 0<ev f y by grind);have hsm:Sm f x y:=⟨by rw [lx,q1,p1]; rfl,by rw [lx,ly,q1,p1],by rw [lx,p1]; decide⟩;rw [p1,q1]; exact .inl ⟨rfl,hsm,hw hsm⟩
   ·have hm:=Rk.1 hm;rcases Um (ev f x) with ⟨p1,p2⟩ | ⟨p1,p2⟩ | ⟨p1,p2⟩
    ·have q1:=Rk.2 (show ev f y<0 by grind);have hsm:Sm f x y:=⟨by rw [lx,q1,p1]; rfl,by rw [lx,ly,q1,p1],by rw [lx,p1]; decide⟩;rw [p1,q1]; exact .inl ⟨rfl,hsm,hw hsm⟩
    ·have q1:=Rk.2 (show ev f y<0 by grind);have hsm:Sm f x y:=⟨by rw [lx,q1,p1]; rfl,by rw [lx,ly,q1,p1]; rfl,by rw [lx,p1]; decide⟩;rw [p1,q1]; exact .inl ⟨rfl,hsm,hw hsm⟩
    ·rcases Um (ev f y) with ⟨q1,q2⟩ | ⟨q1,q2⟩ | ⟨q1,q2⟩
     ·rw [lx,ly,p1,q1]; refine .inr ⟨by simp; omega,by decide,by decide,by decide,by decide⟩
     ·rw [lx,ly,p1,q1]; refine .inr ⟨by simp; omega,by decide,by decide,by decide,by decide⟩
     ·rw [p1,q1]; have hsm:=Qsi (p:=f) (x:=x) (y:=y) (by rw [p1,q1]) (by rw [p1]; decide);exact .inl ⟨rfl,hsm,hw hsm⟩
theorem Zlv (z:Rat):∃ n:Nat,z<=(n:Rat):=by
 refine ⟨z.ceil.toNat,?_⟩;have h1:z<=(z.ceil:Rat):=Rat.le_ceil;have h2:(z.ceil:Rat)<=((z.ceil.toNat:Int):Rat):=X5.2 (Int.self_le_toNat _);exact Zf h1 h2
theorem Ig {z e:Rat} (he:0<e):∃ n:Nat,z<=(n:Rat)*e:=by
 obtain ⟨n,hn⟩:=Zlv (z / e);exact ⟨n,by have:=Q7 hn (Qp he); rwa [Fi he] at this⟩
theorem Qcx {R x y t:Rat} (hx:Uc x<=R) (hy:Uc y<=R) (h1:x<=t) (h2:t<=y):Uc t<=R:=by
 rw [Tq] at *; constructor <;> grind
def Qzy (f w:List Rat) (L:List (List Rat)) (x y:Rat):Prop :=
 vv L y<=vv L x/\(vv L x=vv L y->Sm f x y/\Sm w x y)/\(vv L x=vv L y+1->Rp f x≠0/\Rp f y=-Rp f x)
theorem Qyb {f w:List Rat} {L:List (List Rat)} {x y:Rat} (h:Q15 f w L x y):Qzy f w L x y:=by
 rcases h with ⟨h1,h2,h3⟩ | ⟨h1,h2,h3,_⟩
 ·exact ⟨by omega,λ_=>⟨h2,h3⟩,λh=>by omega⟩
 ·exact ⟨by omega,λh=>by omega,λ_=>⟨h2,h3⟩⟩
theorem Qsj {w:List Rat} {x y z:Rat} (h1:Sm w x y) (h2:Sm w y z):Sm w x z:=⟨by rw [h2.s,h1.l],by rw [h2.l,h1.l],h1.n⟩
theorem Qut {f w:List Rat} {L:List (List Rat)} {x y z:Rat} (h:Qzy f w L x y) (h':Qzy f w L y z):Qzy f w L x z:=by
 obtain ⟨a1,a2,a3⟩:=h;obtain ⟨b1,b2,b3⟩:=h';refine ⟨by omega,λh=>?_,λh=>?_⟩
 ·obtain ⟨s1,s2⟩:=a2 (by omega);obtain ⟨s3,s4⟩:=b2 (by omega);exact ⟨Qsj s1 s3,Qsj s2 s4⟩
 ·by_cases e:vv L x=vv L y
  ·obtain ⟨s1,_⟩:=a2 e;obtain ⟨s3,s4⟩:=b3 (by omega);exact ⟨s1.n,by rw [s4,s1.l]⟩
  ·obtain ⟨s3,s4⟩:=a3 (by omega);obtain ⟨s1,_⟩:=b2 (by omega);exact ⟨s3,by rw [s1.l,s4]⟩
theorem Zgx {R:Rat} (hR:0<=R) {f w u:List Rat} {L:List (List Rat)} (hc:Stm f L) (h:∀ t,ev f t=ev w t*ev u t) {x y:Rat} (hx:Uc x<=R) (hy:Uc y<=R) (hxy:x<y):Qzy f w L x y:=by
 obtain ⟨e,ep,hl⟩:=loc hR hc h;have key:∀ n:Nat,∀ x,Uc x<=R->x<y->y-x<=(n:Rat)*e->Qzy f w L x y:=by
  intro n
  induction n with
  | zero =>
   intro x hx hxy h; exfalso; have:((0:Nat):Rat)*e=0:=by simp
   grind
  |
   succ n ih =>
   intro x hx hxy hn;rcases Uq (y-x) e with h1 | h1
   ·exact Qyb (hl x y hx hy hxy h1)
   ·have hm:Uc (x+e)<=R:=Qcx hx hy (by clear hl ih; grind) (by clear hl ih; grind);have hn':(((n+1:Nat):Rat))=(n:Rat)+1:=by push_cast; rfl
    refine Qut (Qyb (hl x (x+e) hx hm (by clear hl ih; grind) (by clear hl ih; grind))) (ih (x+e) hm (by clear hl ih; grind) ?_);rw [hn'] at hn;clear hl ih; grind
 obtain ⟨n,hn⟩:=Ig (z:=y-x) ep;exact key n x hx hxy hn
theorem Qmh (x y:Rat):∃ R:Rat,0<=R/\Uc x<=R/\Uc y<=R:=by
 refine ⟨Uc x+Uc y,?_,?_,?_⟩ <;> (have:=Ge x; have:=Ge y; grind)
theorem G8 (t:Rat):ev [1] t=1:=by simp only [ev]; grind
theorem D6 {f:List Rat} {L:List (List Rat)} (hc:Stm f L) {x y:Rat} (hxy:x<y):vv L y<=vv L x:=by
 obtain ⟨R,hR,hx,hy⟩:=Qmh x y;exact (Zgx hR hc (w:=f) (u:=[1]) (λt=>by rw [G8]; grind) hx hy hxy).1
theorem Qa5 {f w u:List Rat} {L:List (List Rat)} (hc:Stm f L) (h:∀ t,ev f t=ev w t*ev u t) {x y:Rat} (hxy:x<y) (he:vv L x=vv L y):Sm w x y:=by
 obtain ⟨R,hR,hx,hy⟩:=Qmh x y;exact ((Zgx hR hc h hx hy hxy).2.1 he).2
theorem Qoz {f:List Rat} {L:List (List Rat)} (hc:Stm f L) {x y:Rat} (hxy:x<y) (he:vv L x=vv L y):Sm f x y :=
 Qa5 hc (w:=f) (u:=[1]) (λt=>by rw [G8]; grind) hxy he
theorem Qoy {f:List Rat} {L:List (List Rat)} (hc:Stm f L) {x y:Rat} (hxy:x<y) (he:vv L x=vv L y+1):Rp f x≠0/\Rp f y=-Rp f x:=by
 obtain ⟨R,hR,hx,hy⟩:=Qmh x y;exact (Zgx hR hc (w:=f) (u:=[1]) (λt=>by rw [G8]; grind) hx hy hxy).2.2 he
theorem Q8i {f:List Rat} {L:List (List Rat)} (hc:Stm f L) (R:Rat) (hR:0<=R):∃ e:Rat,0<e/\∀ x y,Uc x<=R->Uc y<=R->x<y->y-x<=e->vv L x<=vv L y+1:=by
 obtain ⟨e,ep,hl⟩:=loc hR hc (w:=f) (u:=[1]) (λt=>by rw [G8]; grind);refine ⟨e,ep,λx y hx hy hxy he=>?_⟩;rcases hl x y hx hy hxy he with ⟨h,_⟩ | ⟨h,_⟩ <;> omega
theorem Q0m {p:List Rat} {x:Rat} (h:W7 (ev p x)≠0):∃ e:Rat,0<e/\∀ y,Uc (y-x)<=e->W7 (ev p y)=W7 (ev p x):=by
 have hd:=Mp (x:=ev p x) λh0=>h (Ux.2 h0)
 have hR:0<=Uc x+1:=by have:=Ge x; grind
 obtain ⟨e,e1,e2,e3⟩:=Fo (Sk hR p) hd;refine ⟨e,e1,λy hy=>(Rv Qo (Tn (x:=x) (by grind) ?_ hR hy e3)).1⟩;have:=Hw (y-x) x;have e:y-x+x=y:=by grind
 rw [e] at this; grind
theorem Zev {R M:Rat} {p:List Rat} (hM:M=ddB R p) (hR:0<=R) {h:Rat} (hh:0<h):∀ (n:Nat) (x:Rat),Uc x<=R->Uc (x+(n:Rat)*h)<=R->(∀ t,x<=t->t<=x+(n:Rat)*h->0<=dv p t)->ev p x-(n:Rat)*(h*h*M)<=ev p (x+(n:Rat)*h)
 |
  0,x,_,_,_=>by
  have e1:x+((0:Nat):Rat)*h=x:=by rw [show ((0:Nat):Rat)=0 from rfl]; grind
  have e2:((0:Nat):Rat)*(h*h*M)=0:=by simp
  rw [e1,e2]; grind
 |
  n+1,x,hx,hy,hd=>by
  have hn':(((n+1:Nat):Rat))=(n:Rat)+1:=by push_cast; rfl
  rw [hn'] at hy hd ⊢;have hn0:(0:Rat)<=(n:Rat):=Xd;have hnh:=Pk hn0 (Qp hh);have e1:x+((n:Rat)+1)*h=(x+h)+(n:Rat)*h:=by grind
  rw [e1] at hy hd ⊢;have hxh:Uc (x+h)<=R:=Qcx hx hy (by clear hd; grind) (by clear hd; grind);have ih:=Zev hM hR hh n (x+h) hxh hy λt h1 h2=>hd t (by clear hd; grind) h2
  have h0:=hd x Qo (by clear hd; grind);have h1:=Zeh p (x+h) x;have h2:=Q4e hxh hx p;rw [<-hM,Tq] at h2;have h3:=Zv h2.1 (Pk (Qp hh) (Qp hh));have h4:=Pk (Qp hh) h0;have e2:x+h-x=h:=by grind
  rw [e2] at h1;clear hd hx hy hxh;grind
theorem Zkd {p:List Rat} {x y:Rat} (hxy:x<y) (hd:∀ t,x<=t->t<=y->0<=dv p t):ev p x<=ev p y:=by
 obtain ⟨R,hR,hx,hy⟩:=Qmh x y;rcases Uq (ev p x) (ev p y) with h | h
 ·exact h
 ·exfalso;obtain ⟨M,hM⟩:=nmE (ddB R p);have hM0:=Qh6 hR p;rw [<-hM] at hM0;obtain ⟨e,ep,_,he⟩:=Fo (b:=(y-x)*M) (d:=ev p x-ev p y) (Pk (by grind) hM0) (by grind);obtain ⟨n,hn⟩:=Ig (z:=y-x) ep;have hn0:0<(n:Rat):=by
   rcases Uq (n:Rat) 0 with h' | h'
   ·have:=Q7 h' (Qp ep); clear hd; grind
   ·exact h'
  have hh:0<(y-x) / n:=Dk (by grind) hn0;have e1:(n:Rat)*((y-x) / n)=y-x:=by rw [Wl]; exact Fi hn0
  have e2:x+(n:Rat)*((y-x) / n)=y:=by rw [e1]; grind
  have h1:=Zev hM hR hh n x hx (by rw [e2]; exact hy) (by rw [e2]; exact hd);rw [e2] at h1;have h2:(y-x) / n<=e:=by
   rcases Uq ((y-x) / n) e with h' | h'
   ·exact h'
   ·have:=Rat.mul_lt_mul_of_pos_left h' hn0; clear hd; grind
  have h3:(n:Rat)*((y-x) / n*((y-x) / n)*M)=((y-x) / n)*((y-x)*M):=by
   have:(n:Rat)*((y-x) / n*((y-x) / n)*M)=((n:Rat)*((y-x) / n))*(((y-x) / n)*M):=by grind
   rw [this,e1]; grind
  have h4:=Q7 h2 (Pk (x:=y-x) (y:=M) (by grind) hM0);rw [h3] at h1;clear hd; grind
theorem Zcs {p:List Rat} {x y:Rat} (hxy:x<y) (hd:∀ t,x<=t->t<=y->0<dv p t):ev p x<ev p y:=by
 have hx:=hd x Qo (by grind);have hR:0<=Uc x+1:=by have:=Ge x; grind
 obtain ⟨e,e1,e2,e3⟩:=Fo (Qh6 hR p) hx;obtain ⟨f,f1,f2,f3⟩:=min2 (a:=e) (b:=y-x) e1 (by grind);have hq:Uc (x+f)<=Uc x+1:=by
  have:=Hw x f; have:Uc f=f:=by unfold Uc; split <;> grind
  clear hd; grind
 have h1:=Qi1 (p:=p) (x:=x) (y:=x+f) (R:=Uc x+1) (e:=e) (d:=dv p x) (by clear hd; grind) hq hR (by grind) (by grind) (by unfold Uc; split <;> clear hd <;> grind) e3;rw [Gg.2 hx,Gg] at h1;rcases Classical.em (x+f=y) with e | e
 ·rw [<-e]; clear hd; grind
 ·have:=Zkd (p:=p) (x:=x+f) (y:=y) (by clear hd; grind) λt h1 h2=>Qp (hd t (by clear hd; grind) h2)
  clear hd; grind
structure Cut (c:Rat->Int):Prop where
 val:∀ q,c q=1\/c q=0\/c q=-1
 mono:∀ q r,q<r->c q≠1->c r=-1
 up:∀ q,c q=1->∃ r,q<r/\c r=1
 dn:∀ q,c q=-1->∃ r,r<q/\c r=-1
 lo:∃ q,c q=1
 hi:∃ q,c q=-1
theorem Cut.mono' {c:Rat->Int} (h:Cut c) {q r:Rat} (hqr:q<r) (hr:c r≠-1):c q=1:=by
 rcases Classical.em (c q=1) with e | e
 ·exact e
 ·exact absurd (h.mono q r hqr e) hr
theorem Cut.lt {c:Rat->Int} (h:Cut c) {q r:Rat} (hq:c q=1) (hr:c r=-1):q<r:=by
 rcases Uq r q with e | e
 ·rcases Classical.em (r=q) with e' | e'
  ·rw [e'] at hr; omega
  ·have:=h.mono r q (by grind) (by omega); omega
 ·exact e
theorem Cut.near {c:Rat->Int} (h:Cut c) {e:Rat} (he:0<e):∃ x y,c x=1/\c y=-1/\y-x<=e:=by
 obtain ⟨a,ha⟩:=h.lo;obtain ⟨b,hb⟩:=h.hi;have he2:0<e / 2:=Dk he (by decide);have h2:e / 2*2=e:=Fi (by decide);have key:∀ (n:Nat) (a:Rat),c a=1->b-a<=(n:Rat)*(e / 2)->∃ x y,c x=1/\c y=-1/\y-x<=e:=by
  intro n
  induction n with
  |
   zero =>
   intro a ha hn;have:=h.lt ha hb;rw [show ((0:Nat):Rat)=0 from rfl] at hn;exfalso; grind
  |
   succ n ih =>
   intro a ha hn;have hn':(((n+1:Nat):Rat))=(n:Rat)+1:=by push_cast; rfl
   rw [hn'] at hn;rcases h.val (a+e / 2) with h1 | h1 | h1
   ·exact ih _ h1 (by grind)
   ·exact ⟨a,a+e,ha,h.mono (a+e / 2) _ (by grind) (by omega),by grind⟩
   ·exact ⟨a,a+e / 2,ha,h1,by grind⟩
 obtain ⟨n,hn⟩:=Ig (z:=b-a) he2;exact key n a ha hn
def Lz (p:List Rat) (c:Rat->Int):Prop:=∀ d:Rat,0<d->∃ x y,c x=1/\c y=-1/\∀ q,x<=q->q<=y->Uc (ev p q)<d
def NZ (p:List Rat) (c:Rat->Int) (s:Int):Prop:=∃ d:Rat,0<d/\∃ x y,c x=1/\c y=-1/\∀ q,x<=q->q<=y->W7 (ev p q)=s/\d<=Uc (ev p q)
def Nr (c:Rat->Int) (P:Rat->Prop):Prop:=∃ x y,c x=1/\c y=-1/\∀ q,x<=q->q<=y->P q
theorem Quz {c:Rat->Int} {P Q:Rat->Prop} (h1:Nr c P) (h2:Nr c Q):Nr c λq=>P q/\Q q:=by
 obtain ⟨x,y,a1,a2,a3⟩:=h1;obtain ⟨x',y',b1,b2,b3⟩:=h2;refine ⟨if x<=x' then x' else x,if y<=y' then y else y',by split <;> assumption,by split <;> assumption,λq q1 q2=>⟨a3 q ?_ ?_,b3 q ?_ ?_⟩⟩ <;> clear a3 b3 <;> grind
theorem Qgx {c:Rat->Int} {P Q:Rat->Prop} (h1:Nr c P) (h:∀ q,P q->Q q):Nr c Q:=by
 obtain ⟨x,y,a1,a2,a3⟩:=h1;exact ⟨x,y,a1,a2,λq q1 q2=>h q (a3 q q1 q2)⟩
theorem Qrb {c:Rat->Int} (hc:Cut c) {P:Rat->Prop} (h1:Nr c P):∃ q,P q/\c q=1:=by
 obtain ⟨x,y,a1,a2,a3⟩:=h1;exact ⟨x,a3 x Qo (Qp (hc.lt a1 a2)),a1⟩
theorem Q6j {c:Rat->Int} (hc:Cut c) {e:Rat} (he:0<e) {P:Rat->Prop} (h1:Nr c P):∃ x y,c x=1/\c y=-1/\y-x<=e/\x<y/\∀ q,x<=q->q<=y->P q:=by
 obtain ⟨x,y,a1,a2,a3⟩:=h1;obtain ⟨x',y',b1,b2,b3⟩:=hc.near he;refine ⟨if x<=x' then x' else x,if y<=y' then y else y',by split <;> assumption,by split <;> assumption,by clear a3; grind,hc.lt (by split <;> assumption) (by split <;> assumption),λq q1 q2=>a3 q ?_ ?_⟩ <;> clear a3 <;> grind
theorem Zeu {c:Rat->Int} (hc:Cut c):∃ R:Rat,0<=R/\Nr c λq=>Uc q<=R:=by
 obtain ⟨x,y,a1,a2,_⟩:=hc.near (e:=1) (by decide);obtain ⟨R,hR,h1,h2⟩:=Qmh x y;exact ⟨R,hR,x,y,a1,a2,λq q1 q2=>Qcx h1 h2 q1 q2⟩
theorem Ot {c:Rat->Int} (hc:Cut c) (p:List Rat):Lz p c\/∃ s,s≠0/\NZ p c s:=by
 rcases Classical.em (Lz p c) with h | h
 ·exact .inl h
 ·refine .inr ?_;obtain ⟨d,hd0⟩:=Classical.not_forall.1 h;obtain ⟨dp,hd⟩:=Classical.not_imp.1 hd0;have hd:∀ x y,c x=1->c y=-1->∃ q,x<=q/\q<=y/\d<=Uc (ev p q):=λx y hx hy=>by
   rcases Classical.em (∃ q,x<=q/\q<=y/\d<=Uc (ev p q)) with h' | h'
   ·exact h'
   ·refine absurd ⟨x,y,hx,hy,λq h1 h2=>?_⟩ hd;rcases Uq d (Uc (ev p q)) with h3 | h3
    ·exact absurd ⟨q,h1,h2,h3⟩ h'
    ·exact h3
  obtain ⟨R,hR,hn⟩:=Zeu hc;have hd2:0<d / 2:=Dk dp (by decide);have h2:d / 2*2=d:=Fi (by decide);obtain ⟨e,e1,_,e3⟩:=Fo (Sk hR p) hd2;obtain ⟨x,y,hx,hy,hxy,_,hq⟩:=Q6j hc e1 hn;obtain ⟨r,r1,r2,r3⟩:=hd x y hx hy;have key:∀ q,x<=q->q<=y->Uc (ev p q-ev p r)<d / 2:=λq q1 q2 =>
   Tn (hq r r1 r2) (hq q q1 q2) hR (by rw [Tq]; clear hq hd; constructor <;> grind) e3
  refine ⟨W7 (ev p r),λh0=>?_,d / 2,hd2,x,y,hx,hy,λq q1 q2=>⟨(Rv (d:=d) r3 ?_).1,?_⟩⟩
  ·rw [Ux.1 h0,Gn] at r3; clear hq hd key; grind
  ·have:=key q q1 q2; clear hq hd key; grind
  ·have h3:=key q q1 q2;have h4:=Hw (ev p r-ev p q) (ev p q);rw [show ev p r-ev p q+ev p q=ev p r from by clear hq hd key; grind,Qzb] at h4;clear hq hd key; grind
theorem Zih {c:Rat->Int} (hc:Cut c) {p:List Rat} {s:Int} (h1:Lz p c) (h2:NZ p c s):False:=by
 obtain ⟨d,dp,h2⟩:=h2;obtain ⟨q,⟨a,b⟩,_⟩:=Qrb hc (Quz (h1 d dp) h2);exact absurd b.2 (Ji.2 a)
theorem Tg {c:Rat->Int} (hc:Cut c) {f p q:List Rat} (hf:∀ t,ev f t=ev p t*ev q t) (h:Lz p c):Lz f c:=by
 intro d dp;obtain ⟨R,hR,hn⟩:=Zeu hc;obtain ⟨e,e1,_,e3⟩:=Fo (Il hR q) dp;refine Qgx (Quz hn (h e e1)) λt ⟨h1,h2⟩=>?_
 rw [hf];have:=Fh (Qp h2) (Qfs h1 q);exact Ji.1 λh=>absurd (Zf h this) (Ji.2 e3)
theorem Qhd {c:Rat->Int} {f p q:List Rat} (hf:∀ t,ev f t=ev p t+ev q t) (h:Lz p c) (h':Lz q c):Lz f c:=by
 intro d dp;have hd2:0<d / 2:=Dk dp (by decide);have h2:d / 2*2=d:=Fi (by decide);refine Qgx (Quz (h _ hd2) (h' _ hd2)) λt ⟨h1,h2⟩=>?_
 rw [hf];have:=Hw (ev p t) (ev q t);grind
def RS (p:List Rat) (c:Rat->Int) (s:Int):Prop:=∃ y,c y=-1/\∀ q,c q=-1->q<=y->W7 (ev p q)=s
def LS (p:List Rat) (c:Rat->Int) (s:Int):Prop:=∃ x,c x=1/\∀ q,c q=1->x<=q->W7 (ev p q)=s
theorem Ql5 {c:Rat->Int} (hc:Cut c) {p:List Rat} {s:Int} (h:NZ p c s):RS p c s:=by
 obtain ⟨d,dp,x,y,a1,a2,a3⟩:=h;exact ⟨y,a2,λq h1 h2=>(a3 q (Qp (hc.lt a1 h1)) h2).1⟩
theorem Qye {c:Rat->Int} (hc:Cut c) {p:List Rat} {s:Int} (h:NZ p c s):LS p c s:=by
 obtain ⟨d,dp,x,y,a1,a2,a3⟩:=h;exact ⟨x,a1,λq h1 h2=>(a3 q h2 (Qp (hc.lt h1 a2))).1⟩
theorem Qdk {c:Rat->Int} {p:List Rat} {s s':Int} (h:RS p c s) (h':RS p c s'):s=s':=by
 obtain ⟨y,a1,a2⟩:=h;obtain ⟨y',b1,b2⟩:=h';rcases Uq y y' with e | e
 ·rw [<-a2 y a1 Qo,<-b2 y a1 e]
 ·rw [<-a2 y' b1 (Qp e),<-b2 y' b1 Qo]
theorem Zey {c:Rat->Int} (hc:Cut c) {p:List Rat} (hv:Lz p c) {y:Rat} (hy:c y=-1) (h:∀ q,c q=-1->q<=y->0<dv p q) (q:Rat) (hq:c q=-1) (hqy:q<=y):0<ev p q:=by
 rcases Uq (ev p q) 0 with h0 | h0
 ·exfalso;obtain ⟨r,r1,r2⟩:=hc.dn q hq;have hr:ev p r<ev p q:=Zcs r1 λt t1 t2=>h t (by
   rcases Classical.em (r=t) with e | e
   ·rw [<-e]; exact r2
   ·exact hc.mono r t (by clear h; grind) (by omega)) (Zf t2 hqy)
  obtain ⟨a,b,ha,hb,hab⟩:=hv (-ev p r) (by clear h; grind);obtain ⟨m,hm1,hm2,hm3⟩:∃ m,c m=-1/\m<=b/\m<=r:=by
   rcases Uq b r with e | e
   ·exact ⟨b,hb,Qo,e⟩
   ·exact ⟨r,r2,Qp e,Qo⟩
  have h1:=hab m (Qp (hc.lt ha hm1)) hm2;have h2:ev p m<=ev p r:=by
   rcases Classical.em (m=r) with e | e
   ·rw [e]; exact Qo
   ·exact Qp (Zcs (by clear h hab; grind) λt t1 t2=>h t (by
     rcases Classical.em (m=t) with e | e
     ·rw [<-e]; exact hm1
     ·exact hc.mono m t (by clear h hab; grind) (by omega)) (by clear h hab; grind))
  rw [Qof] at h1;clear h hab; grind
 ·exact h0
theorem Qoj {c:Rat->Int} (hc:Cut c) {p:List Rat} {s:Int} (hv:Lz p c) (h:RS (Pm p) c s) (hs:s≠0):RS p c s:=by
 obtain ⟨y,hy,h⟩:=h;have hsv:s=1\/s=-1:=by
  have:=h y hy Qo;rcases Um (ev (Pm p) y) with ⟨e,_⟩ | ⟨e,_⟩ | ⟨e,_⟩ <;> omega
 rcases hsv with rfl | rfl
 ·refine ⟨y,hy,λq h1 h2=>Gg.2 (Zey hc hv hy (λq h1 h2=>?_) q h1 h2)⟩;rw [<-Hh]; exact Gg.1 (h q h1 h2)
 ·refine ⟨y,hy,λq h1 h2=>Rk.2 ?_⟩;have:=Zey hc (p:=Nx (-1) p) (y:=y) (λd dp=>Qgx (hv d dp) λq hq=>by rw [Uz,show -1*ev p q=-ev p q by grind,Cx]; exact hq) hy (λq h1 h2=>by
   rw [Qeg,<-Hh];have:=Rk.1 (h q h1 h2); grind) q h1 h2
  rw [Uz] at this; grind
theorem Zep {c:Rat->Int} (hc:Cut c) {p:List Rat} (hv:Lz p c) {x:Rat} (hx:c x=1) (h:∀ q,c q=1->x<=q->0<dv p q) (q:Rat) (hq:c q=1) (hxq:x<=q):ev p q<0:=by
 rcases Uq 0 (ev p q) with h0 | h0
 ·exfalso;obtain ⟨r,r1,r2⟩:=hc.up q hq;have hr:ev p q<ev p r:=Zcs r1 λt t1 t2=>h t (by
   rcases Classical.em (t=r) with e | e
   ·rw [e]; exact r2
   ·exact hc.mono' (q:=t) (r:=r) (by clear h; grind) (by omega)) (Zf hxq t1)
  obtain ⟨a,b,ha,hb,hab⟩:=hv (ev p r) (by clear h; grind);obtain ⟨m,hm1,hm2,hm3⟩:∃ m,c m=1/\a<=m/\r<=m:=by
   rcases Uq a r with e | e
   ·exact ⟨r,r2,e,Qo⟩
   ·exact ⟨a,ha,Qo,Qp e⟩
  have h1:=hab m hm2 (Qp (hc.lt hm1 hb));have h2:ev p r<=ev p m:=by
   rcases Classical.em (r=m) with e | e
   ·rw [e]; exact Qo
   ·exact Qp (Zcs (by clear h hab; grind) λt t1 t2=>h t (by
     rcases Classical.em (t=m) with e | e
     ·rw [e]; exact hm1
     ·exact hc.mono' (q:=t) (r:=m) (by clear h hab; grind) (by omega)) (by clear h hab; grind))
  rw [Qof] at h1;clear h hab; grind
 ·exact h0
theorem Q53 {c:Rat->Int} (hc:Cut c) {p:List Rat} {s:Int} (hv:Lz p c) (h:LS (Pm p) c s) (hs:s≠0):LS p c (-s):=by
 obtain ⟨x,hx,h⟩:=h;have hsv:s=1\/s=-1:=by
  have:=h x hx Qo;rcases Um (ev (Pm p) x) with ⟨e,_⟩ | ⟨e,_⟩ | ⟨e,_⟩ <;> omega
 rcases hsv with rfl | rfl
 ·refine ⟨x,hx,λq h1 h2=>Rk.2 (Zep hc hv hx (λq h1 h2=>?_) q h1 h2)⟩;rw [<-Hh]; exact Gg.1 (h q h1 h2)
 ·refine ⟨x,hx,λq h1 h2=>Gg.2 ?_⟩;have:=Zep hc (p:=Nx (-1) p) (x:=x) (λd dp=>Qgx (hv d dp) λq hq=>by rw [Uz,show -1*ev p q=-ev p q by grind,Cx]; exact hq) hx (λq h1 h2=>by
   rw [Qeg,<-Hh];have:=Rk.1 (h q h1 h2); grind) q h1 h2
  rw [Uz] at this; grind
theorem Zcx {c:Rat->Int} (hc:Cut c) {f g:List Rat} {l:List (List Rat)} (h:SCl f g l):Lz f c->Lz g c->False:=by
 induction h with
 |
  @base f g k hk hg =>
  intro _ hv;obtain ⟨q,hq,_⟩:=Qrb hc (hv (Uc k) (Mp hk));rw [hg] at hq; grind
 |
  @step f g h l a b q ha hb he hl ih =>
  intro hf hg;refine ih hg ?_;have h1:Lz (Fa q g) c:=Tg hc (p:=g) (q:=q) (λt=>by rw [W9]; grind) hg;have h2:Lz (Nx (-a) f) c:=Tg hc (p:=f) (q:=[-a]) (λt=>by rw [Uz]; simp only [ev]; grind) hf;have h3:Lz (Hx (Fa q g) (Nx (-a) f)) c:=Qhd (λt=>U7 t _ _) h1 h2;refine Tg hc (p:=Hx (Fa q g) (Nx (-a) f)) (q:=[1 / b]) (λt=>?_) h3;have:=he t;rw [U7,W9,Uz];simp only [ev];have hbb:1 / b*b=1:=Fi hb;have:ev q t*ev g t+-a*ev f t=b*ev h t:=by rw [show -a*ev f t=-(a*ev f t) by grind,he t]; grind
  rw [this];have:b*ev h t*(1 / b+t*0)=ev h t*(1 / b*b):=by grind
  rw [this,hbb]; grind
theorem Qmf {c:Rat->Int} (hc:Cut c) {f g:List Rat} {k:Rat} (h:∀ t,ev g t=k*ev f t) (hv:Lz f c):Lz g c :=
 Tg hc (p:=f) (q:=[k]) (λt=>by rw [h]; simp only [ev]; grind) hv
theorem Zc2 {c:Rat->Int} (hc:Cut c) {f:List Rat} {L:List (List Rat)} (h:Stm f L) (hv:Lz f c):∃ s,s≠0/\NZ (Pm f) c s:=by
 rcases Ot hc (Pm f) with h1 | h1
 ·exfalso;rcases h with ⟨k,hk,hf,_⟩ | ⟨g,l,k,hk,hg,h,_⟩
  ·obtain ⟨q,hq,_⟩:=Qrb hc (hv (Uc k) (Mp hk));rw [hf] at hq; grind
  ·exact Zcx hc h hv (Qmf hc (λt=>by rw [hg,Hh]) h1)
 ·exact h1
theorem Qxi {c:Rat->Int} (hc:Cut c) {f w u:List Rat} {L:List (List Rat)} (h:Stm f L) (hf:∀ t,ev f t=ev w t*ev u t) (hv:Lz w c):∃ s,s≠0/\NZ (Pm w) c s:=by
 rcases Ot hc (Pm w) with h1 | h1
 ·exfalso;obtain ⟨s,_,hs⟩:=Zc2 hc h (Tg hc hf hv);refine Zih hc ?_ hs;have a1:Lz (Fa (Pm w) u) c:=Tg hc (λt=>W9 t _ _) h1;have a2:Lz (Fa w (Pm u)) c:=Tg hc (λt=>W9 t _ _) hv;refine Qhd (λt=>?_) a1 a2;rw [Hh,Al hf,W9,W9,Hh,Hh]
 ·exact h1
theorem Q4b {c:Rat->Int} (hc:Cut c) {q:Rat} (h:c q=0) {x y:Rat} (hx:c x=1) (hy:c y=-1):x<=q/\q<=y:=by
 constructor
 ·rcases Uq x q with e | e
  ·exact e
  ·have:=hc.mono q x e (by omega); omega
 ·rcases Uq q y with e | e
  ·exact e
  ·have:=hc.mono y q e (by omega); omega
theorem Qfh {c:Rat->Int} (hc:Cut c) {p:List Rat} {q:Rat} (h:c q=0) (hv:Lz p c):ev p q=0:=by
 rcases Classical.em (ev p q=0) with e | e
 ·exact e
 ·obtain ⟨x,y,hx,hy,hq⟩:=hv _ (Mp e);obtain ⟨h1,h2⟩:=Q4b hc h hx hy;have:=hq q h1 h2; grind
theorem Qrd {c:Rat->Int} (hc:Cut c) {p:List Rat} {q:Rat} {s:Int} (h:c q=0) (hv:NZ p c s):W7 (ev p q)=s:=by
 obtain ⟨d,dp,x,y,hx,hy,hq⟩:=hv;obtain ⟨h1,h2⟩:=Q4b hc h hx hy;exact (hq q h1 h2).1
theorem Qt5 {c:Rat->Int} (hc:Cut c) {y z:Rat} (hy:c y=-1) (hz:c z=-1):∃ q,c q=-1/\q<y/\q<z:=by
 obtain ⟨a,a1,a2⟩:=hc.dn y hy;obtain ⟨b,b1,b2⟩:=hc.dn z hz;rcases Uq a b with e | e
 ·exact ⟨a,a2,a1,by grind⟩
 ·exact ⟨b,b2,by grind,b1⟩
theorem Qh5 {c:Rat->Int} (hc:Cut c) {y z:Rat} (hy:c y=1) (hz:c z=1):∃ q,c q=1/\y<q/\z<q:=by
 obtain ⟨a,a1,a2⟩:=hc.up y hy;obtain ⟨b,b1,b2⟩:=hc.up z hz;rcases Uq a b with e | e
 ·exact ⟨b,b2,by grind,b1⟩
 ·exact ⟨a,a2,a1,by grind⟩
theorem Q6i {f w u:List Rat} {L:List (List Rat)} (h:Stm f L) (hf:∀ t,ev f t=ev w t*ev u t) {x y:Rat} (hv:vv L x=vv L y) {c:Rat->Int} (hc:Cut c) (hx:c x=1) (hy:c y≠1):¬Lz w c:=λhw=>by
 have hxy:x<y:=by
  rcases Uq y x with e | e
  ·rcases Classical.em (y=x) with e' | e'
   ·rw [e'] at hy; exact absurd hx hy
   ·have:=hc.mono y x (by grind) hy; omega
  ·exact e
 have hwv:=Qa5 h hf hxy hv;rcases hc.val y with e | e | e
 ·exact hy e
 ·have:=Qfh hc e hw;have:=hwv.s;rw [Ux.2 (by assumption)] at this;exact hwv.n this.symm
 ·obtain ⟨s,hs,hd⟩:=Qxi hc h hf hw;obtain ⟨a,ha,hal⟩:=Q53 hc hw (Qye hc hd) hs;obtain ⟨b,hb,hbr⟩:=Qoj hc hw (Ql5 hc hd) hs;obtain ⟨q,q1,q2,q3⟩:=Qh5 hc hx ha;obtain ⟨r,r1,r2,r3⟩:=Qt5 hc hb e;have e1:=hal q q1 (Qp q3);have e2:=hbr r r1 (Qp r2);have hqr:=hc.lt q1 r1;have v1:vv L q<=vv L x:=D6 h q2;have v2:vv L y<=vv L r:=D6 h r3;have v3:vv L r<=vv L q:=D6 h hqr;have s1:=(Qa5 h hf q2 (by omega)).s;have s2:=(Qa5 h hf (x:=x) (y:=r) (by grind) (by omega)).s;omega
theorem Qot {f:List Rat} {L:List (List Rat)} (h:Stm f L) {x y:Rat} (hxy:x<y) (hv:vv L x≠vv L y) {d:Rat} (dp:0<d):∃ q,x<=q/\q<=y/\Uc (ev f q)<d:=by
 obtain ⟨R,hR,hx,hy⟩:=Qmh x y;obtain ⟨e1,e1p,hl⟩:=loc hR h (w:=f) (u:=[1]) (λt=>by rw [G8]; grind);obtain ⟨e2,e2p,_,e2b⟩:=Fo (Sk hR f) dp;obtain ⟨e,ep,h1,h2⟩:=min2 e1p e2p;have key:∀ n:Nat,∀ x,Uc x<=R->x<y->vv L x≠vv L y->y-x<=(n:Rat)*e->∃ q,x<=q/\q<=y/\Uc (ev f q)<d:=by
  intro n
  induction n with
  | zero=>intro x hx hxy _ hn; rw [show ((0:Nat):Rat)=0 from rfl] at hn; exfalso; clear hl; grind
  |
   succ n ih =>
   intro x hx hxy hv hn;have hstep:∀ z,Uc z<=R->x<z->z-x<=e->vv L x≠vv L z->Uc (ev f z)<d:=λz hz hxz hze hv=>by
    rcases hl x z hx hz hxz (Zf hze h1) with ⟨p,_⟩ | ⟨_,p1,p2,p3,p4⟩
    ·exact absurd p hv
    ·have hd:=Tn (p:=f) hx hz hR (e:=e2) (d:=d) (by rw [Tq]; clear hl ih; constructor <;> grind) e2b;rw [<-p3] at p1 p4;clear hl ih p2 p3;rw [Qof] at *;rcases Um (ev f x) with ⟨a,a'⟩ | ⟨a,a'⟩ | ⟨a,a'⟩ <;> rcases Um (ev f z) with ⟨b,b'⟩ | ⟨b,b'⟩ | ⟨b,b'⟩ <;> rw [a,b] at p4 <;> first | (exfalso; revert p4; decide) | skip
     all_goals first | (constructor <;> grind) | (exfalso; omega)
   rcases Uq (y-x) e with h3 | h3
   ·exact ⟨y,Qp hxy,Qo,hstep y hy hxy h3 hv⟩
   ·have hm:Uc (x+e)<=R:=Qcx hx hy (by clear hl ih hstep; grind) (by clear hl ih hstep; grind);rcases Classical.em (vv L x=vv L (x+e)) with e0 | e0
    ·have hn':(((n+1:Nat):Rat))=(n:Rat)+1:=by push_cast; rfl
     rw [hn'] at hn;obtain ⟨q,q1,q2,q3⟩:=ih (x+e) hm (by clear hl ih hstep; grind) (by omega) (by clear hl ih hstep; grind);exact ⟨q,by clear hl ih hstep; grind,q2,q3⟩
    ·exact ⟨x+e,by clear hl ih hstep; grind,by clear hl ih hstep; grind,hstep (x+e) hm (by clear hl ih hstep; grind) (by clear hl ih hstep; grind) e0⟩
 obtain ⟨n,hn⟩:=Ig (z:=y-x) ep;exact key n x hx hxy hv hn
end Orq
