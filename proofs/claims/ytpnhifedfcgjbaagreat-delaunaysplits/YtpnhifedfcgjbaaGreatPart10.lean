/- SC1 MD6 SD1 W1 W2 WR18 WS18 X22 B22 WK22 WS22 ReadN LastN LastR LastS -/
import Derived.Test.YtpnhifedfcgjbaaGreatPart08
import Derived.Test.YtpnhifedfcgjbaaGreatPart00
import Derived.Test.YtpnhifedfcgjbaaGreatPart09
import Derived.Test.YtpnhifedfcgjbaaGreatPart07
import Derived.Test.YtpnhifedfcgjbaaGreatPart04
import Derived.Deep.Slices
import Derived.ProofKit
import Derived.OpenShut
import Derived.WideKeyArgs
import Derived.SizedLaws
set_option linter.all false
namespace Orr
open Go Go.Proofs Orq
set_option maxRecDepth 10000
theorem Zc1 {l:List Nat} (hl:l.length<=1000000000):W5 Tryz.prog 175 [.one (.row (lm l)),.one (.row (lm l))] [.one (.bool true)]:=by
 have hll:(lm l).length=l.length:=by simp [lm]
 refine Fq Tryz.func175 rfl ?_;refine go tt [.f (decide_eq_false (λh=>h rfl))] rfl trivial ?_;refine lp (S:=Nat) 0 (λL1 i=>(5,.v (.one (.int .i64 (i:Int))))::L1) (λ_=>[]) (λi=>l.length-i) (λi=>i<=l.length) 0 (Qg _) rfl (λ_ _=>rfl) rfl λi hi=>?_
 by_cases h:i<l.length
 ·have hx:(lm l)[i]? = some [.int .u32 ((l[i]:Nat):Int)]:=Fb (Qf h);refine go tt [.t (decide_eq_true (by omega)),.x hx,.x hx,.f (decide_eq_false (λh=>h rfl))] rfl (by simp [W3]; omega) ?_;exact rd (i+1) (by omega) h rfl
 ·exact en tt [.f (decide_eq_false (by omega))] rfl rfl trivial
theorem Zcy {z:Int} (hz:Ug z<=4294967295):W5 Tryz.prog 124 [.agg (Fp z),.agg (Fp z)] [.one (.bool true)] :=
 w tt Tryz.func124 rfl [.g 10 true (decide_eq_true rfl),.c [] (Zc1 (l:=Un z.natAbs) (by have:=G9 (x:=z.natAbs) (k:=4294967295) hz; omega))] rfl rfl trivial
theorem Zcz {p:List Int} (hp:Bd 4294967295 p) (hl:p.length<=1000000):W5 Tryz.prog 65 [pr p,pr p] [.one (.bool true)]:=by
 have hpl:(p.map Fp).length=p.length:=by simp
 show W5 Tryz.prog 65 [.one (.row (p.map Fp)),.one (.row (p.map Fp))] _;refine Fq Tryz.func65 rfl ?_;refine go tt [.f (decide_eq_false (λh=>h rfl))] rfl trivial ?_;refine lp (S:=Nat) 0 (λL1 i=>(13,.v (.one (.int .i64 (i:Int))))::L1) (λ_=>[]) (λi=>p.length-i) (λi=>i<=p.length) 0 (Qg _) rfl (λ_ _=>rfl) rfl λi hi=>?_
 by_cases h:i<p.length
 ·have hx:=Rp (Gt h);refine go tt [.t (decide_eq_true (by omega)),.x hx,.x hx,.c [] (Zcy (Ui hp i)),.f rfl] rfl (by simp [W3]; omega) ?_;exact rd (i+1) (by omega) h rfl
 ·exact en tt [.f (decide_eq_false (by omega))] rfl rfl trivial
theorem Q51 {l:List Ct} (hl:∀ c∈l,Cp c.p) (hn:l.length≤1000000):W5 Tryz.prog 24 [.one (.row (Uo l)),.one (.row (Uo l))] [.one (.bool true)]:=by
 have hcl:=Mh l;refine Fq Tryz.func24 rfl ?_;refine go tt [.f (decide_eq_false (λh=>h rfl))] rfl trivial ?_;refine lp (S:=Nat) 0 (λL1 i=>(13,.v (.one (.int .i64 (i:Int))))::L1) (λ_=>[]) (λi=>l.length-i) (λi=>i<=l.length) 0 (Qg _) rfl (λ_ _=>rfl) rfl λi hi=>?_
 by_cases h:i<l.length
 ·obtain ⟨c,hc⟩:=gxE (l:=l) (i:=i) h;have hx:=Qe8 hc;have hp:=hl c (Qa hc);refine go tt [.t (decide_eq_true (by omega)),.x hx,.x hx,.g 27 false (by simp),.x hx,.x hx,.g 40 false (by simp),.x hx,.x hx,.c [] (Zcz (W4 hp.b (by decide)) (by have:=hp.l; omega)),.f rfl] rfl (by simp [W3]; omega) ?_;exact rd (i+1) (by omega) h rfl
 ·exact en tt [.f (decide_eq_false (by omega))] rfl rfl trivial
theorem Zc0 {l:List P3} (hl:l.length<=1000000):W5 Tryz.prog 63 [.one (.row (M5 l)),.one (.row (M5 l))] [.one (.bool true)]:=by
 have hll:=Ak l;refine Fq Tryz.func63 rfl ?_;refine go tt [.f (decide_eq_false (λh=>h rfl))] rfl trivial ?_;refine lp (S:=Nat) 0 (λL1 i=>(5,.v (.one (.int .i64 (i:Int))))::L1) (λ_=>[]) (λi=>l.length-i) (λi=>i<=l.length) 0 (Qg _) rfl (λ_ _=>rfl) rfl λi hi=>?_
 by_cases h:i<l.length
 ·obtain ⟨x,hx⟩:=gxE (l:=l) (i:=i) h;refine go tt [.t (decide_eq_true (by omega)),.x (Qld hx),.x (Qld hx),.f (by simp)] rfl (by simp [W3]; omega) ?_;exact rd (i+1) (by omega) h rfl
 ·exact en tt [.f (decide_eq_false (by omega))] rfl rfl trivial
theorem Zcx {l:List (Int×Int)} (hl:l.length<=1000000):W5 Tryz.prog 64 [.one (.row (Nu l)),.one (.row (Nu l))] [.one (.bool true)]:=by
 have hll:=Ga l;refine Fq Tryz.func64 rfl ?_;refine go tt [.f (decide_eq_false (λh=>h rfl))] rfl trivial ?_;refine lp (S:=Nat) 0 (λL1 i=>(5,.v (.one (.int .i64 (i:Int))))::L1) (λ_=>[]) (λi=>l.length-i) (λi=>i<=l.length) 0 (Qg _) rfl (λ_ _=>rfl) rfl λi hi=>?_
 by_cases h:i<l.length
 ·obtain ⟨x,hx⟩:=gxE (l:=l) (i:=i) h;refine go tt [.t (decide_eq_true (by omega)),.x (Qdb hx),.x (Qdb hx),.f (by simp)] rfl (by simp [W3]; omega) ?_;exact rd (i+1) (by omega) h rfl
 ·exact en tt [.f (decide_eq_false (by omega))] rfl rfl trivial
theorem Q5d {c c':Cr} {l l' m:List Pt} {a:Tm} {r:List (List LV)} (hm:m.length<=6) (hr:r=brD m a):G5 Tryz.prog 23 [.one (.ow 0 0),.one (.ow 1 0)] [.blk 86 (Md c (Ud l) r),.blk 86 (Md c' (Ud l') r)] [.one (.bool true)] [.blk 86 (Md c (Ud l) r),.blk 86 (Md c' (Ud l') r)]:=by
 have hl:=Q3o (Pq a) hm;have hr:r=M5 (M9 (Pq a) m):=hr;rw [hr];have he:=Qb5 (M9 (Pq a) m) [];have he:(Bw (M9 (Pq a) m)).length<=0+3*(M9 (Pq a) m).length:=he;have c1:=Qbx (c:=c) (r0:=Ud l) (ts:=M9 (Pq a) m) (by omega);have c2:=Qbx (c:=c') (r0:=Ud l') (ts:=M9 (Pq a) m) (by omega);have c3:=Qiu (c:=c) (r0:=Ud l) (ts:=M9 (Pq a) m) (by omega);have c4:=Qiu (c:=c') (r0:=Ud l') (ts:=M9 (Pq a) m) (by omega);have s1:=Zc0 (l:=M9 (Pq a) m) (by omega);have s2:=Zcx (l:=Bw (M9 (Pq a) m)) (by omega);refine Fq Tryz.func23 rfl ?_;exact ed tt [] [0,1] [.c [0] c1,.c [1] c2,.c [] s1,.g 10 true rfl,.c [0] c3,.c [1] c4,.c [] s2] rfl trivial
end Orr
namespace Orr
open Go Go.Proofs
set_option maxRecDepth 10000
theorem Cs.up {s n s' n':Nat} {k:Crv} (h:Cs s n k) (hs:s<=s') (hn:n<=n'):Cs s' n' k:=⟨W4 h.x hs,W4 h.y hs,Qc h.d hs,Qc h.lx hn,Qc h.ly hn⟩
end Orr
namespace Orr
open Go Go.Proofs Orq
set_option maxRecDepth 10000
theorem Q24 {l m:List Pt} (h:l.Perm m) (hd:Lt l):Lt m:=(h.pairwise_iff (λh=>λe=>h e.symm)).1 hd
theorem Q7s {Bc:Tm->List Ct} {q:Rat} {E:List Tm} (h:Evs Bc q (tq q) E):E=[]:=by
 cases h with
 | nil h=>rfl
 | cons he h1 h2=>exact absurd h1 h2
theorem Zbi {t q:Rat}:Ul (tq t) q=1↔q<t:=by
 rw [Ai]; rcases Rh t q with ⟨e,h⟩ | ⟨e,h⟩ | ⟨e,h⟩ <;> grind
theorem Zbh {t q:Rat}:Ul (tq t) q=-1↔t<q:=by
 rw [Ai]; rcases Rh t q with ⟨e,h⟩ | ⟨e,h⟩ | ⟨e,h⟩ <;> grind
theorem Q1s {s t:Rat}:Tl (tq s) (tq t)↔s<t:=by
 constructor
 ·rintro ⟨q,h1,h2⟩
  have:=Zbh.1 h1; have:=Zbi.1 h2; grind
 ·intro h;exact ⟨(s+t) / 2,Zbh.2 (by grind),Zbi.2 (by grind)⟩
theorem Za3 (n d:Int):(-100:Rat)<=Nm n d:=by
 have h1:Bu n 61=n % 61:=rfl;have h2:Bu d 6=d % 6:=rfl;unfold Nm Fl;rw [if_neg (by omega),<-Dd];have e:(0:Rat)<((1+Bu d 6:Int):Rat):=by
  have:((0:Int):Rat)<((1+Bu d 6:Int):Rat):=X7.2 (by omega);exact this
 obtain ⟨a,ha⟩:=nmE (Bu n 61-30);obtain ⟨b,hb⟩:=nmE (1+Bu d 6);have h3:-30<=a:=by omega
 have h4:1<=b:=by omega
 rw [<-ha];rw [<-hb] at e ⊢;refine Rat.not_lt.1 λh=>?_
 have h5:=Q8 (Qq h) (Qq e);have h6:(a:Rat) / (b:Rat)*(b:Rat)=(a:Rat):=by grind
 rw [h6] at h5;have h7:((a:Int):Rat)<=((-100*b:Int):Rat):=by rw [Xj]; exact h5
 have:=Xx.1 h7;omega
theorem Q2h {c:Cr} {r0:List (List LV)} {r1:List (List LV)}:G5 Tryz.prog 16 [.one (.ow 0 0)] [.blk 86 (Md c r0 r1)] [.one (.ow 1 0)] [.blk 86 (Md c r0 r1),.blk 86 (Md c r0 r1)]:=by
 refine Fq Tryz.func16 rfl ?_;exact ed tt [] [0,1] [] rfl trivial
theorem Qvv {M:List Pt} {q:Rat} {c:List (List Int)} (hM:∀ p∈M,Rs p.c) (hl:M.length≤6) (hq:Qs 1000000 q) (hC:Qye q c):G5 Tryz.prog 45 [.one (.ow 0 0)] [.blk 45 (plZ M q)] [] [.blk 45 (plB M q c (Qea q M))]:=by
 refine Fq Tryz.func45 rfl ?_;exact ed tt [] [0] [.c [] (Qrn hq hC),.c [] (Qve (cs:=c) hM hl hq),.c [] (Q6q (Q35 q hl))] rfl trivial
theorem Q2n {zs:List RawPt} {n d:Int} {O M:List Pt} {e:Nat} {c:List (List Int)} (hz:∀ z∈zs,z.Ok) (hO:Qf2 4 20 zs=O) (he:e≤O.length) (hd:Lt (Rr O e)) (hm:e<O.length->¬Lt (Rr O (e+1))) (hn:-9223372036854775808≤n/\n≤9223372036854775807) (hdd:-9223372036854775808≤d/\d≤9223372036854775807) (hC:Qye (Nm n d) c) (hM:M=Hu D5 (Qbf O e)) :
 G5 Tryz.prog 7 [.one (.row (Qec zs)),.one (.int .i64 n),.one (.int .i64 d)] [] [.one (.ow 0 0),.one (.ow 1 0),.one (.bool true)] [.blk 86 (Md (Q5a M (tq (Nm n d))) (Ud M) (brD M (tq (Nm n d)))),.blk 45 (plB M (Nm n d) c (Qea (Nm n d) M))]:=by
 have hO4:O.length<=4:=by rw [<-hO]; exact I5 _ _ (Qg _)
 have hid:∀ p∈O,-9223372036854775808≤p.id/\p.id≤9223372036854775807:=λp hp=>by
  rw [<-hO] at hp; have:=Ze7 p hp; omega
 have hlit:∀ p∈O,Q13 p:=λp hp=>by rw [<-hO] at hp; exact Qm5 (by decide) p hp
 have hcl:(Rr O e).length=e:=Qc7 he;have hcn:(Qbf O e).length=e:=by rw [Qgy,hcl]
 have hMl:M.length=e:=by rw [hM,Nn,hcn]
 have hok:∀ p∈M,Nml p.c/\Cs 10 3 p.c:=λp hp=>by rw [hM,Ag] at hp; exact Qzk hlit e p hp
 have hq:=Qf9 n d;obtain ⟨q,hqq⟩:=nmE (Nm n d);have cb:=Qy7 (l:=Qbf O e) (by omega);rw [<-hM] at cb;rw [<-hqq] at hq hC ⊢;have csm:=Qyw hn hdd;have c2:=Qvv (M:=M) (q:=q) (c:=c) (λp hp=>⟨(hok p hp).1,(hok p hp).2.mono (by decide) (by decide)⟩) (by omega) (hq.mono (by decide)) hC;have ctr:=Q55 (q:=q) (hq.mono (by decide));have hnl:=Q3t (qs:=Qbf O e) (by omega) (Qma hd);have hnl2:Rj [] (Qbf O e)=(M,0):=by rw [hM,<-hnl.2,<-hnl.1]
 have cs:=Qyp (zs:=Ud (Rr O e)) (qs:=Qbf O e) (l:=M) (n:=q.num) (d:=(q.den:Int)) (Qm2 λp hp=>(Qr1 hlit e p hp).mono (by decide) (by decide)) (by omega) hnl2 (λp hp=>⟨(hok p hp).1,(hok p hp).2.mono (by decide) (by decide)⟩) (by omega) (W6 q.num) (W6 (q.den:Int)) (Qc hq.1 (by decide)) (Qc hq.2 (by decide)) (by rw [Ib]; exact hq.mono (by decide));rw [Ib] at cs;rw [show Fl (Bu n 61-30) (1+Bu d 6)=q from hqq.symm] at csm;have cp:=Q2l hz;rw [hO] at cp;refine Fq Tryz.func7 rfl ?_;refine go tt [.c [0,1] cp] rfl trivial ?_;have h0l:=Re O;refine ct 2 (S:=Unit) (λ_=>[(1,.v (.one (.int .i64 n))),(2,.v (.one (.int .i64 d))),(9,.v (.one (.row (Ud (Rr O e))))),(10,.v (.one (.row (Uu (Qbf O e)))))]) (λ_=>[.gone,.gone]) (λ_=>True) rfl ?_ (λ_ _=>?_)
 ·refine lp (S:=Nat) 2 (λL1 i=>(23,.v (.one (.int .i64 (i:Int))))::(9,.v (.one (.orow 0 5 none)))::(10,.v (.one (.orow 1 7 none)))::L1) (λi=>[.row false 114 5 (Ud (mix O i)),.row false 61 7 (Uu ((mix O i).map Pt.nrm))]) (λi=>O.length-i) (λi=>i<=O.length/\i<=e/\Lt (Rr O i)) 0 ⟨Qg _,Qg _,List.Pairwise.nil⟩ rfl (λ_ _=>rfl) (by rw [Q80]; rfl) λi ⟨hi,hie,hdi⟩=>?_
  have hl1:(Ud (mix O (i+1))).length=O.length:=by rw [Re,Qh2]
  have hl0:(Ud (mix O i)).length=O.length:=by rw [Re,Qh2]
  have hr0:(Uu ((mix O i).map Pt.nrm)).length=O.length:=by rw [Ty,Q7,Qh2]
  have hr1:(Uu ((mix O (i+1)).map Pt.nrm)).length=O.length:=by rw [Ty,Q7,Qh2]
  by_cases h:i<O.length
  ·obtain ⟨p,hp⟩:=gxE (l:=O) (i:=i) h;have hx:=Zem hp;have hxn:((mix O i).map Pt.nrm)[i]? = some p.nrm:=by rw [Q9,hx]; rfl
   have cw:=Qc2 (v:=p.id) (n:=5) (hid p (Qa hp)) (by decide);rw [show Bu p.id 5=p.m5.id from rfl] at cw;refine go tt [.t (decide_eq_true (by omega)),.i i,.x (O5 hx),.c [] cw,.i i,.x (O5 hx),.c [] cw,.i i,.x (O5 hx),.i i,.x (H8 hxn)] rfl (by simp [W3,hl0,hr0]; omega) ?_;rw [Qp6 hp,Qlw hp];refine lp (S:=Nat) 2 (λL1 j=>(12,.v (.one (.int .i64 (j:Int))))::(9,.v (.one (.orow 0 5 none)))::(10,.v (.one (.orow 1 7 none)))::L1) (λ_=>[.row false 114 5 (Ud (mix O (i+1))),.row false 61 7 (Uu ((mix O (i+1)).map Pt.nrm))]) (λj=>i-j) (λj=>j<=i/\∀ k x,k<j->O[k]? = some x->x.m5.id≠p.m5.id) 0 ⟨Qg _,λk x h=>absurd h (Ww _)⟩ rfl (λ_ _=>rfl) rfl λj ⟨hj,hjn⟩=>?_
   by_cases hji:j<i
   ·obtain ⟨x,hxj⟩:=gxE (l:=O) (i:=j) (by omega);have g1:=Q0n (i:=i+1) (show j<i+1 by omega) hxj;have g2:=Q0n (i:=i+1) (show i<i+1 by omega) hp;by_cases hq:x.m5.id=p.m5.id
    ·have hnd:¬Lt (Rr O (i+1)):=λhD=>by
      have:=List.pairwise_iff_getElem.1 hD j i (by rw [Qc7 (by omega)]; omega) (by rw [Qc7 (by omega)]; omega) hji;refine this ?_;have e1:(Rr O (i+1))[j]? = some x.m5:=by unfold Rr; rw [List.getElem?_map,List.getElem?_take,if_pos (by omega),hxj]; rfl
      have e2:(Rr O (i+1))[i]? = some p.m5:=by unfold Rr; rw [List.getElem?_map,List.getElem?_take,if_pos (by omega),hp]; rfl
      rw [(Qd.1 e1).2,(Qd.1 e2).2]; exact hq
     have hie2:i=e:=by
      rcases Za i e with h3 | h3
      ·exact absurd (Zdx hd h3) hnd
      ·omega
     have c1:(Ud (mix O (i+1))).take i=Ud (Rr O e):=by rw [Q32 (by omega) (by omega),hie2]
     have c2:(Uu ((mix O (i+1)).map Pt.nrm)).take i=Uu (Qbf O e):=by rw [Qxn (by omega) (by omega),hie2]
     refine go tt [.t (decide_eq_true (by omega)),.i j,.x (O5 g1),.i i,.x (O5 g2),.t (decide_eq_true hq),.i i,.i i] rfl (by simp [W3,hl1,hr1]; omega) ?_;refine pz 0 rfl rfl ?_;refine pz 1 rfl rfl ?_;exact go tt [.t (decide_eq_true (by omega))] rfl trivial (rc () trivial (by rw [c1,c2]; rfl))
    ·refine go tt [.t (decide_eq_true (by omega)),.i j,.x (O5 g1),.i i,.x (O5 g2),.f (decide_eq_false hq)] rfl (by simp [W3,hl1]; omega) ?_;exact rd (j+1) (by omega) ⟨hji,λk y hk hy=>by
      rcases Za k j with h3 | h3
      ·exact hjn k y h3 hy
      ·have:k=j:=by omega
       subst this; rw [hxj] at hy; injection hy with hy; rw [<-hy]; exact hq⟩ rfl
   ·have hji2:j=i:=by omega
    rw [hji2] at hjn;have hD:=Q25 hp hdi hjn;have hle:i+1<=e:=by
     rcases Za i e with h3 | h3
     ·exact h3
     ·have:i=e:=by omega
      rw [this] at hD h;exact absurd hD (hm h)
    refine go tt [.f (decide_eq_false (by omega)),.f (decide_eq_false (by omega))] rfl (by simp [W3]; omega) ?_;exact rd (i+1) (by omega) ⟨h,hle,hD⟩ rfl
  ·have hiO:i=O.length:=by omega
   have hie2:i=e:=by omega
   have c1:Ud (mix O i)=Ud (Rr O e):=by rw [<-hie2,hiO,Qs3]
   have c2:Uu ((mix O i).map Pt.nrm)=Uu (Qbf O e):=by rw [<-hie2,hiO,Qs3]; rfl
   refine go tt [] rfl trivial ?_;rw [c1,c2];refine pz 0 rfl rfl ?_;refine pz 1 rfl rfl ?_;exact go tt [.f (decide_eq_false (by omega))] rfl trivial (rc () trivial rfl)
 ·exact ed tt [] [3,2] [.c [] cb,.c [] csm,.c [2] c2,.c [] ctr,.c [3] cs,.g 96 true rfl] rfl trivial
abbrev wkD:List Pt:=[⟨Qny 0 0,1⟩,⟨Qny 1 0,2⟩,⟨Qny 0 1,3⟩,⟨Qny 1 1,4⟩]
theorem Zkn:(M9 (Pq (tq 0)) wkD).length=4:=by decide +kernel
theorem Zkm:(Bw (M9 (Pq (tq 0)) wkD)).length=6:=by decide +kernel
theorem Zbp:∀ p∈wkD,Sc p.c:=λp hp=>by
 simp only [wkD,Qo,Jz,or_false] at hp;rcases hp with rfl | rfl | rfl | rfl
 all_goals exact Zao (by decide) (by decide)
theorem Ql9:W5 Tryz.prog 15 [] [.one (.bool true)]:=by
 have hq:Qs 400000 (Fl 0 0):=⟨by decide,by decide⟩;have ez:Fl 0 0=0:=by decide
 have zp:IsPts 4294967294 1073741824 (Ud wkD) wkD:=Qz7 λp hp=>(Zbp p hp).pt
 have hnl:Rj [] wkD=(wkD,0):=rfl;have cn:=Qyp zp (by decide) hnl Zbp (by decide) Nk Nk (by decide) (by decide) hq;rw [ez] at cn;obtain ⟨ts,hts⟩:=nmE (M9 (Pq (tq 0)) wkD);have e4:ts.length=4:=by rw [hts]; exact Zkn
 have e6:(Bw ts).length=6:=by rw [hts]; exact Zkm
 unfold brD at cn;rw [<-hts] at cn;have ct:=Qbx (c:=Q5a wkD (tq 0)) (r0:=Ud wkD) (ts:=ts) (by omega);have ce:=Qiu (c:=Q5a wkD (tq 0)) (r0:=Ud wkD) (ts:=ts) (by omega);have l4:=Ak ts;have l6:=Ga (Bw ts);refine Fq Tryz.func15 rfl ?_;exact en tt [.c [] (Qhm (x:=0) (y:=0) (by decide) (by decide)),.c [] (Qhm (x:=1) (y:=0) (by decide) (by decide)),.c [] (Qhm (x:=0) (y:=1) (by decide) (by decide)),.c [] (Qhm (x:=1) (y:=1) (by decide) (by decide)),.c [0] cn,.g 19 true rfl,.g 23 true rfl,.c [0] ct,.g 29 true (decide_eq_true (by omega)),.c [0] ce,.g 34 true (decide_eq_true (by omega))] rfl rfl trivial
set_option maxHeartbeats 8000000 in
theorem Qi7 {zs:List RawPt} {cs:List Int} (hz:∀ z∈zs,z.Ok) (hcs:∀ z∈cs,-9223372036854775808≤z/\z≤9223372036854775807):W5 Tryz.prog 4 [.one (.row (Qec zs)),.one (.row (idl cs))] [.one (.bool true)]:=by
 obtain ⟨e,he,hd,hm⟩:=Zio (Qf2 4 20 zs);have hq0:=Qf9 25 0;have cb:=Q2n (n:=25) (d:=0) hz rfl he hd hm (by decide) (by decide) (Zl9 (hq0.mono (by decide))) rfl;obtain ⟨O,hO⟩:=nmE (Qf2 4 20 zs);have hO4:O.length<=4:=by rw [hO]; exact I5 _ _ (Qg _)
 have hlit:∀ p∈O,Q13 p:=λp hp=>by rw [hO] at hp; exact Qm5 (by decide) p hp
 rw [<-hO] at cb he hd;obtain ⟨M,hM⟩:=nmE (Hu D5 (Qbf O e));rw [<-hM] at cb;have hq12:Nm 25 0<=((12:Int):Rat):=by decide
 obtain ⟨q,hq⟩:=nmE (Nm 25 0);rw [<-hq] at cb hq0 hq12;have hcn:(Qbf O e).length=e:=by rw [Qgy,Qc7 he]
 have hMl:M.length=e:=by rw [hM,Nn,hcn]
 have hMd:Lt M:=by rw [hM]; exact Q24 (Qxz _).symm (Qma hd)
 have hsc:∀ p∈M,Sc p.c:=λp hp=>by
  rw [hM,Ag] at hp;have:=Qzk hlit e p hp;exact ⟨this.1,this.2.mono (by decide) (by decide)⟩
 have hln:M.length<=6:=by omega
 have hv:Va (tq q):=Zf8 (hq0.mono (by decide));have S:Stab (bcD M) (brD M):=Zmi hsc hln;obtain ⟨c0,hc0⟩:=nmE (Q5a M (tq q));have hst:KSt (bcD M) (brD M) c0 (brD M (tq q)):=by rw [hc0]; exact Zh1 S hv
 have hn0:c0.now=tq q:=by rw [hc0]; rfl
 have hev0:c0.ev=0:=by rw [hc0]; rfl
 rw [<-hc0] at cb;have hal:(Q17 M).length<=1000000:=Q42 hln;have adv:=λ{t:Rat} (ht:Qs 400000 t) {c:Cr} {r:List (List LV)} (hS:KSt (bcD M) (brD M) c r) (h:Ul c.now t<=0)=>Zht S (Qob hsc) (λa _=>Qod) hal ht hS h
 have from0:∀ {t:Rat},Qs 400000 t->q<=t->∃ E,Evs (bcD M) t (tq q) E/\E.length<=67000000:=λ{t} ht h=>by
  obtain ⟨_,_,E,_,_,_,_,_,h1,h2⟩:=adv ht hst (by rw [hn0,Ai]; exact Ns.2 h);rw [hn0] at h2;exact ⟨E,h2,h1⟩
 obtain ⟨T,hT⟩:=nmE (((12:Int):Rat));have hTq:Qs 400000 T:=by rw [hT]; exact ⟨by decide,by decide⟩
 rw [<-hT] at hq12;obtain ⟨K,c',E,hK,hg,hnow,hS',hev,hEl,hE⟩:=adv hTq hst (by rw [hn0,Ai]; exact Ns.2 hq12);rw [hn0] at hE;rw [hev0] at hev;have cadv:=Qvh (l:=M) (K:=K) hTq hsc hln hst.inv.ok (by rw [hev0]; omega) (by rw [hn0,Ai]; exact Ns.2 hq12) hg;have co12:=Qbz (n:=12) (by decide);rw [<-hT] at co12;have co100:=Qbz (n:=-100) (by decide);have ct12:=Q55 (q:=T) (hTq.mono (by decide));obtain ⟨L0,hL0⟩:=nmE (((-100:Int):Rat));rw [<-hL0] at co100;have hL0q:Qs 400000 L0:=by rw [hL0]; exact ⟨by decide,by decide⟩
 have hil:(idl cs).length=cs.length:=by simp
 refine Fq Tryz.func4 rfl (ln 1 rfl rfl λhcl=>?_);rw [hil] at hcl;refine go tt [.c [0,1] cb,.f rfl,.c [0,2] Q2h,.f rfl,.c [] co12,.c [] ct12,.c [0] cadv,.c [] co100] rfl trivial ?_;refine lp (S:=Nat×Cr×List (List LV)×Nat×Rat) 5 (λL1 s=>(14,.v (.one (.int .i64 (s.1:Int))))::(12,.v (.one (.int .i64 (s.2.2.2.1:Int))))::L1) (λs=>[.blk 86 (Md c' (Ud M) (brD M (tq T))),.blk 45 (plB M q [[-q.num,(q.den:Int)],[1]] (Qea q M)),.blk 86 (Md s.2.1 (Ud M) s.2.2.1),.blk 35 (fr T),.blk 35 (fr s.2.2.2.2)]) (λs=>4-s.1) (λs=>(s.1<=4/\s.1<=cs.length)/\KSt (bcD M) (brD M) s.2.1 s.2.2.1/\s.2.1.ev=(s.2.2.2.1:Int)/\s.2.2.2.1<=67000000/\Qs 400000 s.2.2.2.2/\∃ (cur:Rat) (F:List Tm),s.2.1.now=tq cur/\Qs 400000 cur/\q<=cur/\cur<=T/\(s.2.2.2.2=L0\/s.2.2.2.2=cur)/\Evs (bcD M) cur (tq q) F/\s.2.2.2.1=F.length) (0,c0,brD M (tq q),0,L0) ⟨⟨by show 0<=4; decide,Qg _⟩,hst,hev0,by show 0<=67000000; decide,hL0q,q,[],hn0,hq0.mono (by decide),Qp,hq12,.inl rfl,by
  obtain ⟨F,h1,_⟩:=from0 (hq0.mono (by decide)) (Qp (a:=q));rw [Q7s h1] at h1; exact h1,rfl⟩ rfl (λ_ _=>rfl) rfl λ⟨i,c,r,m,la⟩ ⟨⟨hi1,hi2⟩,hS,hce,hm7,hlq,cur,F,hcur,hcq,hqc,hcT,hla,hF,hmF⟩=>?_
 dsimp only at hi1 hi2 hS hce hm7 hlq hcur hla hmF ⊢;have hvc:Va (tq cur):=Zf8 hcq;by_cases hr:i<cs.length/\i<4
 ·obtain ⟨z,hzi⟩:=gxE (l:=cs) (i:=i) hr.1;have hzb:=hcs z (Qa hzi);have csm:=Qyw (n:=z) (d:=(i:Int)) hzb (by omega);obtain ⟨t,ht⟩:=nmE (Nm z i);have htq:Qs 400000 t:=by rw [ht]; exact (Qf9 z i).mono (by decide)
  have htl:L0<=t:=by rw [ht,hL0]; exact Za3 z i
  rw [show Fl (Bu z 61-30) (1+Bu (i:Int) 6)=t from ht.symm] at csm;have cc1:=Qor (a:=t) (b:=T) (htq.mono (by decide)) (hTq.mono (by decide));have cc2:=Qor (a:=t) (b:=la) (htq.mono (by decide)) (hlq.mono (by decide));have ctt:=Q55 (q:=t) (htq.mono (by decide));by_cases h12:0<Fh t T
  ·refine go tt [.g 45 true (decide_eq_true (by omega)),.t (decide_eq_true (by omega)),.x (Qpe hzi),.c [] csm,.c [] cc1,.t (decide_eq_true h12)] rfl (by simp [W3]; omega) ?_;exact rd (i+1,c,r,m,la) (by dsimp only; omega) ⟨⟨hr.2,hr.1⟩,hS,hce,hm7,hlq,cur,F,hcur,hcq,hqc,hcT,hla,hF,hmF⟩ rfl
  have htT:t<=T:=by
   rcases Rh t T with h | h | h
   ·omega
   ·exact h.2 ▸ Qp
   ·exact Qq h.2
  by_cases hp:cur<=t
  ·obtain ⟨K1,c1,E1,k1,k2,k3,k4,k5,k6,k7⟩:=adv htq hS (by rw [hcur,Ai]; exact Ns.2 hp);rw [hcur] at k7;have hqt:q<=t:=Zg hqc hp;obtain ⟨F2,f1,f2⟩:=from0 htq hqt;have hnt:¬Tl (tq cur) (tq q):=λh=>absurd (Q1s.1 h) (Rat.not_lt.2 hqc)
   have hcat:=Qzw S hp hvc hF hv hnt k7 f1;have ca:=Qvh (l:=M) (K:=K1) htq hsc hln hS.inv.ok (by rw [hce]; omega) (by rw [hcur,Ai]; exact Ns.2 hp) k2;have hnl:¬Fh t la<0:=λh=>by
    have h:=Mf.1 h;rcases hla with h2 | h2
    ·rw [h2] at h; exact absurd htl (Jd.2 h)
    ·rw [h2] at h; exact absurd hp (Jd.2 h)
   refine go tt [.g 45 true (decide_eq_true (by omega)),.t (decide_eq_true (by omega)),.x (Qpe hzi),.c [] csm,.c [] cc1,.f (decide_eq_false h12),.c [] ctt,.c [2] ca,.t rfl,.c [] cc2,.f (decide_eq_false hnl)] rfl (by simp [W3]; omega) ?_;exact rd (i+1,c1,brD M (tq t),m+E1.length,t) (by dsimp only; omega) ⟨⟨hr.2,hr.1⟩,k4,by dsimp only; rw [k5,hce]; omega,by dsimp only; omega,htq,t,F2,k3,htq,hqt,htT,.inr rfl,f1,by dsimp only; omega⟩ rfl
  ·have hpl:t<cur:=Jd.1 hp;have ca:=Qvi (l:=M) (r1:=r) htq hS.inv.ok.n (by rw [hcur,Ai]; exact Nq.2 hpl);refine go tt [.g 45 true (decide_eq_true (by omega)),.t (decide_eq_true (by omega)),.x (Qpe hzi),.c [] csm,.c [] cc1,.f (decide_eq_false h12),.c [] ctt,.c [2] ca,.f rfl,.g 80 false rfl,.f rfl] rfl (by simp [W3]; omega) ?_;exact rd (i+1,c,r,m,la) (by dsimp only; omega) ⟨⟨hr.2,hr.1⟩,hS,hce,hm7,hlq,cur,F,hcur,hcq,hqc,hcT,hla,hF,hmF⟩ rfl
 obtain ⟨K2,c2,E2,k1,k2,k3,k4,k5,k6,k7⟩:=adv hTq hS (by rw [hcur,Ai]; exact Ns.2 hcT);rw [hcur] at k7;have hnt:¬Tl (tq cur) (tq q):=λh=>absurd (Q1s.1 h) (Rat.not_lt.2 hqc)
 have hcat:=Qzw S hcT hvc hF hv hnt k7 hE;have ca:=Qvh (l:=M) (K:=K2) hTq hsc hln hS.inv.ok (by rw [hce]; omega) (by rw [hcur,Ai]; exact Ns.2 hcT) k2;obtain ⟨s,hs⟩:=nmE (brD M (tq T));have hcs1:Ge (c'.l.map (·.c))=Ge (c2.l.map (·.c)):=by rw [hS'.cs,k4.cs,hnow,k3]
 rw [<-hs] at ca ⊢;have cal:=Q5d (c:=c') (c':=c2) (l:=M) (l':=M) (m:=M) (a:=tq T) (r:=s) (by omega) hs;have cC1:=Qrk (T:=86) (c:=c') (r0:=Ud M) (r1:=s) hS'.inv.ok;have cC2:=Qrk (T:=86) (c:=c2) (r0:=Ud M) (r1:=s) k4.inv.ok;rw [hcs1] at cC1;have csc:=Q51 (l:=Ge (c2.l.map (·.c))) (λx hx=>by
  obtain ⟨w,hw,rfl⟩:=Zd.1 (Qa4 hx);exact (k4.inv.ok.l w hw).p) (by rw [Cz,Q7]; have:=k4.inv.ok.k; omega)
 have hes:((m:Nat):Int)+((E2.length:Nat):Int)=((E.length:Nat):Int):=by omega
 have hev2:c'.ev=c2.ev:=by rw [hev,k5,hce]; omega
 by_cases h:i<cs.length
 ·exact en tt [.g 45 true (decide_eq_true (by omega)),.f (decide_eq_false (by omega)),.c [] ct12,.c [2] ca,.g 93 true rfl,.g 97 true rfl,.g 104 true (decide_eq_true hes),.lo,.c [0] Qal,.lo,.c [2] Qal,.g 115 true (decide_eq_true hev2),.lo,.c [0,2] cal,.g 120 true rfl,.lo,.c [0] cC1,.lo,.c [2] cC2,.c [] csc,.g 131 true rfl,.c [] Ql9] rfl rfl (by simp [W3]; omega)
 ·exact en tt [.g 45 false (decide_eq_false (by omega)),.f rfl,.c [] ct12,.c [2] ca,.g 93 true rfl,.g 97 true rfl,.g 104 true (decide_eq_true hes),.lo,.c [0] Qal,.lo,.c [2] Qal,.g 115 true (decide_eq_true hev2),.lo,.c [0,2] cal,.g 120 true rfl,.lo,.c [0] cC1,.lo,.c [2] cC2,.c [] csc,.g 131 true rfl,.c [] Ql9] rfl rfl (by simp [W3]; omega)
end Orr
namespace Orr
open Go Go.Proofs
variable {H:Type} {enc:TypeId×Value->H} {w:World} {base:Nat} {spare:Nat->Bool} {held:Bool}
theorem Dk {α:Type} {l:List α} {n i:Nat} (h:l.length=n) (hi:i<n):∃ x,l[i]? = some x:=⟨l[i]'(by omega),Qf (by omega)⟩
end Orr
namespace Orr
open Go Go.Proofs Go.ChangeShapes Go.WideShapes Go.ChangeAt Go.RowKit Go.WideElems
theorem Zdn {w:World} {a:Addr} {v:Value} (h:w.cell? a=some v):a.spot=none/\a.block<w.heap.size:=by
 simp only [World.cell?] at h
 split at h
 ·rename_i c t fr hc
  split at h
  ·cases h
  ·rename_i hs;refine ⟨by cases e:a.spot with | none=>rfl | some _=>simp [e] at hs,?_⟩;exact (Array.getElem?_eq_some_iff.1 hc).1
 ·cases h
theorem Zcb {a:Addr} (h:a.spot=none) (n m:Nat):(a.add n).add m=⟨a.block,a.off+n+m,none⟩:=by
 obtain ⟨b,o,s⟩:=a;simp only at h;subst h;simp only [Addr.add]
 split
 ·rename_i h; subst h
  split
  ·rename_i h; subst h; simp
  ·simp
 ·split
  ·rename_i h; subst h; simp
  ·simp
def fr0 (w:World):Fr:=⟨λb=>b<w.heap.size,λ_=>False,w,λ_=>False,λ_=>none⟩
theorem hs0 (w:World):HS (fr0 w) (ob []) (nw []) (λ_=>none) (λ_=>False) w where
 size:=Qn _
 kept:=λb hb=>⟨hb,rfl,Iff.rfl⟩
 ids:=λi h=>h.elim
 nj:=λi h=>by rw [Qpw] at h; cases h
 io:=⟨rfl,rfl⟩
 blk:=λi=>by rw [Qpw]; trivial
 nk:=λi g c m h _=>by rw [Qpw] at h; cases h
 inj:=λi j g c m c' m' h _ _ _=>by rw [Qpw] at h; cases h
 mlt:=λb h=>h.elim
 m0:=λb _ h=>h.elim
 un:=λi _=>⟨rfl,rfl⟩
 uj:=λi _ h=>h.elim
theorem Q1n {w w':World} {bl:Nat->OB} {U:Nat->Prop} {E:Mb} {M:Nat->Prop} (h:HS (fr0 w) bl U E M w') {p:MemPlace} (hp:p.block<w.heap.size):w.sameAt w' p:=by
 cases p with
 | cell b off=>simp only [World.sameAt,World.cell?]; rw [(h.kept b hp).2.1]; rfl
 | map b=>exact (h.kept b hp).2.1
theorem Zec {w w':World} {bl:Nat->OB} {U:Nat->Prop} {E:Mb} {M:Nat->Prop} (h:HS (fr0 w) bl U E M w') (may:MemPlace->Prop):w.keptBut w' may:=by
 refine ⟨h.io.1,h.io.2,λi hi=>?_⟩;have e:w'.heap[i]? = w.heap[i]? := (h.kept i hi).2.1;rw [e];cases w.heap[i]? with
 | none=>rfl
 | some o=>cases o <;> simp
theorem Qah {H:Type} {P:Program} {e:TypeId}:∀ {l:List (DataW H)} {i:Nat} {d:DataW H},l[i]? = some d->∀ n∈d.weights P e,n∈DataW.weightsAll P e l
 | [],i,d,h,_,_=>by simp at h
 |
  x::l,0,d,h,n,hn=>by
  simp at h; subst h;simp only [DataW.weightsAll,Qw]; exact .inl hn
 |
  x::l,i+1,d,h,n,hn=>by
  simp only [DataW.weightsAll,Qw];exact .inr (Qah (i:=i) (by simpa using h) n hn)
theorem Eh {H:Type} {P:Program} {t:TypeId} {fs:Array Field} {parts:List (DataW H)} (hu:P.underlying t=some (.struct fs)) (hz:((DataW.agg parts).weights P t).all (· <= reachBytes)=true) {i:Nat} {f:Field} {d:DataW H} (hf:fs[i]? = some f) (hd:parts[i]? = some d) :
 (d.weights P f.type).all (· <= reachBytes)=true:=by
 rw [Jy] at hz ⊢;intro n hn;refine hz n ?_;simp only [DataW.weights,hu];exact DataW.weights_mem_each (j:=i) (by rw [Q9]; simp [hf]) hd n hn
variable {H:Type} {enc:TypeId×Value->H} {w:World}
abbrev O0:Nat->Prop:=λ_=>False
def Els (w:World) (cs:List Value) (ls:List LV):Prop:=cs.length=ls.length/\∀ (j:Nat) (u:LV),ls[j]? = some u->∃ v,cs[j]? = some v/\LRep w O0 v u
theorem O4 {α:Type} {rw_:α->List LV} {Ok:α->Prop} {t e sz:Nat} (hu:Tryz.prog.underlying t=some (.slice e)) (hc:Tryz.prog.cellsOf e=sz) (hsz:0<sz) (hb:1<=Tryz.prog.bytesOf e) (hw:∀ z,(rw_ z).length=sz)
 (elem:∀ fuel cs x,DataW.trod enc Tryz.prog w 0 (λ_=>true) true fuel e cs=some x->(x.1.weights Tryz.prog e).all (· <= reachBytes)=true->∃ z,Ok z/\Els w cs (rw_ z))
 {fuel:Nat} {cs:List Value} {x:DataW H×List MemPlace} (h:DataW.trod enc Tryz.prog w 0 (λ_=>true) true fuel t cs=some x) (hz:(x.1.weights Tryz.prog t).all (· <= reachBytes)=true) :
 ∃ (v:Value) (l:List α),cs=[v]/\(∀ z∈l,Ok z)/\l.length<2^47/\LRep w O0 v (.row (l.map rw_)):=by
 rcases Go.Deep.open_slice hu h with ⟨rfl,_⟩ | ⟨a',len,cap,m,n,D,Pl,rfl,_,hlc,hcap,hm,rfl,hr⟩
 ·refine ⟨_,[],rfl,by simp,Nat.two_pow_pos 47,?_⟩;exact LRep.row none 0 0 0 0 [] (λ_ _=>.bool true) (Qn _) (by decide) (by simp) (by simp) (by simp) (by simp)
 ·simp only [if_true] at hm;subst hm;rw [Jy] at hz;have hlen:len<2^47:=by
   have h0:=hz ((len+(m-len))*Tryz.prog.bytesOf e) (by simp [DataW.weights,hu]);have h1:len<=(len+(m-len))*Tryz.prog.bytesOf e:=by
    have:=Zx (Kd len (m-len)) hb;omega
   have h2:(len+(m-len))*Tryz.prog.bytesOf e<=reachBytes:=by simpa using h0
   exact Zs (Qc h1 h2) reachBytes_lt
  have hel:∀ i,i<len->((D i).weights Tryz.prog e).all (· <= reachBytes)=true:=λi hi=>by
   rw [Jy];intro k hk;refine hz k ?_;simp only [DataW.weights,hu];refine Qi _ (Qw.2 (.inl (Qah (i:=i) ?_ k hk)));rw [Q9,Xs hi]; rfl
  have hone:∀ i,i<len->∃ z cs',Ok z/\Els w cs' (rw_ z)/\∀ j,j<sz->w.cell? ((a'.add (i*sz)).add j)=cs'[j]? := λi hi=>by
   obtain ⟨cs',hcs,htr⟩:=hr i (by omega);rw [hc] at hcs;obtain ⟨_,hl,hcell⟩:=World.cells?_some hcs;obtain ⟨z,hz1,hz2⟩:=elem _ _ _ htr (hel i hi);refine ⟨z,cs',hz1,hz2,λj hj=>?_⟩;rw [hcell j (by omega)]
  have hspot:0<len->a'.spot=none/\a'.block<w.heap.size:=λh0=>by
   obtain ⟨z,cs',_,⟨hl,_⟩,h3⟩:=hone 0 h0;have h4:=h3 0 hsz;have:(a'.add (0*sz)).add 0=a':=by simp [Addr.add]
   rw [this,Qf (by rw [hl,hw]; exact hsz)] at h4;exact Zdn h4
  obtain ⟨l,hll,hl⟩:∃ l:List α,l.length=len/\∀ i z,l[i]? = some z->Ok z/\∃ cs',Els w cs' (rw_ z)/\∀ j,j<sz->w.cell? ((a'.add (i*sz)).add j)=cs'[j]? := by
   have:∀ k,k<=len->∃ l:List α,l.length=k/\∀ i z,l[i]? = some z->Ok z/\∃ cs',Els w cs' (rw_ z)/\∀ j,j<sz->w.cell? ((a'.add (i*sz)).add j)=cs'[j]? := by
    intro k
    induction k with
    | zero=>intro _; exact ⟨[],rfl,λi z h=>by simp at h⟩
    |
     succ k ih =>
     intro hk;obtain ⟨l,h1,h2⟩:=ih (by omega);obtain ⟨z,cs',h3,h4,h5⟩:=hone k (by omega);refine ⟨l++[z],by simp [h1],λi y hy=>?_⟩;rcases Za i l.length with hi | hi
     ·rw [Zn hi] at hy; exact h2 i y hy
     ·rw [Xg hi] at hy;have:i-l.length=0:=by
       rcases Qy (i-l.length) with h | h
       ·exact h
       ·rw [Qu (by rw [Kf]; exact h)] at hy; cases hy
      rw [this] at hy;simp at hy;subst hy;have:i=k:=by omega
      subst this;exact ⟨h3,cs',h4,h5⟩
   exact this len (Qn _)
  refine ⟨_,l,rfl,λz hz=>?_,by rw [hll]; exact hlen,?_⟩
  ·obtain ⟨i,hi⟩:=Zf.1 hz;exact (hl i z hi).1
  ·have key:LRep w O0 (.slice (some a') (l.map rw_).length m) (.row (l.map rw_)):=by
    have hgl:∀ i c,(l.map rw_)[i]? = some c->∃ z,l[i]? = some z/\c=rw_ z/\i<len:=λi c h=>by
     rw [Q9] at h;cases e:l[i]? with
     | none=>rw [e] at h; cases h
     | some z=>rw [e] at h; simp at h; exact ⟨z,rfl,h.symm,by have:=(Qd.1 e).1; omega⟩
    have hcl:∀ i c,(l.map rw_)[i]? = some c->∃ cs':List Value,Els w cs' c/\∀ j,j<sz->w.cell? ⟨a'.block,a'.off+i*sz+j,none⟩=cs'[j]? := λi c h=>by
     obtain ⟨z,hz,rfl,hi⟩:=hgl i c h;obtain ⟨_,cs',h1,h2⟩:=hl i z hz;refine ⟨cs',h1,λj hj=>?_⟩;rw [<-h2 j hj,Zcb (hspot (by omega)).1]
    refine LRep.row (some a') m sz a'.block a'.off (l.map rw_) (λi j=>(w.cell? ⟨a'.block,a'.off+i*sz+j,none⟩).getD (.bool true)) (by rw [Q7]; omega) ?_ ?_ ?_ ?_ ?_
    ·have:maxLen=2^63-1:=by rfl
     omega
    ·intro c hc2;obtain ⟨z,_,rfl⟩:=Zd.1 hc2;exact hw z
    ·intro h0;rw [Q7,hll] at h0;obtain ⟨hs,hb⟩:=hspot h0;refine ⟨?_,hb,by simp [O0]⟩;obtain ⟨b,o,s⟩:=a';simp only at hs;rw [hs]
    ·intro i c hi j hj;obtain ⟨z,_,rfl,_⟩:=hgl i c hi;obtain ⟨cs',⟨h1,_⟩,h2⟩:=hcl i _ hi;have hjs:j<sz:=by rw [<-hw z]; exact hj
     rw [h2 j hjs,Qf (by rw [h1]; exact hj)]; rfl
    ·intro i c hi j u hu2;obtain ⟨z,_,rfl,_⟩:=hgl i c hi;obtain ⟨cs',⟨h1,h3⟩,h2⟩:=hcl i _ hi;obtain ⟨v,hv,hr2⟩:=h3 j u hu2;have hjs:j<sz:=by rw [<-hw z]; exact (Qd.1 hu2).1
     show LRep w O0 ((w.cell? ⟨a'.block,a'.off+i*sz+j,none⟩).getD (.bool true)) u;rw [h2 j hjs,hv]; exact hr2
   rw [Q7,hll] at key;exact key
abbrev Znb (x:Nat):List LV:=[.int .u32 (x:Int)]
theorem Zbm:∀ fuel cs x,DataW.trod enc Tryz.prog w 0 (λ_=>true) true fuel 217 cs=some x->(x.1.weights Tryz.prog 217).all (· <= reachBytes)=true->∃ z:Nat,z<4294967296/\Els w cs (Znb z):=by
 intro fuel cs x h _;obtain ⟨n,rfl,_,hwf⟩:=DataW.trod_int Tryz.underlying217 h;have hn:0<=n/\n<4294967296:=by
  have:0<=n/\n<=4294967295:=by simpa [Lit.wf,IntKind.min,IntKind.max,IntKind.signed,IntKind.bits] using hwf
  omega
 refine ⟨n.toNat,by omega,rfl,λj u hu=>?_⟩
 match j,hu with
 |
  0,hu =>
  simp at hu; subst hu;refine ⟨_,rfl,?_⟩;rw [show max n 0=n by omega];exact .int _ _
 | j+1,hu=>simp at hu
set_option maxRecDepth 20000 in
theorem Qj3:∀ fuel cs x,DataW.trod enc Tryz.prog w 0 (λ_=>true) true fuel 55 cs=some x->(x.1.weights Tryz.prog 55).all (· <= reachBytes)=true->∃ z:RawInt,z.Ok/\Els w cs (Qf6 z):=by
 intro fuel cs x h hz;obtain ⟨xs,n,_,rfl,hl,hxs,hf⟩:=DataW.trod_struct Tryz.underlying55 h;have hl:cs.length=2:=hl
 match cs,hl with
 |
  [v0,v1],_ =>
  obtain ⟨z0,hz0⟩:=Dk (i:=0) hxs (by decide);obtain ⟨z1,hz1⟩:=Dk (i:=1) hxs (by decide);have h0:=hf 0 _ rfl;have h1:=hf 1 _ rfl;rw [hz0] at h0; rw [hz1] at h1;obtain ⟨b,e0,_⟩:=DataW.trod_bool Tryz.underlying4 h0;have f0:v0=.bool b:=(List.cons.inj (show [v0]=[Value.bool b] from e0)).1;have hw1:=Eh Tryz.underlying55 hz (i:=1) rfl (d:=z1.1) (by rw [Q9,hz1]; rfl);obtain ⟨v,l,e1,hlo,_,hrep⟩:=O4 (sz:=1) (Ok:=λu:Nat=>u<4294967296) (rw_:=Znb) Tryz.underlying53 (by kernel_rfl) (by decide) (of_decide_eq_true (by kernel_rfl)) (λ_=>rfl) Zbm h1 hw1;have f1:v1=v:=(List.cons.inj (show [v1]=[v] from e1)).1;subst f0 f1;refine ⟨⟨b,l⟩,⟨hlo⟩,rfl,λj u hu=>?_⟩
  match j,hu with
  | 0,hu=>simp at hu; subst hu; exact ⟨_,rfl,.bool _⟩
  | 1,hu=>simp at hu; subst hu; exact ⟨_,rfl,hrep⟩
  | j+2,hu=>simp at hu
set_option maxRecDepth 20000 in
theorem Qw8:∀ fuel cs x,DataW.trod enc Tryz.prog w 0 (λ_=>true) true fuel 114 cs=some x->(x.1.weights Tryz.prog 114).all (· <= reachBytes)=true->∃ z:RawPt,z.Ok/\Els w cs (rwq z):=by
 intro fuel cs x h hz;obtain ⟨xs,n,_,rfl,hl,hxs,hf⟩:=DataW.trod_struct Tryz.underlying114 h;have hl:cs.length=5:=hl
 match cs,hl with
 |
  [v0,v1,v2,v3,v4],_ =>
  obtain ⟨z0,hz0⟩:=Dk (i:=0) hxs (by decide);obtain ⟨z1,hz1⟩:=Dk (i:=1) hxs (by decide);have h0:=hf 0 _ rfl;have h1:=hf 1 _ rfl;rw [hz0] at h0; rw [hz1] at h1;obtain ⟨id,e4,_,hwf⟩:=DataW.trod_int Tryz.underlying3 h1;have f4:v4=.int .i64 id:=(List.cons.inj (show [v4]=[Value.int .i64 id] from e4)).1;have hw0:=Eh Tryz.underlying114 hz (i:=0) rfl (d:=z0.1) (by rw [Q9,hz0]; rfl);obtain ⟨ys,n2,_,e5,_,hys,hg⟩:=DataW.trod_struct Tryz.underlying57 h0;rw [e5] at hw0;obtain ⟨y0,hy0⟩:=Dk (i:=0) hys (by decide);obtain ⟨y1,hy1⟩:=Dk (i:=1) hys (by decide);obtain ⟨y2,hy2⟩:=Dk (i:=2) hys (by decide);have g0:=hg 0 _ rfl;have g1:=hg 1 _ rfl;have g2:=hg 2 _ rfl;rw [hy0] at g0; rw [hy1] at g1; rw [hy2] at g2;have w0:=Eh Tryz.underlying57 hw0 (i:=0) rfl (d:=y0.1) (by rw [Q9,hy0]; rfl);have w1:=Eh Tryz.underlying57 hw0 (i:=1) rfl (d:=y1.1) (by rw [Q9,hy1]; rfl);have w2:=Eh Tryz.underlying57 hw0 (i:=2) rfl (d:=y2.1) (by rw [Q9,hy2]; rfl);obtain ⟨u0,lx,e0,hx,_,rx⟩:=O4 (sz:=2) (Ok:=RawInt.Ok) (rw_:=Qf6) Tryz.underlying52 (by kernel_rfl) (by decide) (of_decide_eq_true (by kernel_rfl)) (λ_=>rfl) Qj3 g0 w0;obtain ⟨u1,ly,e1,hy,_,ry⟩:=O4 (sz:=2) (Ok:=RawInt.Ok) (rw_:=Qf6) Tryz.underlying52 (by kernel_rfl) (by decide) (of_decide_eq_true (by kernel_rfl)) (λ_=>rfl) Qj3 g1 w1;obtain ⟨d,hd,hde⟩:=Qj3 _ _ _ g2 w2;have f0:v0=u0:=(List.cons.inj (show [v0]=[u0] from e0)).1;have f1:v1=u1:=(List.cons.inj (show [v1]=[u1] from e1)).1;have hde2:Els w [v2,v3] (Qf6 d):=hde;subst f0 f1 f4;obtain ⟨q2,hq2,r2⟩:=hde2.2 0 _ rfl;obtain ⟨q3,hq3,r3⟩:=hde2.2 1 _ rfl;simp at hq2 hq3;subst hq2 hq3;refine ⟨⟨lx,ly,d,id⟩,⟨hx,hy,hd,by simpa [Lit.wf,IntKind.min,IntKind.max,IntKind.signed,IntKind.bits] using hwf⟩,rfl,λj u hu=>?_⟩
  match j,hu with
  | 0,hu=>simp [rwq] at hu; subst hu; exact ⟨_,rfl,rx⟩
  | 1,hu=>simp [rwq] at hu; subst hu; exact ⟨_,rfl,ry⟩
  | 2,hu=>simp [rwq] at hu; subst hu; exact ⟨_,rfl,r2⟩
  | 3,hu=>simp [rwq] at hu; subst hu; exact ⟨_,rfl,r3⟩
  | 4,hu=>simp [rwq] at hu; subst hu; exact ⟨_,rfl,.int _ _⟩
  | j+5,hu=>simp [rwq] at hu
end Orr
namespace Orr
open Go Go.Proofs Go.ChangeShapes Go.WideShapes Go.ChangeAt Go.RowKit Go.WideElems
variable {H:Type} {enc:TypeId×Value->H} {w:World}
theorem Q8e:∀ fuel cs x,DataW.trod enc Tryz.prog w 0 (λ_=>true) true fuel 3 cs=some x->(x.1.weights Tryz.prog 3).all (· <= reachBytes)=true->∃ z:Int,(-9223372036854775808<=z/\z<=9223372036854775807)/\Els w cs [LV.int .i64 z]:=by
 intro fuel cs x h _;obtain ⟨n,rfl,_,hwf⟩:=DataW.trod_int Tryz.underlying3 h;refine ⟨n,by simpa [Lit.wf,IntKind.min,IntKind.max,IntKind.signed,IntKind.bits] using hwf,rfl,λj u hu=>?_⟩
 match j,hu with
 |
  0,hu =>
  simp at hu; subst hu;exact ⟨_,rfl,.int _ _⟩
 | j+1,hu=>simp at hu
set_option maxRecDepth 20000 in
theorem Qsx {f:FuncId} {fn:Func} {s:ChangeSpec} (hp:fn.params = #[22,30]) (hr:fn.resultTypes = #[4]) (hv:s.vars=[])
 (hs:∀ (H:Type) (d1 d2:DataW H),s.fn H [d1,d2]={ results:=[.lit (.bool true)],args:=[d1,d2] })
 (hlaid:laidOutB Tryz.prog=true) (hr22:Tryz.prog.readableRec 22=true) (hr3:Tryz.prog.readableRec 30=true) (hs22:22<Tryz.prog.types.size) (hs3:30<Tryz.prog.types.size)
 (law:∀ (zs:List RawPt) (cs:List Int),(∀ z∈zs,z.Ok)->(∀ z∈cs,-9223372036854775808≤z/\z≤9223372036854775807)->W5 Tryz.prog f [.one (.row (Qec zs)),.one (.row (idl cs))] [.one (.bool true)])
 {H:Type} {enc:TypeId×Value->H} {W:World} {base:Nat} {args:Array Value} {ds gs:List (DataW H)} {Qu7:List MemPlace} {fresh handsOn:Bool}
 (hval:∀ (j:Nat) t v,fn.params[j]? = some t->args[j]? = some v->Value.okWide Tryz.prog W .any base t v)
 (hW:DataW.Whole enc Tryz.prog fn.params.toList s.vars false W args.toList ds gs Qu7)
 (hz:(DataW.weightsEach Tryz.prog (fn.params.toList++s.plain.varTypes Tryz.prog) (ds++gs)).all (· <= reachBytes)=true) :
 Calls Tryz.prog f args W λe W'=>∃ v,e=.returned v/\s.post enc Tryz.prog fn false fresh handsOn false W args v W':=by
 have hW':=hW;obtain ⟨p,q,hA0,hV,rfl,hfz,hnd⟩:=hW;have hA:DataW.TrodAll enc Tryz.prog W 0 (λ_=>true) true fn.params.toList args.toList ds p:=hA0;rw [hv] at hV;obtain ⟨rfl,rfl⟩:=trodVars_none hV;have hlt:=hW'.lt;rw [hp] at hA hval hz;obtain ⟨v0,vs0,d0,ds0,p0,q0,hargs0,rfl,rfl,h0,r0⟩:=trodAll_cons hA;obtain ⟨v1,vs1,d1,ds1,p1,q1,rfl,rfl,rfl,h1,r1⟩:=trodAll_cons r0;obtain ⟨rfl,rfl,rfl⟩:=trodAll_nil r1;obtain rfl:args = #[v0,v1]:=by cases args; simp_all
 have hv1:=hval 1 30 v1 rfl rfl;obtain ⟨a1,len1,cap1,rfl⟩:=okWide_slice Tryz.underlying30 hv1;have hz1:(d1.weights Tryz.prog 30).all (· <= reachBytes)=true:=by
  rw [Jy] at hz ⊢;intro k hk;exact hz k (DataW.weights_mem_each (j:=1) rfl rfl k hk)
 have h1':=h1;obtain ⟨fu1,h1'⟩:=h1';obtain ⟨u1,cs,e1,hok1,hlen1,hrep1⟩:=O4 (sz:=1) (Ok:=λz:Int=>-9223372036854775808<=z/\z<=9223372036854775807) (rw_:=λ(z:Int)=>[LV.int .i64 z]) Tryz.underlying30 (by kernel_rfl) (by decide) (of_decide_eq_true (by kernel_rfl)) (λ_=>rfl) Q8e h1' hz1;have f1:Value.slice a1 len1 cap1=u1:=(List.cons.inj (show [Value.slice a1 len1 cap1]=[u1] from e1)).1;subst f1;have hrep1:LRep W (λ_=>False) (.slice a1 len1 cap1) (.row (idl cs)):=hrep1;have hv0:=hval 0 22 v0 rfl rfl;obtain ⟨a,len,cap,rfl⟩:=okWide_slice Tryz.underlying22 hv0;have hz0:(d0.weights Tryz.prog 22).all (· <= reachBytes)=true:=by
  rw [Jy] at hz ⊢;intro k hk;exact hz k (DataW.weights_mem_each (j:=0) rfl rfl k hk)
 have h0':=h0;obtain ⟨fu,h0'⟩:=h0';obtain ⟨v,zs,e0,hok,hlen,hrep⟩:=O4 (sz:=5) (Ok:=RawPt.Ok) (rw_:=rwq) Tryz.underlying22 (by kernel_rfl) (by decide) (of_decide_eq_true (by kernel_rfl)) (λ_=>rfl) Qw8 h0' hz0;have f0:Value.slice a len cap=v:=(List.cons.inj (show [Value.slice a len cap]=[v] from e0)).1;subst f0;have hrep:LRep W (λ_=>False) (.slice a len cap) (.row (Qec zs)):=hrep;have hcall:=(law zs cs hok hok1).2 (fr0 W) (λ_=>none) (λ_=>False) W [.slice a len cap,.slice a1 len1 cap1] (hs0 W) (.cons (show XRep W (λ_=>False) (λ_=>none) (.slice a len cap) (.row (Qec zs)) from hrep.x) (.cons (show XRep W (λ_=>False) (λ_=>none) (.slice a1 len1 cap1) (.row (idl cs)) from hrep1.x) .nil));refine hcall.mono λe W' ⟨v,u,Bo,E',M',he,⟨hu,hBo⟩,_,hm,har⟩=>?_
 subst hu;obtain rfl:v=.bool true:=by
  have h:LRep _ _ v (.bool true):=har;cases h;rfl
 refine ⟨_,he,?_⟩;refine ⟨[d0,d1],[],_,[],p0++(p1++[]),[],hW',?_,?_,?_,Zec hm _,λh=>by cases h⟩
 ·rw [hr,Xd,hs];exact trodAll_cons_mk (shut_bool Tryz.underlying4 true) trodAll_mk0
 ·rw [hp,Xd,hs];have hb:∀ p∈p0,p.block<W.heap.size:=λp hp=>hlt p (by simp [hp])
  have hb1:∀ p∈p1,p.block<W.heap.size:=λp hp=>hlt p (by simp [hp])
  exact trodAll_cons_mk (Trod_stays hlaid hr22 hs22 h0 (λp hp=>Q1n hm (hb p hp)) (λp hp=>by simpa using hb p hp)) (trodAll_cons_mk (Trod_stays hlaid hr3 hs3 h1 (λp hp=>Q1n hm (hb1 p hp)) (λp hp=>by simpa using hb1 p hp)) trodAll_mk0)
 ·rw [hv,Xd,hs];rfl
end Orr
