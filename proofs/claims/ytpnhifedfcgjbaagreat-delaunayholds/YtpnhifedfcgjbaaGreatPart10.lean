/- WS18 X22 B22 WK22 WS22 Z1 Z2 Z3 Z4 Z5 Z6 Z7 HoS HoD K5 Z8 R27 R28 Hal22 WH22 ReadN LastN LastR -/
import Derived.Test.YtpnhifedfcgjbaaGreatPart08
import Derived.Test.YtpnhifedfcgjbaaGreatPart09
import Derived.Test.YtpnhifedfcgjbaaGreatPart00
import Derived.Test.YtpnhifedfcgjbaaGreatPart07
import Derived.Deep.Slices
import Derived.ProofKit
import Derived.OpenShut
import Derived.WideKeyArgs
import Derived.SizedLaws
set_option linter.all false
namespace Orr
open Go Go.Proofs Orq
set_option maxRecDepth 10000
theorem Zdk {t q:Rat}:U0 (tq t) q=1↔q<t:=by
 rw [Qpe]; rcases Ta t q with ⟨e,h⟩ | ⟨e,h⟩ | ⟨e,h⟩ <;> grind
theorem Zdj {t q:Rat}:U0 (tq t) q=-1↔t<q:=by
 rw [Qpe]; rcases Ta t q with ⟨e,h⟩ | ⟨e,h⟩ | ⟨e,h⟩ <;> grind
theorem Zim {s t:Rat}:Pw (tq s) (tq t)↔s<t:=by
 constructor
 ·rintro ⟨q,h1,h2⟩
  have:=Zdj.1 h1; have:=Zdk.1 h2; grind
 ·intro h;exact ⟨(s+t) / 2,Zdj.2 (by grind),Zdk.2 (by grind)⟩
theorem Q4a {c:Cr} {r0:List (List LV)} {r1:List (List LV)}:Ht Tryz.prog 16 [.one (.ow 0 0)] [.blk 86 (M3 c r0 r1)] [.one (.ow 1 0)] [.blk 86 (M3 c r0 r1),.blk 86 (M3 c r0 r1)]:=by
 refine Gm Tryz.func16 rfl ?_;exact ed tt [] [0,1] [] rfl trivial
theorem Qxn {M:List Pt} {q:Rat} {c:List (List Int)} (hM:∀ p∈M,Rs p.c) (hl:M.length≤6) (hq:Qs 2000000 q) (hC:Q0h q c):Ht Tryz.prog 45 [.one (.ow 0 0)] [.blk 45 (plZ M q)] [] [.blk 45 (plB M q c (Qa1 q M))]:=by
 refine Gm Tryz.func45 rfl ?_;exact ed tt [] [0] [.c [] (Qtb hq hC),.c [] (Qw6 (cs:=c) hM hl hq),.c [] (Q8m (Q5v q hl))] rfl trivial
theorem Q4g {zs:List RawPt} {n d:Int} {O M:List Pt} {e:Nat} {c:List (List Int)} (hz:∀ z∈zs,z.Ok) (hO:Qg0 4 20 zs=O) (he:e≤O.length) (hd:Ew (Sb O e)) (hm:e<O.length->¬Ew (Sb O (e+1))) (hn:-9223372036854775808≤n/\n≤9223372036854775807) (hdd:-9223372036854775808≤d/\d≤9223372036854775807) (hC:Q0h (Ob n d) c) (hM:M=Rt L8 (Qb9 O e)) :
 Ht Tryz.prog 7 [.one (.row (Qe8 zs)),.one (.int .i64 n),.one (.int .i64 d)] [] [.one (.ow 0 0),.one (.ow 1 0),.one (.bool true)] [.blk 86 (M3 (Q65 M (tq (Ob n d))) (Ut M) (brD M (tq (Ob n d)))),.blk 45 (plB M (Ob n d) c (Qa1 (Ob n d) M))]:=by
 have hO4:O.length<=4:=by rw [<-hO]; exact Qab _ _ (Qh _)
 have hid:∀ p∈O,-9223372036854775808≤p.id/\p.id≤9223372036854775807:=λp hp=>by
  rw [<-hO] at hp; have:=Zhm p hp; omega
 have hlit:∀ p∈O,Q3z p:=λp hp=>by rw [<-hO] at hp; exact Qof (by decide) p hp
 have hcl:(Sb O e).length=e:=Qd1 he;have hcn:(Qb9 O e).length=e:=by rw [Qhz,hcl]
 have hMl:M.length=e:=by rw [hM,B5,hcn]
 have hok:∀ p∈M,Nml p.c/\Cs 10 3 p.c:=λp hp=>by rw [hM,A6] at hp; exact Q1n hlit e p hp
 have hq:=Qo9 n d;obtain ⟨q,hqq⟩:=nmE (Ob n d);have cb:=Q1a (l:=Qb9 O e) (by omega);rw [<-hM] at cb;rw [<-hqq] at hq hC ⊢;have csm:=Ze5 hn hdd;have c2:=Qxn (M:=M) (q:=q) (c:=c) (λp hp=>⟨(hok p hp).1,(hok p hp).2.mono (by decide) (by decide)⟩) (by omega) (hq.mono (by decide)) hC;have ctr:=Q71 (q:=q) (hq.mono (by decide));have hnl:=Q5k (qs:=Qb9 O e) (by omega) (Qnn hd);have hnl2:Ts [] (Qb9 O e)=(M,0):=by rw [hM,<-hnl.2,<-hnl.1]
 have cs:=Q0s (zs:=Ut (Sb O e)) (qs:=Qb9 O e) (l:=M) (n:=q.num) (d:=(q.den:Int)) (Qoc λp hp=>(Qtp hlit e p hp).mono (by decide) (by decide)) (by omega) hnl2 (λp hp=>⟨(hok p hp).1,(hok p hp).2.mono (by decide) (by decide)⟩) (by omega) (Ul q.num) (Ul (q.den:Int)) (Qc hq.1 (by decide)) (Qc hq.2 (by decide)) (by rw [I9]; exact hq.mono (by decide));rw [I9] at cs;rw [show Gb (Ox n 61-30) (1+Ox d 6)=q from hqq.symm] at csm;have cp:=Q4e hz;rw [hO] at cp;refine Gm Tryz.func7 rfl ?_;refine go tt [.c [0,1] cp] rfl trivial ?_;have h0l:=Tl O;refine ct 2 (S:=Unit) (λ_=>[(1,.v (.one (.int .i64 n))),(2,.v (.one (.int .i64 d))),(9,.v (.one (.row (Ut (Sb O e))))),(10,.v (.one (.row (Fj (Qb9 O e)))))]) (λ_=>[.gone,.gone]) (λ_=>True) rfl ?_ (λ_ _=>?_)
 ·refine lp (S:=Nat) 2 (λL1 i=>(23,.v (.one (.int .i64 (i:Int))))::(9,.v (.one (.orow 0 5 none)))::(10,.v (.one (.orow 1 7 none)))::L1) (λi=>[.row false 114 5 (Ut (mix O i)),.row false 61 7 (Fj ((mix O i).map Pt.nrm))]) (λi=>O.length-i) (λi=>i<=O.length/\i<=e/\Ew (Sb O i)) 0 ⟨Qh _,Qh _,List.Pairwise.nil⟩ rfl (λ_ _=>rfl) (by rw [Zaz]; rfl) λi ⟨hi,hie,hdi⟩=>?_
  have hl1:(Ut (mix O (i+1))).length=O.length:=by rw [Tl,Qi5]
  have hl0:(Ut (mix O i)).length=O.length:=by rw [Tl,Qi5]
  have hr0:(Fj ((mix O i).map Pt.nrm)).length=O.length:=by rw [Pg,Q8,Qi5]
  have hr1:(Fj ((mix O (i+1)).map Pt.nrm)).length=O.length:=by rw [Pg,Q8,Qi5]
  by_cases h:i<O.length
  ·obtain ⟨p,hp⟩:=gxE (l:=O) (i:=i) h;have hx:=Zgz hp;have hxn:((mix O i).map Pt.nrm)[i]? = some p.nrm:=by rw [Q9,hx]; rfl
   have cw:=Qdx (v:=p.id) (n:=5) (hid p (Qa hp)) (by decide);rw [show Ox p.id 5=p.m5.id from rfl] at cw;refine go tt [.t (decide_eq_true (by omega)),.i i,.x (Qa3 hx),.c [] cw,.i i,.x (Qa3 hx),.c [] cw,.i i,.x (Qa3 hx),.i i,.x (Tf hxn)] rfl (by simp [Ui,hl0,hr0]; omega) ?_;rw [Qrt hp,Qm3 hp];refine lp (S:=Nat) 2 (λL1 j=>(12,.v (.one (.int .i64 (j:Int))))::(9,.v (.one (.orow 0 5 none)))::(10,.v (.one (.orow 1 7 none)))::L1) (λ_=>[.row false 114 5 (Ut (mix O (i+1))),.row false 61 7 (Fj ((mix O (i+1)).map Pt.nrm))]) (λj=>i-j) (λj=>j<=i/\∀ k x,k<j->O[k]? = some x->x.m5.id≠p.m5.id) 0 ⟨Qh _,λk x h=>absurd h (Uc _)⟩ rfl (λ_ _=>rfl) rfl λj ⟨hj,hjn⟩=>?_
   by_cases hji:j<i
   ·obtain ⟨x,hxj⟩:=gxE (l:=O) (i:=j) (by omega);have g1:=Q2p (i:=i+1) (show j<i+1 by omega) hxj;have g2:=Q2p (i:=i+1) (show i<i+1 by omega) hp;by_cases hq:x.m5.id=p.m5.id
    ·have hnd:¬Ew (Sb O (i+1)):=λhD=>by
      have:=List.pairwise_iff_getElem.1 hD j i (by rw [Qd1 (by omega)]; omega) (by rw [Qd1 (by omega)]; omega) hji;refine this ?_;have e1:(Sb O (i+1))[j]? = some x.m5:=by unfold Sb; rw [List.getElem?_map,List.getElem?_take,if_pos (by omega),hxj]; rfl
      have e2:(Sb O (i+1))[i]? = some p.m5:=by unfold Sb; rw [List.getElem?_map,List.getElem?_take,if_pos (by omega),hp]; rfl
      rw [(Qd.1 e1).2,(Qd.1 e2).2]; exact hq
     have hie2:i=e:=by
      rcases Zb i e with h3 | h3
      ·exact absurd (Zf5 hd h3) hnd
      ·omega
     have c1:(Ut (mix O (i+1))).take i=Ut (Sb O e):=by rw [Q5s (by omega) (by omega),hie2]
     have c2:(Fj ((mix O (i+1)).map Pt.nrm)).take i=Fj (Qb9 O e):=by rw [Qzq (by omega) (by omega),hie2]
     refine go tt [.t (decide_eq_true (by omega)),.i j,.x (Qa3 g1),.i i,.x (Qa3 g2),.t (decide_eq_true hq),.i i,.i i] rfl (by simp [Ui,hl1,hr1]; omega) ?_;refine pz 0 rfl rfl ?_;refine pz 1 rfl rfl ?_;exact go tt [.t (decide_eq_true (by omega))] rfl trivial (rc () trivial (by rw [c1,c2]; rfl))
    ·refine go tt [.t (decide_eq_true (by omega)),.i j,.x (Qa3 g1),.i i,.x (Qa3 g2),.f (decide_eq_false hq)] rfl (by simp [Ui,hl1]; omega) ?_;exact rd (j+1) (by omega) ⟨hji,λk y hk hy=>by
      rcases Zb k j with h3 | h3
      ·exact hjn k y h3 hy
      ·have:k=j:=by omega
       subst this; rw [hxj] at hy; injection hy with hy; rw [<-hy]; exact hq⟩ rfl
   ·have hji2:j=i:=by omega
    rw [hji2] at hjn;have hD:=Q4x hp hdi hjn;have hle:i+1<=e:=by
     rcases Zb i e with h3 | h3
     ·exact h3
     ·have:i=e:=by omega
      rw [this] at hD h;exact absurd hD (hm h)
    refine go tt [.f (decide_eq_false (by omega)),.f (decide_eq_false (by omega))] rfl (by simp [Ui]; omega) ?_;exact rd (i+1) (by omega) ⟨h,hle,hD⟩ rfl
  ·have hiO:i=O.length:=by omega
   have hie2:i=e:=by omega
   have c1:Ut (mix O i)=Ut (Sb O e):=by rw [<-hie2,hiO,Qut]
   have c2:Fj ((mix O i).map Pt.nrm)=Fj (Qb9 O e):=by rw [<-hie2,hiO,Qut]; rfl
   refine go tt [] rfl trivial ?_;rw [c1,c2];refine pz 0 rfl rfl ?_;refine pz 1 rfl rfl ?_;exact go tt [.f (decide_eq_false (by omega))] rfl trivial (rc () trivial rfl)
 ·exact ed tt [] [3,2] [.c [] cb,.c [] csm,.c [2] c2,.c [] ctr,.c [3] cs,.g 96 true rfl] rfl trivial
abbrev wkD:List Pt:=[⟨Qpc 0 0,1⟩,⟨Qpc 1 0,2⟩,⟨Qpc 0 1,3⟩,⟨Qpc 1 1,4⟩]
theorem Zm9:(Bl (Pi (tq 0)) wkD).length=4:=by decide +kernel
theorem Zm8:(Cw (Bl (Pi (tq 0)) wkD)).length=6:=by decide +kernel
theorem Zdt:∀ p∈wkD,Sc p.c:=λp hp=>by
 simp only [wkD,Qp,Jq,or_false] at hp;rcases hp with rfl | rfl | rfl | rfl
 all_goals exact Zcp (by decide) (by decide)
theorem Qnm:Uk Tryz.prog 15 [] [.one (.bool true)]:=by
 have hq:Qs 1640000 (Gb 0 0):=⟨by decide,by decide⟩;have ez:Gb 0 0=0:=by decide
 have zp:IsPts 4294967294 1073741824 (Ut wkD) wkD:=Q2b λp hp=>(Zdt p hp).pt
 have hnl:Ts [] wkD=(wkD,0):=rfl;have cn:=Q0s zp (by decide) hnl Zdt (by decide) Bw Bw (by decide) (by decide) hq;rw [ez] at cn;obtain ⟨ts,hts⟩:=nmE (Bl (Pi (tq 0)) wkD);have e4:ts.length=4:=by rw [hts]; exact Zm9
 have e6:(Cw ts).length=6:=by rw [hts]; exact Zm8
 unfold brD at cn;rw [<-hts] at cn;have ct:=Qcr (c:=Q65 wkD (tq 0)) (r0:=Ut wkD) (ts:=ts) (by omega);have ce:=Qjy (c:=Q65 wkD (tq 0)) (r0:=Ut wkD) (ts:=ts) (by omega);have l4:=A9 ts;have l6:=Gy (Cw ts);refine Gm Tryz.func15 rfl ?_;exact en tt [.c [] (Qiq (x:=0) (y:=0) (by decide) (by decide)),.c [] (Qiq (x:=1) (y:=0) (by decide) (by decide)),.c [] (Qiq (x:=0) (y:=1) (by decide) (by decide)),.c [] (Qiq (x:=1) (y:=1) (by decide) (by decide)),.c [0] cn,.g 19 true rfl,.g 23 true rfl,.c [0] ct,.g 29 true (decide_eq_true (by omega)),.c [0] ce,.g 34 true (decide_eq_true (by omega))] rfl rfl trivial
end Orr
namespace Orq
open Orr Go
theorem Qux {c x y:Rat} (hc:0<c) (h:c*x=c*y):x=y:=by
 have h1:1 / c*c=1:=Fl hc;have e:∀ z:Rat,z=1 / c*(c*z):=λz=>by grind
 rw [e x,h,<-e y]
theorem Qnh (p:List Int):∀ i,i<=p.length->Ei p i=Gz (p.take i)
 | 0,_=>rfl
 |
  i+1,h=>by
  have hx:p[i]? = some (p.getD i 0):=by rw [Qg,Qe (by omega)]; rfl
  rw [Qgg hx,<-Qnh p i (by omega)];rfl
theorem Zfx (p:List Int):((Orr.cont p:Nat):Int)=Rk p:=by
 unfold Orr.cont Rk; rw [Qnh p _ (Nat.le_refl _),List.take_length]
theorem Zbm (p:List Int):U4 p=Ux p:=rfl
theorem Q9t (p:List Int):Px p=Fy p:=by unfold Px Fy; rw [Zfx,Zbm]
theorem Qdh (p:List Int) (k:Nat):(Gn p).getD k 0=p.getD k 0 / Fy p:=by
 unfold Gn;rw [Ry,Q9t]
 split
 ·rfl
 ·rename_i h; rw [G7 (by omega),Int.zero_ediv]
theorem Ty (p:List Int):Gn p=Uq p:=by
 unfold Uq
 split
 ·rename_i h; rw [List.eq_nil_of_length_eq_zero h]; rfl
 ·exact Qfi (Qmi p) (Ha _) λk=>by rw [Qdh,Mr]
theorem Qvt (p:List Int) (k:Nat):(Hn p).getD k 0=p.getD k 0 / Rk p:=by
 unfold Hn
 split
 ·rename_i h;rw [Qos,Qdh];have:Fy p=-Rk p:=if_pos h;rw [this,Int.ediv_neg,Int.neg_neg]
 ·rename_i h;rw [Qdh];have:Fy p=Rk p:=if_neg h;rw [this]
theorem Qib (p:List Int):Uo (Hn p):=by
 unfold Hn; split
 ·exact U3 _ _
 ·exact Qmi p
theorem Qh3 (p:List Int):Hn p=Lr p:=by
 unfold Lr
 split
 ·rename_i h; rw [List.eq_nil_of_length_eq_zero h]; rfl
 ·exact Qfi (Qib p) (Ha _) λk=>by rw [Qvt,Mr]
theorem Qot {p:List Int} (tp:Uo p) (h:p.length≠0):Prm (Lr p):=λd hd=>by
 refine (Td tp h).2.2.1 d λk=>?_
 have h1:=hd k;unfold Lr at h1;rw [if_neg h,Mr] at h1;unfold Uq;rw [if_neg h,Mr];unfold Fy
 split
 ·rw [Int.ediv_neg]; exact Int.dvd_neg.2 h1
 ·exact h1
theorem Qtm {a b c:Int} (h:Nat.Coprime a.natAbs b.natAbs) (h2:a∣b*c):a∣c:=Xn.1 (h.dvd_of_dvd_mul_left (by rw [<-J0]; exact Xn.2 h2))
theorem Qoz {p q:List Int} (tp:Uo p) (tq:Uo q) (hp:Prm p) (hq:Prm q) {c:Rat} (hc:0<c) (h:∀ t,Up p t=c*Up q t):p=q:=by
 have hd:=c.den_nz;have hd0:((c.den:Int):Rat)≠0:=I1 (by omega);have e:c*((c.den:Int):Rat)=(c.num:Rat):=by
  have h1:(c.num:Rat) / ((c.den:Int):Rat)=c:=by rw [Gs,Zs]
  have h2:(c.num:Rat) / ((c.den:Int):Rat)*((c.den:Int):Rat)=(c.num:Rat):=Zk hd0;rw [h1] at h2; exact h2
 have hk:∀ k,(c.den:Int)*p.getD k 0=c.num*q.getD k 0:=λk=>by
  have:=Nm (p:=Ff p (c.den:Int)) (q:=Ff q c.num) (λt=>by
   rw [Tk,Tk,h,<-e]; grind) k
  rw [Rl,Rl] at this;rw [Vr,this,Vr]
 have d1:(c.den:Int)∣1:=hq _ λk=>Qtm (a:=(c.den:Int)) (b:=c.num) (by simpa using c.reduced.symm) (by rw [<-hk k]; exact Kl _ _)
 have d2:c.num∣1:=hp _ λk=>Qtm (a:=c.num) (b:=(c.den:Int)) (by simpa using c.reduced) (by rw [hk k]; exact Kl _ _)
 have p1:0<c.num:=by
  have h0:=Rat.num_nonneg.2 (Qo hc);rcases Int.lt_or_eq_of_le h0 with h1 | h1
  ·exact h1
  ·exfalso;rw [<-h1] at e;have e0:((0:Int):Rat)=0:=rfl;rw [e0] at e;rcases Jw.1 e with h2 | h2
   ·grind
   ·exact hd0 h2
 have e1:=Int.le_of_dvd (by decide) d1;have e2:=Int.le_of_dvd (by decide) d2;have n1:c.num=1:=by omega
 have n2:(c.den:Int)=1:=by omega
 refine Qfi tp tq λk=>?_
 have:=hk k;rw [n1,n2] at this; omega
theorem Q51 {a b:List Int} (hb:b.length<=a.length):Et a b=str b ((Ux b).natAbs:Int) (a.length-b.length) (Co a b) a:=by
 refine Qfi (U3 _ _) (U3 _ _) λk=>?_
 unfold Et str;rw [Ry,Bz,Rl,Qra]
 split
 ·rfl
 ·rename_i h;rw [G7 (p:=a) (by omega),Yb,if_pos (by omega),G7 (p:=b) (by omega),Vs]; rfl
theorem Zcj {a b:List Int} (hb:b.length<=a.length) (t:Rat):(((Ux b).natAbs:Int):Rat)*Up a t=((Co a b:Int):Rat)*t^(a.length-b.length)*Up b t+Up (Et a b) t:=by
 rw [Q51 hb]; exact Zc9 _ _ _ _ _ _
theorem Q50 {a b:List Int} (hb0:b.length≠0) (hb:b.length<=a.length):(Et a b).length<a.length:=by
 have h:=Qq0 (p:=Et a b) (n:=a.length-1) (U3 _ _) (Qc (Ld _ _) (by omega)) (by
  unfold Et C5;rw [Ry,if_pos (by omega),if_pos (by omega),show a.length-1-(a.length-b.length)=b.length-1 by omega];show U4 a*((U4 b).natAbs:Int)-Co a b*U4 b=0;unfold Co
  split
  ·rw [show ((U4 b).natAbs:Int)=-U4 b by omega,V7,Vj]; omega
  ·rw [show ((U4 b).natAbs:Int)=U4 b by omega]; omega)
 omega
theorem Zci {a b:List Int} {s t:Nat} (ha:Bd s a) (hb:Bd t b):Bd (s+t+1) (Et a b):=Ie λi _=>by
 have h1:=Uw ha i;have h2:Uv ((U4 b).natAbs:Int)<=t:=by
  have h:Uv (U4 b)<=t:=Uw hb (b.length-1);rw [Rr] at h ⊢;rw [Z9]; exact h
 have h3:Uv (Co a b)<=s:=by
  have:=Uw ha (a.length-1);unfold Co
  split
  ·rw [Gg]; exact this
  ·exact this
 have h4:=U6 (a.getD i 0) ((U4 b).natAbs:Int);unfold C5
 split
 ·have h5:=U6 (Co a b) (b.getD (i-(a.length-b.length)) 0);have h6:=Uw hb (i-(a.length-b.length));have:=Qi2 (a.getD i 0*((U4 b).natAbs:Int)) (Co a b*b.getD (i-(a.length-b.length)) 0);omega
 ·rw [Int.sub_zero]; omega
theorem Q3m {b:List Int} (tb:Uo b) (hb:b.length≠0) {t:Nat} (bb:Bd t b):∀ (k:Nat) (a:List Int) (s:Nat),a.length<b.length+k->Uo a->a.length<=60->Bd s a->s+k*(t+1)<=9000000->t<=9000000 ->
 ∃ n r,RRun b n a r/\Uo r/\r.length<b.length/\Bd (s+k*(t+1)) r/\∃ (u:Rat) (X:List Rat),0<u/\∀ x,u*Up a x=ev X x*Up b x+Up r x
 | 0,a,s,hl,ta,_,ba,_,_=>⟨0,a,.stop (by omega),ta,by omega,by rw [Ye]; exact ba,1,[],by decide,λx=>by simp only [ev]; grind⟩
 |
  k+1,a,s,hl,ta,h6,ba,hs,ht=>by
  rcases Zb a.length b.length with h | h
  ·exact ⟨0,a,.stop h,ta,h,Uj ba (by omega),1,[],by decide,λx=>by simp only [ev]; grind⟩
  ·have h1:=Q50 hb h;have e:s+t+1+k*(t+1)=s+(k+1)*(t+1):=by rw [Xc]; omega
   obtain ⟨n,r,r1,r2,r3,r4,u,X,hu,hX⟩:=Q3m tb hb bb k (Et a b) (s+t+1) (by omega) (U3 _ _) (by omega) (Zci ba bb) (by omega) ht;have hlp:((0:Int):Rat)<(((Ux b).natAbs:Int):Rat):=X7.2 (by have:=Cc tb hb; omega);have hlp:(0:Rat)<(((Ux b).natAbs:Int):Rat):=by simpa using hlp
   refine ⟨n+1,r,.step h (by omega) (Uj ba (by omega)) (Uj bb ht) r1,r2,r3,by rw [<-e]; exact r4,u*(((Ux b).natAbs:Int):Rat),Ra (P5 (u*((Co a b:Int):Rat)) (cz (mono (a.length-b.length) 1))) X,Kq hu hlp,λx=>?_⟩;have g1:=Zcj h x;have g2:=hX x;rw [Fh,U7,Un,Aw];have e1:((1:Int):Rat)=1:=rfl;rw [e1];have:u*(((Ux b).natAbs:Int):Rat)*Up a x=u*((((Ux b).natAbs:Int):Rat)*Up a x):=by grind
   rw [this,g1]; grind
theorem Zhz {a b r:List Int} (ta:Uo a) (tb:Uo b) (hb:b.length≠0) (hl:a.length<=60) (tr:Uo r) (hr:r.length<b.length) {u:Rat} {X:List Rat} (hu:0<u) (hX:∀ x,u*Up a x=ev X x*Up b x+Up r x):Hn r=Gi a b:=by
 obtain ⟨h1,h2,_,u',v',up,vp,X',hX'⟩:=Qe5 ta tb hb hl;have key:∀ x,ev (Ra (P5 (u*v') (cz (Gi a b))) (P5 (-u') (cz r))) x=ev (Fx (Ra (P5 u' X) (P5 (-u) X')) (cz b)) x:=λx=>by
  have g1:=hX x;have g2:=hX' x;rw [Fh,U7,U7,Ur,Fh,U7,U7,Un,Un,Un];have k1:u'*(u*Up a x)=u'*(ev X x*Up b x+Up r x):=by rw [g1]
  have k2:u*(u'*Up a x)=u*(ev X' x*Up b x+v'*Up (Gi a b) x):=by rw [g2]
  grind
 have hz:∀ x,ev (Ra (P5 u' X) (P5 (-u) X')) x=0:=by
  rcases Qht (Ra (P5 u' X) (P5 (-u) X')) with h | ⟨m,_,h⟩
  ·exact h
  ·exfalso;have hm:=Qgk h (Qce tb (by omega));have h3:=(Zae (λt=>(key t).symm) hm).1;rw [Hg,H7,H7,Sa,Sa,G7 (p:=Gi a b) (by omega),G7 (p:=r) (by omega)] at h3;have e0:((0:Int):Rat)=0:=rfl;rw [e0] at h3;exact h3 (by grind)
 have hpr:∀ x,Up r x=u*v' / u'*Up (Gi a b) x:=λx=>by
  have g:=key x;rw [Ur,hz x,Fh,U7,U7,Un,Un] at g;have hd:u*v' / u'*u'=u*v':=Fl up;have hne:u'≠0:=by grind
  have:u'*Up r x=u'*(u*v' / u'*Up (Gi a b) x):=by
   have e:u'*(u*v' / u'*Up (Gi a b) x)=(u*v' / u'*u')*Up (Gi a b) x:=by grind
   rw [e,hd]; grind
  exact Qux up this
 have hcp:0<u*v' / u':=Bu (Kq hu vp) up;rw [Qh3];have hlen:=Dk tr h1 (by grind:u*v' / u'≠0) hpr;by_cases h0:r.length=0
 ·rw [Qi h0,Qi (l:=Gi a b) (by omega)]; rfl
 ·obtain ⟨c,cp,hc⟩:=Qvj tr;have hcn:c≠0:=by grind
  have hp2:Prm (Gi a b):=by
   unfold Gi at hlen ⊢;have ht:Uo (Py a b (Sr a b)):=by
    unfold Py; split
    ·exact U3 _ _
    ·exact (Qrr hb _ _ _ ta (by omega)).1
   refine Qot ht λe=>?_
   rw [Qi e] at hlen;exact h0 hlen
  have tn:Uo (Lr r):=by rw [<-Qh3]; exact Qib r
  refine Qoz tn h1 (Qot tr h0) hp2 (c:=u*v' / u' / c) (Bu hcp cp) λt=>?_
  have g1:=hc t;have g2:=hpr t;have hd:u*v' / u' / c*c=u*v' / u':=Fl cp;refine Qux cp ?_;have e:c*(u*v' / u' / c*Up (Gi a b) t)=(u*v' / u' / c*c)*Up (Gi a b) t:=by grind
  rw [e,hd,<-g1,g2]
theorem Qvp {p:List Int} (h:Pr1 p):Uq p=p:=by
 obtain ⟨h1,h2,h3,h4,_,h6,h7⟩:=Td h.t h.n;have hl:=h.l;have hc:0<Fy p:=by
  have:=Av h.t h.n;unfold Fy;rw [if_neg (by omega)];unfold Rk at this ⊢; omega
 have hq:((0:Int):Rat)<(Fy p:Rat):=X7.2 hc;exact (Qoz h.t h1 h.m h3 (c:=(Fy p:Rat)) (by simpa using hq) h7).symm
theorem Qvq {r:List Int} (tr:Uo r):(Uq r).length=r.length/\((Uq r).length=0\/Pr1 (Uq r)):=by
 by_cases h:r.length=0
 ·rw [Qi h]; exact ⟨rfl,.inl rfl⟩
 ·exact ⟨(Td tr h).2.1,.inr (Q5o tr h)⟩
theorem Qg7 {s m lb la:Nat} (e:la-1=m+(lb-1)) (hm:1<=m) (hs:(s+8)*3^(la-1)<=9000000):(s+(m+1)*(s+8)+8)*3^(lb-1)<=9000000/\s+(m+1)*(s+8)<=9000000:=by
 have e2:s+(m+1)*(s+8)+8=(m+2)*(s+8):=by
  rw [show m+2=(m+1)+1 by omega,Xc (m+1)]; omega
 have e3:(m+2)*(s+8)*3^(lb-1)<=(s+8)*3^(la-1):=by
  rw [e,Xh,<-Xq,Zi (s+8)];exact Qy _ (Qy _ (Zhh m hm))
 have:(m+2)*(s+8)<=(m+2)*(s+8)*3^(lb-1):=Jp _ (Zy (by decide));exact ⟨by rw [e2]; omega,by omega⟩
theorem Qv6 {a b:List Int} {s:Nat} (ta:Uo a) (tb:Uo b) (hb:b.length≠0) (hab:b.length<a.length) (hl:a.length<=60) (ba:Bd s a) (bb:Bd s b) (hs:(s+8)*3^(a.length-1)<=9000000) :
 ∃ n r,RRun b n a r/\Uo r/\r.length<b.length/\Bd (s+(a.length-b.length+1)*(s+8)) r/\Hn r=Gi a b/\∃ (u:Rat) (X:List Rat),0<u/\∀ x,u*Up a x=ev X x*Up b x+Up r x:=by
 obtain ⟨k1,k2⟩:=Qg7 (s:=s) (m:=a.length-b.length) (lb:=b.length) (la:=a.length) (by omega) (by omega) hs;have h1:(a.length-b.length+1)*(s+1)<=(a.length-b.length+1)*(s+8):=Zj _ (by omega);obtain ⟨n,r,r1,r2,r3,r4,u,X,hu,hX⟩:=Q3m tb hb bb (a.length-b.length+1) a s (by omega) ta hl ba (by omega) (by omega);exact ⟨n,r,r1,r2,r3,Uj r4 (by omega),Zhz ta tb hb hl r2 r3 hu hX,u,X,hu,hX⟩
theorem Q16:∀ (k:Nat) (a b:List Int) (s:Nat),b.length<k->Pr1 a->(b.length=0\/Pr1 b)->Uo b->b.length<a.length->a.length<=60->Bd s a->Bd s b->(s+8)*3^(a.length-1)<=9000000 ->
 ∃ n g,GRun n a b g/\Pr1 g/\Oj (cz g) (cz a)/\Oj (cz g) (cz b)
 | 0,_,_,_,h,_,_,_,_,_,_,_,_=>by omega
 |
  k+1,a,b,s,hk,pa,pb,tb,hab,hl,ba,bb,hs=>by
  rcases pb with h0 | pb
  ·rw [Qi h0];exact ⟨0,a,.stop a,pa,dvd_refl _,⟨[],λt=>by simp only [cz,X8,ev]; grind⟩⟩
  ·have hb:=pb.n;obtain ⟨n,r,r1,r2,r3,r4,_,u,X,hu,hX⟩:=Qv6 pa.t tb hb hab hl ba bb hs;obtain ⟨k1,k2⟩:=Qg7 (s:=s) (m:=a.length-b.length) (lb:=b.length) (la:=a.length) (by omega) (by omega) hs;obtain ⟨p1,p2⟩:=Qvq r2;obtain ⟨_,p3,p4,c,c1,c2⟩:=A0 r2;have tp:Uo (Uq r):=by
    rcases p2 with h | h
    ·rw [Qi h]; rfl
    ·exact h.t
   obtain ⟨j,g,g1,g2,g3,g4⟩:=Q16 k b (Uq r) (s+(a.length-b.length+1)*(s+8)) (by omega) pb p2 tp (by omega) (by omega) (Uj bb (by omega)) (p4 _ r4) k1;refine ⟨j+1,g,.step (by omega) (by omega) (Uj bb (by omega)) r1 (by omega) (Uj r4 k2) r2 (by rw [Ty]; exact g1),g2,?_,g3⟩;obtain ⟨y,hy⟩:=g3;obtain ⟨z,hz⟩:=g4;have hu1:1 / u*u=1:=Fl hu;refine ⟨P5 (1 / u) (Ra (Fx X y) (P5 c z)),λt=>?_⟩;have a1:=hX t;have a2:=hy t;have a3:=hz t;have a4:=c2 t;rw [Un] at a2 a3 ⊢;rw [U7,Fh,Ur,U7];have:Up a t=1 / u*(u*Up a t):=by grind
   rw [this,a1,a2,a4,a3]; grind
theorem Qzd {c:Int} (h:c≠0):Ff [1] c=[c]:=by
 show Pp 1 _=_;rw [Lf,Qcm];show (if 1*c=0 then _ else [1*c])=_;rw [Yw,if_neg h]
theorem Qzy (k:Nat) (c:Int) (i:Nat):(Tn k [c]).getD i 0=if i=k then c else 0:=by
 unfold Tn;rw [Qg];rcases Vp i k with h | h | h
 ·rw [Zm (by simpa using h),if_neg (by omega)];simp [h]
 ·subst h;rw [Xl (by simp)]; simp
 ·rw [Qt (by simp; omega),if_neg (by omega)]; rfl
theorem Qkm:∀ (k:Nat) (a q p:List Int),a.length<=k->Uo a->a.length<=60->Bd 9000000 a->a.length<=q.length->q.length=p.length->(∀ i,i<a.length->a.getD i 0=p.getD i 0)->(∀ i,i<a.length->q.getD i 0=0)->(∀ i,a.length<=i->q.getD i 0=p.getD i 0)->∃ n,DRun [1] n a q p []
 |
  0,a,q,p,h,_,_,_,_,hq,_,_,h3=>by
  have e:=Qi (l:=a) (by omega);subst e;have e2:q=p:=by
   refine List.ext_getElem hq λi h1 h2=>?_
   have:=h3 i (by simp);rw [Qg,Qg,Qe h1,Qe h2] at this;exact this
  rw [e2]; exact ⟨0,.stop (by decide)⟩
 |
  k+1,a,q,p,h,ta,h6,ba,haq,hq,h1,h2,h3=>by
  by_cases h0:a.length=0
  ·exact Qkm k a q p (by omega) ta h6 ba haq hq h1 h2 h3
  ·have hlead:U4 a≠0:=Gv ta (by omega);have hp1:U4 [1]=1:=rfl;have e1:Tx a (Tn (a.length-1) (Ff [1] (U4 a / U4 [1])))=Tx a (Tn (a.length-1) [U4 a]):=by
    rw [hp1,Vq,Qzd hlead]
   have g:∀ i,(Tx a (Tn (a.length-1) [U4 a])).getD i 0=if i=a.length-1 then 0 else a.getD i 0:=λi=>by
    rw [Bz,Qzy]
    split
    ·rename_i e; subst e; exact Int.sub_self _
    ·rw [Int.sub_zero]
   have ll:(Tx a (Tn (a.length-1) [U4 a])).length<=a.length-1:=by
    refine Qq0 (U3 _ _) (Qc (Qeg _ _) ?_) (by rw [g,if_pos rfl]);rw [Ql8]; simp; omega
   have gz:∀ i,(Tx a (Tn (a.length-1) [U4 a])).length<=i->i<a.length-1->a.getD i 0=0:=λi k1 k2=>by
    have:=g i;rw [G7 k1,if_neg (by omega)] at this;exact this.symm
   have gs:∀ i,(q.set (a.length-1) (U4 a)).getD i 0=if i=a.length-1 then U4 a else q.getD i 0:=λi=>by
    rw [Qg,J6];by_cases e:a.length-1=i
    ·rw [if_pos e,if_pos (by omega),if_pos e.symm]; rfl
    ·rw [if_neg e,if_neg (λh=>e h.symm),Qg]
   have hpa:U4 a=p.getD (a.length-1) 0:=h1 _ (by omega);obtain ⟨n,hn⟩:=Qkm k (Tx a (Tn (a.length-1) [U4 a])) (q.set (a.length-1) (U4 a)) p (by omega) (U3 _ _) (by omega) (λz hz=>by
    obtain ⟨i,hi⟩:=Jb hz;have e:z=(Tx a (Tn (a.length-1) [U4 a])).getD i 0:=by rw [Qg,hi]; rfl
    rw [e,g]
    split
    ·exact Qh _
    ·exact Uw ba i) (by rw [Jd]; omega) (by rw [Jd]; exact hq) (λi hi=>by rw [g,if_neg (by omega)]; exact h1 i (by omega)) (λi hi=>by rw [gs,if_neg (by omega)]; exact h2 i (by omega)) (λi hi=>by
    rw [gs]
    split
    ·rename_i e; rw [e]; exact hpa
    ·rename_i e;by_cases k1:a.length<=i
     ·exact h3 i k1
     ·rw [h2 i (by omega),<-h1 i (by omega),gz i hi (by omega)])
   refine ⟨n+1,.step (by show 1<=a.length; omega) (by omega) ba (by decide) (by rw [hp1]; exact Uf _) (by show a.length-1<q.length; omega) ?_⟩;show DRun [1] n (Tx a (Tn (a.length-1) (Ff [1] (U4 a / U4 [1])))) (q.set (a.length-1) (U4 a / U4 [1])) p [];rw [e1,hp1,Vq]; exact hn
theorem Zf8 {p:List Int} (tp:Uo p) (hl:p.length<=60) (bp:Bd 9000000 p):DOk p [1] p:=by
 obtain ⟨n,hn⟩:=Qkm p.length p (List.replicate (p.length+1-1) 0) p (Qm _) tp hl bp (by simp) (by simp) (λ_ _=>rfl) (λi _=>Rq _ i) (λi hi=>by rw [Rq,G7 hi]);exact ⟨by decide,by decide,by omega,b1 (by decide),p,[],n,bp,by omega,hn,tp.symm⟩
theorem Q1m:∀ (k:Nat) (pre:List (List Int)) (a b:List Int) (s:Nat) (L:List (List Int)),chF k a b=some L->Uo a->Uo b->b.length<a.length->a.length<=60->Bd s a->Bd s b->(s+8)*3^(a.length-1)<=9000000->pre.length+a.length<=500 ->
 ∃ n,CRun n (pre++[a]) b (pre++[a]++L)/\L.length<=b.length
 | 0,_,_,_,_,_,h,_,_,_,_,_,_,_,_=>by cases h
 |
  k+1,pre,a,b,s,L,h,ta,tb,hab,hl,ba,bb,hs,hp=>by
  simp only [chF] at h
  split at h
  ·rename_i h0;injection h with h; subst h;rw [Xi];exact ⟨0,.stop h0,by simp⟩
  ·rename_i h0;obtain ⟨r0,hr0,h⟩:=Qf.1 h;obtain ⟨l,hl1,h⟩:=Qf.1 h;injection h with h; subst h;have er:r0=Gi a b:=by
    unfold chk at hr0
    split at hr0
    ·injection hr0 with hr0; exact hr0.symm
    ·cases hr0
   rw [er] at hl1;obtain ⟨n,r,r1,r2,r3,r4,r5,_⟩:=Qv6 ta tb h0 hab hl ba bb hs;obtain ⟨k1,k2⟩:=Qg7 (s:=s) (m:=a.length-b.length) (lb:=b.length) (la:=a.length) (by omega) (by omega) hs;have hlp:=I6 r;have hln:=Nj (Hn r);rw [<-r5] at hl1;obtain ⟨j,c1,c2⟩:=Q1m k (pre++[a]) b (Se (Hn r)) (s+(a.length-b.length+1)*(s+8)) l hl1 tb (U3 _ _) (by omega) (by omega) (Uj bb (by omega)) (If (Qm8 r4)) k1 (by simp; omega);have hlast:Sv (pre++[a])=a:=by unfold Sv; simp
   refine ⟨j+1,.step (by omega) (by omega) (Uj bb (by omega)) (by rw [hlast]; exact r1) r2 (Uj r4 k2) (by omega) (by simp) (by simp; omega) ?_,by simp; omega⟩;have e:pre++[a]++b::l=pre++[a]++[b]++l:=by simp
   rw [e]; exact c1
theorem Q80 {P g q:List Int} {s:Nat} (sq:Sqp P g q) (l2:2<=q.length) (lq:q.length<=9) (bq:Bd s q) (hs:(s+4+8)*3^8<=9000000) {L:List (List Int)} (hL:chF 66 q (Uq (Fe q))=some L):ChRun q q (q::L):=by
 have pq:=sq.pq;have hpow:(s+4+8)*3^(q.length-1)<=9000000:=Qc (Zj _ (Zq (by decide) (by omega))) hs;have hs9:s+4<=8000000:=by
  have:(s+4+8)*3^8=(s+4+8)*6561:=rfl;omega
 have ld:=Tr q;have bd:Bd (s+4) (Fe q):=Qpt bq (by omega);obtain ⟨p1,p2⟩:=Qvq (r:=Fe q) (U3 _ _);obtain ⟨_,p3,p4,c,c1,c2⟩:=A0 (a:=Fe q) (U3 _ _);have tp:Uo (Uq (Fe q)):=by
  rcases p2 with h | h
  ·rw [Qi h]; rfl
  ·exact h.t
 obtain ⟨m,h,g1,g2,g3,g4⟩:=Q16 66 q (Uq (Fe q)) (s+4) (by omega) pq p2 tp (by omega) (by omega) (Uj bq (by omega)) (p4 _ bd) hpow;have hone:h=[1]:=by
  obtain ⟨c',_,hc'⟩:=sq.num g3 (by
   obtain ⟨z,hz⟩:=g4;exact ⟨P5 c z,λt=>by
    have:=hz t;rw [Un] at this;rw [Hw,<-Lq,c2,this,U7]; grind⟩)
  refine g2.one (Nat.lt_of_not_le λh2=>?_);have hd:=Qce g2.t (by omega);have:=Ni (p:=cz h) (q:=[c']) (λt=>by rw [hc' t]; simp only [ev]; grind) (h.length-1);rw [Qg (l:=[c']),Qt (by simp; omega)] at this;exact hd.1 this
 subst hone;have hpq:=Qvp pq;have t1:Uo [1]:=rfl;have dq:=Zf8 pq.t (by omega) (Uj bq (by omega:s<=9000000));have fr:FRun q 1 (λ_=>q):=by
  refine ⟨⟨1,[q,[1]],?_,rfl,?_⟩,by decide⟩
  ·rw [Ty,hpq];refine .step (m:=m) (g:=[1]) (by show 1<q.length; omega) (by show q.length<=1000; omega) (by show Uo q; exact pq.t) (by show Bd 9000000 q; exact Uj bq (by omega)) (by show Bd 9000000 (Fe q); exact Uj bd (by omega)) ?_ (by show 1<=1000; decide) ?_
   ·show GRun m (Gn q) (Gn (Fe q)) [1];rw [Ty,Ty,hpq]; exact g1
   ·exact .stop (by show 1<=1; decide)
  ·intro k hk;have:k=0:=by omega
   subst this;exact ⟨q,[1],q,dq,div_one,by rw [Ty,hpq,Qvn]; exact dq,by rw [Ty,hpq]⟩
 obtain ⟨n,c3,c4⟩:=Q1m 66 [] q (Uq (Fe q)) (s+4) L hL pq.t tp (by omega) (by omega) (Uj bq (by omega)) (p4 _ bd) hpow (by simp; omega);have hsz:Hn (Fe q)=Uq (Fe q):=by
  have hlp:¬U4 (Fe q)<0:=by
   have h1:U4 (Fe q)=Ux q*((q.length-1:Nat):Int):=by
    have hld:(Fe q).length=q.length-1:=by
     refine Kd ld (Yv λh=>?_);have h1:=Sk q (q.length-2);rw [G7 (by omega),show q.length-2+1=q.length-1 by omega] at h1;have h3:q.getD (q.length-1) 0≠0:=Gv pq.t (by omega);rcases J7.1 h1.symm with h4 | h4
     ·exact h3 h4
     ·omega
    unfold U4 Ux;rw [hld,Sk,show q.length-1-1+1=q.length-1 by omega]
   have:=Ud pq.l (show (0:Int)<((q.length-1:Nat):Int) by omega);omega
  unfold Hn;rw [if_neg hlp,Ty]
 refine ⟨⟨1,λ_=>q,fr,λi hi=>?_,?_⟩,⟨n,?_⟩,Uj bq (by omega),by omega,by simp; omega⟩
 ·have:i=0:=by omega
  subst this;exact ⟨b1 (by decide),by show 1<=1000; decide,Uj bq (by omega),show q.length<=1000 by omega⟩
 ·show q=U5 [1] q;rw [Qoi pq.t (by omega)]
 ·rw [hsz]; exact c3
def crR (C:List (List Int)) (p:List Int) (lo hi t:Rat):Int :=
 if Fi lo hi=0 then Fi lo t else if Fi t lo<=0 then 1 else if 0<Fi t hi then -1 else if Hd C lo t=0 then 1 else if Fc p t=0 then 0 else -1
theorem Qxz {p:List Int} {C:List (List Int)} {lo hi:Rat} (V:Vt (cz p) (C.map cz) lo hi) (q:Rat):crR C p lo hi q=cq (cz p) lo hi q:=by
 have hl:=V.l;unfold crR;rw [if_neg (λh=>by have:=Df.1 h; grind)];rcases Classical.em (q<=lo) with h1 | h1
 ·rw [if_pos (Ip.2 h1),Be h1]
 rw [if_neg (λh=>h1 (Ip.1 h))];rcases Classical.em (hi<q) with h2 | h2
 ·rw [if_pos (Pn.2 h2),Ol hl h2]
 rw [if_neg (λh=>h2 (Pn.1 h))];have h1':lo<q:=Jx.1 h1;have h2':q<=hi:=Rat.not_lt.1 h2;rw [D7 (Qo h1'),Tu];rcases V.two h1' h2' with ⟨a,b,_⟩ | ⟨a,b,_⟩
 ·rw [if_pos (by rw [a]; omega),b]
 ·rw [if_neg (by have:=V.v; omega)];rw [Nc h1' h2',Un] at *
  split
  ·rfl
  ·rename_i h0;rw [if_neg h0] at b
   split at b
   ·exact absurd rfl b
   ·rename_i hne; rw [if_neg hne]
theorem Qqd {p:List Int} {C:List (List Int)} (x q:Rat):crR C p x x q=Fi x q:=by
 unfold crR;rw [if_pos (Df.2 rfl)]
theorem Zgx {t:Tm} {L:List (List Rat)} {D M k:Nat} {lo hi:Rat} (hu:Hv t D M k ⟨t.p,lo,hi⟩) (V:Vt (cz t.p) L lo hi) :
 (cq (cz t.p) lo hi (Om lo hi)<=0->Hv t D M (k+1) ⟨t.p,lo,Om lo hi⟩/\Vt (cz t.p) L lo (Om lo hi))/\(¬cq (cz t.p) lo hi (Om lo hi)<=0->Hv t D M (k+1) ⟨t.p,Om lo hi,hi⟩/\Vt (cz t.p) L (Om lo hi) hi):=by
 have hl:=V.l;have h2:(lo+hi) / 2*2=lo+hi:=Fl (by decide);have gm:Gr D M (k+1) (Om lo hi):=by rw [Qc9]; exact Qyj hu.l hu.h
 rw [Qc9] at *;generalize (lo+hi) / 2=m at *;have m1:lo<m:=by grind
 have m2:m<hi:=by grind
 have cut:∀ q,U0 ⟨t.p,lo,hi⟩ q=cq (cz t.p) lo hi q:=λq=>Tp (t:=⟨t.p,lo,hi⟩) hl q
 refine ⟨λh=>?_,λh=>?_⟩
 ·have hm:cq (cz t.p) lo hi m≠1:=λe=>by omega
  have V':Vt (cz t.p) L lo m:=⟨V.s,m1,by rw [V.eq_hi m1 (Qo m2) hm]; exact V.v⟩;refine ⟨⟨rfl,.inr ⟨L,V'⟩,λq=>?_,Qhs hu.l,gm⟩,V'⟩;rw [<-hu.c q,cut q];show U0 ⟨t.p,lo,m⟩ q=_;rw [Tp (t:=⟨t.p,lo,m⟩) m1 q];exact (V'.uniq V.cut (Be Qq) hm V.van q).symm
 ·have hm:cq (cz t.p) lo hi m=1:=by
   rcases V.cut.val m with e | e | e <;> omega
  have V':Vt (cz t.p) L m hi:=⟨V.s,m2,by rw [V.eq_lo m1 (Qo m2) hm]; exact V.v⟩;refine ⟨⟨rfl,.inr ⟨L,V'⟩,λq=>?_,gm,Qhs hu.h⟩,V'⟩;rw [<-hu.c q,cut q];show U0 ⟨t.p,m,hi⟩ q=_;rw [Tp (t:=⟨t.p,m,hi⟩) m2 q];exact (V'.uniq V.cut hm V.hi1 V.van q).symm
def p2 (k:Nat):Rat:=((2^k:Nat):Rat)
theorem Qll (a b:Nat):p2 (a+b)=p2 a*p2 b:=by unfold p2; rw [Nat.pow_add,Rat.natCast_mul]
theorem Qer {a b:Nat} (h:a<=b):p2 a<=p2 b:=Zd.2 (Zq (by decide) h)
theorem Qoo (k:Nat):0<=p2 k:=Xp
theorem Qes (k:Nat):p2 (k+1)=p2 k+p2 k:=by have:=Qow k; unfold p2; rw [this]; grind
theorem Zbd (k:Nat):1<=p2 k:=Qer (Qh k)
theorem Q1z {S m:Nat} {R:Rat} (h0:0≤R) (hR:R≤p2 m):∀ {p:List Rat},(∀ a∈p,Uu a≤p2 S)->evB R p≤p2 (S+(m+1)*p.length)
 | [],_=>Qoo _
 |
  a::p,h=>by
  have ih:=Q1z h0 hR (p:=p) (λx hx=>h x (Qj _ hx));have h1:=h a (Qr ..);have h2:=Pd h0 hR (Iv h0 p) ih;rw [<-Qll] at h2;have e:S+(m+1)*(a::p).length=(m+(S+(m+1)*p.length))+1:=by rw [Q6,Kj]; omega
  rw [e,Qes];have h3:=Qer (show S<=m+(S+(m+1)*p.length) by omega);simp only [evB]; grind
theorem Q1s {S m:Nat} {R:Rat} (h0:0≤R) (hR:R≤p2 m):∀ {p:List Rat},(∀ a∈p,Uu a≤p2 S)->dqB R p≤p2 (S+(m+1)*p.length)
 | [],_=>Qoo _
 |
  a::p,h=>by
  have hp:=λx hx=>h x (Qj a hx)
  have ih:=Q1s h0 hR (p:=p) hp;have h1:=Q1z h0 hR (p:=p) hp;have h2:=Pd h0 hR (S8 h0 p) ih;rw [<-Qll] at h2;have e:S+(m+1)*(a::p).length=(m+(S+(m+1)*p.length))+1:=by rw [Q6,Kj]; omega
  rw [e,Qes];have h3:=Qer (show S+(m+1)*p.length<=m+(S+(m+1)*p.length) by omega);simp only [dqB]; grind
theorem Zk8 {S:Nat} {p:List Int} (h:Bd S p):∀ a∈cz p,Uu a≤p2 S:=λa ha=>by
 obtain ⟨z,hz,rfl⟩:=Za.1 ha;have h1:=Qc5 (q:=(z:Rat));rw [Rat.num_intCast] at h1;exact Zc h1 (Qer (h z hz))
theorem Q28 {D:Rat} {b:Nat} (h0:0<=D) (h:D<=p2 b):∀ n:Nat,D^n<=p2 (b*n)/\0<=D^n
 | 0=>by rw [Xg]; exact ⟨Zbd _,by decide⟩
 |
  n+1=>by
  obtain ⟨h1,h2⟩:=Q28 h0 h n;rw [Xb,Kj,Qll];exact ⟨Pd h2 h1 h0 h,Pz h2 h0⟩
theorem Zhe {p:List Int} {n b:Nat} (hl:p.length=n+1) {q:Rat} (hb:Uv (q.den:Int)<=b) (h:Up p q≠0):1<=Uu (Up p q)*p2 (b*n):=by
 have hd0:(0:Rat)<((q.den:Int):Rat):=by
  have := @Rat.intCast_lt_intCast 0 (q.den:Int);rw [show ((0:Int):Rat)=0 from rfl] at this;exact this.2 (den_pos q)
 have hd:((q.den:Int):Rat)≠0:=by intro h; rw [h] at hd0; exact absurd hd0 (by decide)
 obtain ⟨_,hv⟩:=Qsn p q.num q.den hd p.length (Qm _);rw [Yl,Xs,Gs,Zs] at hv;have hD:((q.den:Int):Rat)<=p2 b:=by
  have h1:=Rr.1 hb;rw [Z9] at h1;exact Zd.2 (Jz h1)
 generalize (Pj p q.num (q.den:Int) p.length).1=Z at hv;generalize ((q.den:Int):Rat)=D at *;rw [hl,Xb] at hv;have hZ:(Z:Rat)=D^n*Up p q:=by
  have:((Z:Rat)-D^n*Up p q)*D=0:=by grind
  rcases Jw.1 this with h' | h'
  ·grind
  ·exact absurd h' hd
 obtain ⟨k1,k2⟩:=Q28 (Qo hd0) hD n;have hp0:=Qrq hd0 n;have hz0:Z≠0:=λe=>by
  rw [e] at hZ;rcases Jw.1 hZ.symm with h' | h'
  ·rw [h'] at hp0; exact absurd hp0 (by decide)
  ·exact h h'
 have h1:=I8 hz0;rw [hZ,Dn] at h1;have h2:Uu (D^n)=D^n:=by unfold Uu; rw [if_neg (by grind)]
 rw [h2] at h1;have:=Q5 k1 (Gx (Up p q));grind
theorem Zgf {p:List Int} {L:List (List Rat)} {lo hi r:Rat} (V:Vt (cz p) L lo hi) {n b m S:Nat} (hl:p.length=n+1) (hS:Bd S p) (h1:Uu r<=p2 m) (h2:Uu hi<=p2 m) (hr:lo<r) (hc:cq (cz p) lo hi r=1) (hb:Uv (r.den:Int)<=b):1<=(hi-r)*p2 (S+(m+1)*(n+1)+b*n):=by
 have hrh:r<hi:=by
  rcases V8.1 (show r<=hi from by
   rcases U9 r hi with e | e
   ·exact e
   ·rw [Ol V.l e] at hc; exact absurd hc (by decide)) with e | e
  ·exact e
  ·rw [e] at hc; exact absurd hc V.hi1
 have s1:Uz (ev (cz p) r)=Tw (cz p) lo:=by
  rcases V.two hr (Qo hrh) with ⟨_,_,c⟩ | ⟨_,c,_⟩
  ·exact c
  ·exact absurd hc c
 have s0:=V.lowlo;have s2:Uz (ev (cz p) hi)≠Tw (cz p) lo:=λe=>by
  refine V.hi1 ?_;rw [Nc V.l Qq,if_neg (by rw [e]; exact s0),if_pos e]
 have hne:ev (cz p) r≠0:=λe=>s0 (by rw [<-s1]; exact Fq.2 e)
 have hd:Uu (ev (cz p) r)<=Uu (ev (cz p) hi-ev (cz p) r):=by
  rw [<-s1] at s2;unfold Uz at s2;unfold Uu;generalize ev (cz p) r=x at *;generalize ev (cz p) hi=y at *
  repeat' split
  all_goals (repeat' split at s2)
  all_goals grind
 have h3:=Q9p (R:=p2 m) h2 h1 (cz p);have h4:=Q1s (S:=S) (Qoo m) (Qq (a:=p2 m)) (Zk8 hS);have hcl:(cz p).length=n+1:=by unfold cz; rw [List.length_map,hl]
 rw [hcl] at h4;have h5:=Zhe hl hb (by rw [<-Un]; exact hne);rw [<-Un] at h5;have hq:Uu (hi-r)=hi-r:=by unfold Uu; rw [if_neg (by grind)]
 rw [hq] at h3;have h6:Uu (ev (cz p) r)<=(hi-r)*p2 (S+(m+1)*(n+1)):=Zc (Zc hd h3) (by
  have:=Zp h4 (show 0<=hi-r by grind);exact this)
 have h7:=Q5 h6 (Qoo (b*n));rw [Qll];grind
theorem Zly {β:Type} {Bc:Tm->List Ct} {Br:Tm->β} {c:Cr} {r:β} (hS:KSt Bc Br c r):∃ ws o,Bj c.now c.l=some ws/\Qlj ws=some o/\KSt Bc Br { c with l:=ws } r/\match o with
 | none=>∀ x∈Bc c.now,Tq x.p c.now none
 | some a=>Va a/\Pw c.now a/\(∃ x∈Bc c.now,Tq x.p c.now (some a)/\a∈tms x.p)/\∀ x∈Bc c.now,∃ o',Tq x.p c.now o'/\∀ u,o'=some u->¬Pw u a:=by
 obtain ⟨⟨ok,kk⟩,hcs,hr⟩:=hS;obtain ⟨ws,w1,w2,w3⟩:=Qq6 ok.n ok.l kk;have ok':=Qbr ok w1;rw [hcs] at w2;have hc_w:∀ x∈Bc c.now,∃ w∈ws,w.c=x:=λx hx=>by
  have:x∈ws.map (·.c):=by rw [w2]; exact D3.2 hx
  exact Za.1 this
 have hw_c:∀ w∈ws,w.c∈Bc c.now:=λw hw=>D3.1 (by rw [<-w2]; exact List.mem_map_of_mem hw)
 obtain ⟨o,o1,o2⟩:=Qyy ok'.l;refine ⟨ws,o,w1,o1,⟨⟨ok',λw hw _=>(w3 w hw).2⟩,w2,hr⟩,?_⟩;cases o with
 | none =>
  intro x hx;obtain ⟨w,hw,rfl⟩:=hc_w x hx;have:=(w3 w hw).2.1;rw [o2 w hw] at this;exact this
 |
  some a =>
  obtain ⟨va,⟨w,hw,hwa⟩,hmin⟩:=o2;have k:=(w3 w hw).2.1;rw [hwa] at k;exact ⟨va,k.2.2.1,⟨w.c,hw_c w hw,k,(w3 w hw).2.2 a hwa⟩,λx hx=>by
   obtain ⟨v,hv,rfl⟩:=hc_w x hx;exact ⟨v.fails,(w3 v hv).2.1,λu hu=>hmin v hv u hu⟩⟩
theorem Qyb {Bc:Tm->List Ct} {now a:Tm} (hn:Va now) (ha:Va a) (hmin:∀ x∈Bc now,∃ o',Tq x.p now o'/\∀ u,o'=some u->¬Pw u a) {t:Rat} (ht:Va (tq t)) (hta:U0 a t=1) {E:List Tm} (h:Evs Bc t now E):E=[]:=by
 cases h with
 | nil=>rfl
 |
  cons he h1 h2 h3 h4 h5 =>
  exfalso;obtain ⟨x,hx,hxe⟩:=h4;obtain ⟨o',ho,hu⟩:=hmin x hx;cases o' with
  | none=>exact Qu3 hn hxe ho
  |
   some u =>
   have e:=Za9 hn hxe ho;exact hu u rfl ((Zdi e).1 (Zoo he.cut ht.cut h2 ((O5 ha.cut).1 (by omega))))
theorem Q9r {Bc:Tm->List Ct} {now a:Tm} (hn:Va now) (ha:Va a) (hx:∃ x∈Bc now,Tq x.p now (some a)) {t:Rat} (hta:U0 a t≠1) {E:List Tm} (h:Evs Bc t now E):E≠[]:=by
 rintro rfl
 cases h with
 |
  nil h =>
  obtain ⟨x,hx,hxa⟩:=hx;obtain ⟨o',ho,hu⟩:=h x hx;cases o' with
  | none=>exact Qu3 hn hxa ho
  |
   some u =>
   have e:=Za9 hn hxa ho;have h1:=(O5 ha.cut).2 ((Zil e).2 (hu u rfl));rcases ha.cut.val t with h2 | h2 | h2 <;> omega
theorem Qqn {β:Type} {Bc:Tm->List Ct} {Br:Tm->β} (S:Stab Bc Br) {now:Tm} (hn:Va now) {t:Rat} (ht:Va (tq t)) (hnow:¬Pw (tq t) now) (h:Evs Bc t now []):Bc (tq t)=Bc now/\Br (tq t)=Br now:=by
 cases h with
 |
  nil h =>
  refine S.st _ _ hn ht λx hx=>?_
  obtain ⟨o,ho,hu⟩:=h x hx;exact Qgh (S.ok.p _ hn _ hx).dp hn ht hnow ho hu
structure LwS (t:Tm) (L:List (List Rat)) (D M k0 w0 j:Nat) (lo hi:Rat):Prop where
 hv:Hv t D M (k0+j) ⟨t.p,lo,hi⟩
 v:Vt (cz t.p) L lo hi
 w:(hi-lo)*p2 j<=p2 w0
theorem LwS.next {t:Tm} {L:List (List Rat)} {D M k0 w0 j:Nat} {lo hi:Rat} (h:LwS t L D M k0 w0 j lo hi) :
 (cq (cz t.p) lo hi (Om lo hi)<=0->LwS t L D M k0 w0 (j+1) lo (Om lo hi))/\(¬cq (cz t.p) lo hi (Om lo hi)<=0->LwS t L D M k0 w0 (j+1) (Om lo hi) hi):=by
 obtain ⟨s1,s2⟩:=Zgx h.hv h.v;have h2:(lo+hi) / 2*2=lo+hi:=Fl (by decide);have e:=Qc9 lo hi;have hw:=h.w;have hj:=Qes j;refine ⟨λhc=>?_,λhc=>?_⟩
 ·obtain ⟨a,b⟩:=s1 hc;refine ⟨a,b,?_⟩;rw [e,hj];generalize (lo+hi) / 2=m at *;have:(m-lo)*(p2 j+p2 j)=(hi-lo)*p2 j:=by
   have:m+m=lo+hi:=by grind
   have:(m-lo)*(p2 j+p2 j)=(m+m-lo-lo)*p2 j:=by grind
   rw [this,‹m+m=lo+hi›]; grind
  rw [this]; exact hw
 ·obtain ⟨a,b⟩:=s2 hc;refine ⟨a,b,?_⟩;rw [e,hj];generalize (lo+hi) / 2=m at *;have:(hi-m)*(p2 j+p2 j)=(hi-lo)*p2 j:=by
   have:m+m=lo+hi:=by grind
   have:(hi-m)*(p2 j+p2 j)=(hi+hi-(m+m))*p2 j:=by grind
   rw [this,‹m+m=lo+hi›]; grind
  rw [this]; exact hw
theorem Qqt {D M k s:Nat} {x:Rat} (h:Gr D M k x) (hs:Uv (M:Int)<=s):Uu x<=p2 s:=by
 refine Zc h.b ?_;have h1:=Rr.1 hs;rw [Z9] at h1;exact Zd.2 (Jz h1)
theorem LwS.few {t:Tm} {L:List (List Rat)} {D M k0 w0 j:Nat} {lo hi:Rat} (h:LwS t L D M k0 w0 j lo hi) {n S m b:Nat} (hl:t.p.length=n+1) (hS:Bd S t.p) (hM:Uv (M:Int)<=m) {r:Rat} (hb:Uv (r.den:Int)<=b) (hr:lo<r) (hc:U0 t r=1):j<=w0+(S+(m+1)*(n+1)+b*n):=by
 have hcq:cq (cz t.p) lo hi r=1:=by
  rw [<-Tp (t:=⟨t.p,lo,hi⟩) h.v.l r,h.hv.c]; exact hc
 have q1:=Qqt h.hv.l hM;have q2:=Qqt h.hv.h hM;have hrh:r<=hi:=by
  rcases U9 r hi with e | e
  ·exact e
  ·rw [Ol h.v.l e] at hcq; exact absurd hcq (by decide)
 have q3:Uu r<=p2 m:=by
  have a1:=Rx.1 q1;have a2:=Rx.1 q2;rw [Rx];constructor
  ·exact Zc a1.1 (Qo hr)
  ·exact Zc hrh a2.2
 have hg:=Zgf h.v hl hS q3 q2 hr hcq hb;obtain ⟨G,hG⟩:=nmE (S+(m+1)*(n+1)+b*n);rw [<-hG] at hg ⊢;rcases Zb (w0+G) j with hj | hj
 ·exfalso;have h1:=Qer (show w0+G+1<=j from hj);rw [Qes,Qll] at h1;have hw:=h.w;have hlo:0<hi-lo:=by have:=h.v.l; grind
  have h2:(hi-r)*p2 G<=(hi-lo)*p2 G:=Q5 (by grind) (Qoo G);have h3:=Zp h1 (Qo hlo);have h4:1<=(hi-lo)*p2 G:=Zc hg h2;have h5:=Q5 h4 (Qoo w0);have h6:=Zbd w0;have e1:(hi-lo)*(p2 w0*p2 G+p2 w0*p2 G)=(hi-lo)*p2 G*p2 w0+(hi-lo)*p2 G*p2 w0:=by grind
  rw [e1] at h3;grind
 ·exact hj
theorem Qyq {a b c:Crv} (ha:Nml a/\Cs 10 3 a) (hb:Nml b/\Cs 10 3 b) (hc:Nml c/\Cs 10 3 c):Bd 86 (Mj a b c)/\(Mj a b c).length<=5:=by
 have key:∀ k:Crv,Nml k/\Cs 10 3 k->(∀ p∈[k.x,k.y,[k.d]],Uo p/\Bd 10 p)/\∀ (j:Nat) (p:List Int),[k.x,k.y,[k.d]][j]? = some p->p.length≤[2,2,0].getD j 0+1:=λk hk=>by
  have hd:=hk.1.2.2.1;refine ⟨λp hp=>?_,λj p hp=>?_⟩
  ·simp only [Qp,Jq,or_false] at hp;rcases hp with rfl | rfl | rfl
   ·exact ⟨hk.1.1,hk.2.x⟩
   ·exact ⟨hk.1.2.1,hk.2.y⟩
   ·exact ⟨by unfold Uo; simp [trim]; omega,λz hz=>by simp at hz; subst hz; exact hk.2.d⟩
  ·match j,hp with
   | 0,hp=>injection hp with hp; subst hp; exact hk.2.lx
   | 1,hp=>injection hp with hp; subst hp; exact hk.2.ly
   | 2,hp=>injection hp with hp; subst hp; exact Qm _
   | j+3,hp=>simp at hp
 have h3:∀ r∈Nl a b c,r=[a.x,a.y,[a.d]]\/r=[b.x,b.y,[b.d]]\/r=[c.x,c.y,[c.d]]:=λr hr=>by simpa [Nl] using hr
 have all:∀ r∈Nl a b c,r.length=3/\(∀ p∈r,Uo p/\Bd 10 p)/\∀ (j:Nat) (p:List Int),r[j]? = some p->p.length≤[2,2,0].getD j 0+1:=λr hr=>by
  rcases h3 r hr with rfl | rfl | rfl
  ·exact ⟨rfl,key a ha⟩
  ·exact ⟨rfl,key b hb⟩
  ·exact ⟨rfl,key c hc⟩
 have sq:Sq 10 [2,2,0] 3 3 (Nl a b c):=⟨rfl,λr hr=>(all r hr).1,λr hr p hp=>((all r hr).2.1 p hp).1,λr hr p hp=>((all r hr).2.1 p hp).2,λr hr=>(all r hr).2.2⟩;obtain ⟨_,h1,h2⟩:=Qbu 3 [2,2,0] (Nl a b c) (by decide) rfl (by decide) sq;exact ⟨Uj h1 (by decide),h2⟩
theorem Zmi (q:Rat) (p:List Int):Pi (tq q) p=Fc p q:=by
 unfold Pi Qcl
 split
 ·rename_i h; rw [List.eq_nil_of_length_eq_zero h]; rfl
 ·rw [if_pos (Tt.2 (Qq (a:=q)))]; rfl
theorem Zaa (q:Rat) (p:List Int):Mp (Pi (tq q)) p=Qc2 p q:=by
 have:Pi (tq q)=λp=>Fc p q:=funext (Zmi q)
 rw [this]; rfl
theorem Qzr {b a r:List Int} {k:Nat} (h:RRun b k a r):r.length<b.length:=by
 induction h with
 | stop h=>exact h
 | step _ _ _ _ _ ih=>exact ih
theorem Qx0 {k:Nat} {l f:List (List Int)} {g:List Int} (h:CRun k l g f):(∀ p∈l,Bd 9000000 p/\p.length≤64)->g.length≤64->∀ p∈f,Bd 9000000 p/\p.length≤64:=by
 induction h with
 | stop _=>exact λh _=>h
 |
  step h1 h2 h3 h4 h5 h6 h7 h8 h9 _ ih =>
  intro hl hg;refine ih (λp hp=>?_) ?_
  ·rcases Qw.1 hp with hp | hp
   ·exact hl p hp
   ·rw [Ql.1 hp]; exact ⟨h3,hg⟩
  ·have:=Qzr h4;exact Qc (Nj _) (Qc (I6 _) (by omega))
theorem Qth {p:List Int} {C:List (List Int)} (h:ChRun p p C) (hl:p.length≤60):∀ x∈C,Bd 9000000 x/\x.length≤64:=by
 obtain ⟨n,hn⟩:=h.chain;refine Qx0 hn (λx hx=>?_) ?_
 ·rw [Ql.1 hx]; exact ⟨Uj h.bd (by decide),by omega⟩
 ·refine Qc (I6 _) ?_;have:=Tr p; omega
def bq (n:Nat):Nat->Nat
 | 0=>100
 | i+1=>21431+n*bq n i
structure HI (a:Tm) (L:List (List Rat)) (j:Nat) (lo hi:Rat):Prop where
 w:∃ D M k0,LwS a L D M k0 273 j lo hi/\0<M/\Uv (D:Int)<=271/\Uv (M:Int)<=272/\k0<=17886
structure HX (a:Tm) (C:List (List Int)) (q:Rat) (b j:Nat) (lo hi:Rat):Prop where
 ql:Qs b lo
 qh:Qs b hi
 c:lo=hi/\q<lo/\U0 a hi=0\/HI a (C.map cz) j lo hi
theorem HI.qs {a:Tm} {L:List (List Rat)} {j:Nat} {lo hi:Rat} (h:HI a L j lo hi) {b:Nat} (hb:18429+j<=b):Qs b lo/\Qs b hi:=by
 obtain ⟨D,M,k0,hw,hM,h1,h2,h3⟩:=h.w;exact ⟨Qhr hw.hv.l hM (by omega),Qhr hw.hv.h hM (by omega)⟩
theorem HI.cq {a:Tm} {L:List (List Rat)} {j:Nat} {lo hi:Rat} (h:HI a L j lo hi) (q:Rat):Orq.cq (cz a.p) lo hi q=U0 a q:=by
 obtain ⟨D,M,k0,hw,_⟩:=h.w;rw [<-Tp (t:=⟨a.p,lo,hi⟩) hw.v.l q]; exact hw.hv.c q
theorem HI.lt {a:Tm} {L:List (List Rat)} {j:Nat} {lo hi:Rat} (h:HI a L j lo hi):lo<hi:=by
 obtain ⟨D,M,k0,hw,_⟩:=h.w;exact hw.v.l
theorem HI.few {a:Tm} {L:List (List Rat)} {j:Nat} {lo hi:Rat} (h:HI a L j lo hi) {n b:Nat} (hn:a.p.length<=n+1) (h2:2<=a.p.length) (n8:n<=8) (hS:Bd 271 a.p) {r:Rat} (hb:Qs b r) (hr:lo<r) (hc:U0 a r=1):j<=3001+n*b:=by
 obtain ⟨D,M,k0,hw,hM,h1,hM2,h3⟩:=h.w;have h5:=hw.few (n:=a.p.length-1) (by omega) hS hM2 (b:=b) hb.2 hr hc;have h6:b*(a.p.length-1)<=n*b:=by rw [Zi]; exact Qy _ (by omega)
 have h7:(272+1)*(a.p.length-1+1)<=(272+1)*9:=Zj _ (by omega);omega
structure HA (a:Tm) (n:Nat) (C:List (List Int)):Prop where
 va:Va a
 pt:a.point=false
 n:a.p.length<=n+1
 b:Bd 271 a.p
 ch:ChRun a.p a.p C
 pr:Gn a.p=a.p
 i:HI a (C.map cz) 0 a.lo a.hi
theorem Zod {a:Tm} (va:Va a) (hp:a.point=false) {n:Nat} (hz:Sz 133 (n+1) a) (n8:n<=8):∃ C,HA a n C:=by
 obtain ⟨l,P,g,h1,sq,V⟩:=va.sc hp;have hb:Bd 271 a.p:=hz.b;have hch:=Q80 sq va.n2 va.n hb (by decide) h1;obtain ⟨D,M,k,g1,g2,g3,g4,g5,g6⟩:=hz.g;refine ⟨a.p::l,va,hp,hz.n,hb,hch,by rw [Ty]; exact Qvp sq.pq,⟨D,M,k,⟨⟨rfl,.inr ⟨_,V⟩,λ_=>rfl,g1,g2⟩,V,?_⟩,g3,g4,g5,by omega⟩⟩;have q1:=Rx.1 (Qqt g1 g5);have q2:=Rx.1 (Qqt g2 g5);have e:p2 273=p2 272+p2 272:=Qes 272;have e0:p2 0=1:=rfl;rw [e,e0];grind
def xlo (a:Tm):Rat:=if Fc a.p a.hi=0 then a.hi else a.lo
theorem HA.start {a:Tm} {n:Nat} {C:List (List Int)} (h:HA a n C) {q:Rat} {b:Nat} (hq:U0 a q=1) (hb:18429<=b):HX a C q b 0 (xlo a) a.hi:=by
 obtain ⟨q1,q2⟩:=h.i.qs (b:=b) (by omega);unfold xlo
 split
 ·rename_i h0;refine ⟨q2,q2,.inl ⟨rfl,?_,?_⟩⟩
  ·refine Jx.1 λhle=>?_
   have hc:=h.va.cut;have h1:U0 a a.hi=0:=?_
   ·rcases V8.1 hle with h2 | h2
    ·have:=hc.mono' h2 (by omega); omega
    ·rw [h2] at h1; omega
   rw [<-h.i.cq,Nc h.i.lt Qq,if_pos (by rw [Un,<-Tu]; exact h0)]
  ·rw [<-h.i.cq,Nc h.i.lt Qq,if_pos (by rw [Un,<-Tu]; exact h0)]
 ·exact ⟨q1,q2,.inr h.i⟩
theorem HX.cmp {a:Tm} {C:List (List Int)} {q:Rat} {b j:Nat} {lo hi:Rat} (h:HX a C q b j lo hi) (hp:HI a (C.map cz) 0 a.lo a.hi) (hq:U0 a q=1):crR C a.p lo hi q=1:=by
 rcases h.c with ⟨rfl,h1,_⟩ | h1
 ·rw [Qqd];rcases Ta lo q with ⟨e,e'⟩ | ⟨e,e'⟩ | ⟨e,e'⟩ <;> grind
 ·obtain ⟨D,M,k0,hw,_⟩:=h1.w;rw [Qxz hw.v,h1.cq,hq]
theorem HX.next {a:Tm} {n:Nat} {C:List (List Int)} (ha:HA a n C) (n8:n<=8) {q:Rat} {b0 j:Nat} {lo hi:Rat} (h:HX a C q (21431+n*b0) j lo hi) (hb:Qs b0 q) (hq:U0 a q=1) (hlo:lo<q) :
 lo<hi/\j<=3001+n*b0/\(crR C a.p lo hi (Om lo hi)<=0->HX a C q (21431+n*b0) (j+1) lo (Om lo hi))/\(¬crR C a.p lo hi (Om lo hi)<=0->HX a C q (21431+n*b0) (j+1) (Om lo hi) hi):=by
 rcases h.c with ⟨_,h1,_⟩ | h1
 ·grind
 ·have hj:=h1.few ha.n ha.va.n2 n8 ha.b hb hlo hq;obtain ⟨D,M,k0,hw,g1,g2,g3,g4⟩:=h1.w;obtain ⟨s1,s2⟩:=hw.next;refine ⟨h1.lt,hj,λhc=>?_,λhc=>?_⟩
  ·rw [Qxz hw.v] at hc;have hi':HI a (C.map cz) (j+1) lo (Om lo hi):=⟨D,M,k0,s1 hc,g1,g2,g3,g4⟩;obtain ⟨q1,q2⟩:=hi'.qs (b:=21431+n*b0) (by omega);exact ⟨q1,q2,.inr hi'⟩
  ·rw [Qxz hw.v] at hc;have hi':HI a (C.map cz) (j+1) (Om lo hi) hi:=⟨D,M,k0,s2 hc,g1,g2,g3,g4⟩;obtain ⟨q1,q2⟩:=hi'.qs (b:=21431+n*b0) (by omega);exact ⟨q1,q2,.inr hi'⟩
theorem HX.fin {a:Tm} {C:List (List Int)} {q:Rat} {b j:Nat} {lo hi:Rat} (ha:Va a) (h:HX a C q b j lo hi):(lo≠hi->U0 a lo=1)/\U0 a hi≠1/\lo<=hi:=by
 rcases h.c with ⟨h1,h2,h3⟩ | h1
 ·exact ⟨λh=>absurd h1 h,by omega,by rw [h1]; exact Qq⟩
 ·obtain ⟨D,M,k0,hw,_⟩:=h1.w;refine ⟨λ_=>by rw [<-h1.cq]; exact Be Qq,by rw [<-h1.cq]; exact hw.v.hi1,Qo h1.lt⟩
theorem Zoe {p:List Int} (h:Cp p) {n:Nat} (n8:n<=8) (hb:Bd 133 p) (hn:p.length<=n+1) {a:Tm} (ha:Va a) (ht:a∈tms p):∃ C,HA a n C:=by
 unfold tms at ht;cases hl:E9 p with
 | none=>rw [hl] at ht; cases ht
 |
  some l =>
  rw [hl] at ht;obtain ⟨h1,h2⟩:=Zdn h (s:=133) (by decide) hb hl a ht;exact Zod ha h1 (n:=n) ⟨Qc h2.n hn,h2.b,h2.g⟩ n8
theorem Zi3 {n:Nat} (h:n<=8):∀ i,i<=3->bq n i<=1640000/\(i<3->bq n (i+1)<=1640000):=by
 have key:∀ i,bq n i<=bq 8 i:=λi=>by
  induction i with
  | zero=>exact Qm _
  | succ i ih=>exact Nat.add_le_add_left (Zx h ih) _
 have k1:=key 1; have k2:=key 2; have k3:=key 3;have e1:bq 8 1=22231:=rfl;have e2:bq 8 2=199279:=rfl;have e3:bq 8 3=1615663:=rfl;intro i hi
 match i,hi with
 | 0,_=>exact ⟨by show 100<=_; decide,λ_=>by show bq n 1<=_; omega⟩
 | 1,_=>exact ⟨by omega,λ_=>by show bq n 2<=_; omega⟩
 | 2,_=>exact ⟨by omega,λ_=>by show bq n 3<=_; omega⟩
 | 3,_=>exact ⟨by omega,λh=>by omega⟩
end Orq
namespace Orr
open Go Orq
theorem Zar {a b c d:Crv} (ha:Nml a/\Cs 10 3 a) (hb:Nml b/\Cs 10 3 b) (hc:Nml c/\Cs 10 3 c) (hd:Nml d/\Cs 10 3 d):Bd 133 (Oq a b c d)/\(Oq a b c d).length<=9:=by
 obtain ⟨_,h2,h3⟩:=Qbu 4 [2,2,4,0] (Qnj a b c d) (by decide) rfl (by decide) (Qmb (s:=10) ha.1 hb.1 hc.1 hd.1 ha.2 hb.2 hc.2 hd.2);exact ⟨Uj h2 (by decide),Qc h3 (by decide)⟩
theorem Zek {l:List Pt} (hl:∀ p∈l,Nml p.c/\Cs 10 3 p.c) {a:Tm}:∀ x∈bcD l a,Bd 133 x.p/\x.p.length≤9/\x.want=Mp (Pi a) x.p:=λx hx=>by
 have hw:∀ p∈Ds l,Nml p.c/\Cs 10 3 p.c:=λp hp=>hl p (Qfn hp)
 rcases Qw.1 hx with hx | hx
 ·obtain ⟨m,hm,rfl⟩:=Za.1 hx;obtain ⟨h1,h2,h3⟩:=Qfh _ _ m hm;have h:=Qyq (hw _ h1) (hw _ h2) (hw _ h3);exact ⟨Uj h.1 (by decide),Qc h.2 (by decide),rfl⟩
 ·obtain ⟨m,hm,rfl⟩:=Za.1 hx;obtain ⟨h1,h2,h3,h4⟩:=Ql1 _ _ m hm;have h:=Zar (hw _ h1) (hw _ h2) (hw _ h3) (hw _ h4);exact ⟨h.1,h.2,rfl⟩
end Orr
namespace Orr
open Go Go.Proofs Orq
set_option maxRecDepth 10000
def evF (a:Tm) (w:Wt):Option (List LV):=match w.fails with
 | none=>none
 | some t=>if Qie t a=some 0 then some ([.int .i64 w.c.kind,.int .i64 w.c.i0,.int .i64 w.c.i1,.int .i64 w.c.i2,.int .i64 w.c.i3]++ta t) else none
theorem Q9o {a:Tm} {ws:List Wt} {i:Nat} {w:Wt} (h:ws[i]? = some w):(ws.take (i+1)).filterMap (evF a)=(ws.take i).filterMap (evF a)++(evF a w).toList:=by
 rw [Zw,h,List.filterMap_append];show _++List.filterMap (evF a) [w]=_;cases hw:evF a w <;> simp [hw]
theorem Q7i {T:Nat} {c:Cr} {r0 r1:List (List LV)} {ws:List Wt} {a:Tm} (hc:CrOk c) (h:Bj c.now c.l=some ws) (hr:Qlj ws=some (some a)) (va:Va a):Ht Tryz.prog 31 [.one (.ow 0 0)] [.blk T (M3 c r0 r1)] [.one (.row (ws.filterMap (evF a)))] [.blk T (M3 { c with l:=ws } r0 r1)]:=by
 have cn:=Qpw (T:=T) (r0:=r0) (r1:=r1) hc h hr;have hc':=Qbr hc h;have hk:=hc'.k;have hw:=Nx ws;refine Gm Tryz.func31 rfl ?_;refine go tt [.c [0] cn,.f rfl,.o 5 157 14] rfl trivial ?_;refine lp (S:=Nat) 3 (λL1 i=>(22,.v (.one (.int .i64 (i:Int))))::(5,.v (.one (.orow 2 14 none)))::L1) (λi=>[.blk T (M3 { c with l:=ws } r0 r1),.blk 79 (ta a),.row false 157 14 ((ws.take i).filterMap (evF a))]) (λi=>ws.length-i) (λi=>i<=ws.length) 0 (Qh _) rfl (λ_ _=>rfl) rfl λi hi=>?_
 by_cases hlt:i<ws.length
 ·obtain ⟨w,hx⟩:=gxE (l:=ws) (i:=i) hlt;have hl:decide ((i:Int)<((Og ws).length:Int))=true:=by simp [hw]; omega
  have hfl:((ws.take i).filterMap (evF a)).length<=i:=Qc (Kg _ _) (by rw [Qx]; omega);have hg:=Q9o (a:=a) hx;have hvb:=(hc'.l w (Qa hx)).f;obtain ⟨wc,wk,wf⟩:=w;have hk:ws.length<=1000:=hk;cases wf with
  |
   none =>
   refine go tt [.t hl,.x (Ti hx),.g 28 false rfl,.f rfl] rfl (by simp [Ui]; omega) ?_;exact rd (i+1) (by omega) hlt (by rw [hg]; simp [evF]; rfl)
  |
   some t =>
   have vt:=hvb t rfl;obtain ⟨r,r1',_⟩:=Qbi vt va;have cc:=Qjw vt.tb va.tb r1';by_cases D:r=0
   ·have he:evF a ⟨wc,wk,some t⟩=some ([.int .i64 wc.kind,.int .i64 wc.i0,.int .i64 wc.i1,.int .i64 wc.i2,.int .i64 wc.i3]++ta t):=if_pos (by rw [r1',D]);have cl:=Af (b:=t) (l:=[]) vt.tb (λt ht=>by cases ht) (by decide) rfl;refine go tt [.t hl,.x (Ti hx),.g 28 true rfl,.c [] cc,.t (decide_eq_true D),.c [] cl,.s (l:=[[.int .i64 wc.kind,.int .i64 wc.i0,.int .i64 wc.i1,.int .i64 wc.i2,.int .i64 wc.i3]++ta t]) (sz:=14) (λc hc=>by rw [Ql.1 hc]; rfl)] rfl (by simp [Ui]; omega) ?_;exact rd (i+1) (by omega) hlt (by rw [hg,he]; rfl)
   ·have he:evF a ⟨wc,wk,some t⟩=none:=if_neg (by rw [r1']; intro h; injection h with h; exact D h);refine go tt [.t hl,.x (Ti hx),.g 28 true rfl,.c [] cc,.f (decide_eq_false D)] rfl (by simp [Ui]; omega) ?_;exact rd (i+1) (by omega) hlt (by rw [hg,he]; simp; rfl)
 ·obtain rfl:i=ws.length:=by omega
  rw [Q4];exact ed tt [2] [0] [.f (by simp [hw])] rfl trivial
theorem Zge {ws:List Wt} {a:Tm} (va:Va a) {w:Wt} (hw:w∈ws) (hf:w.fails=some a):0<(ws.filterMap (evF a)).length:=by
 obtain ⟨r,h1,h2⟩:=Qbi va va;have h0:r=0:=by
  rcases h2 with ⟨_,h⟩ | ⟨e,_⟩ | ⟨_,h⟩
  ·exact absurd h λh=>Qak va.cut va.cut h h
  ·exact e
  ·exact absurd h λh=>Qak va.cut va.cut h h
 have he:evF a w=some ([.int .i64 w.c.kind,.int .i64 w.c.i0,.int .i64 w.c.i1,.int .i64 w.c.i2,.int .i64 w.c.i3]++ta a):=by
  unfold evF; rw [hf]; exact if_pos (by rw [h1,h0])
 obtain ⟨x,hx⟩:∃ x,x∈ws.filterMap (evF a):=⟨_,Jm.2 ⟨w,hw,he⟩⟩;exact List.length_pos_of_mem hx
theorem Qun {now:Tm}:∀ {ws:List Wt},(∀ w∈ws,w.known=true)->Bj now ws=some ws
 | [],_=>rfl
 |
  w::l,h=>by
  simp only [Bj];rw [if_pos (h w (Qr ..)),Qun λx hx=>h x (Qj _ hx)];rfl
theorem Quo {now:Tm} {l ws:List Wt} (h:Bj now l=some ws):∀ w∈ws,w.known=true:=λv hv=>by
 obtain ⟨h1,h2⟩:=Qbq h;obtain ⟨i,hi⟩:=Jb hv;have hil:i<l.length:=by rw [<-h1]; exact (Qd.1 hi).1
 obtain ⟨v',h3,h4⟩:=h2 i _ (Qe hil);rw [hi] at h3; injection h3 with h3; subst h3;rcases h4 with ⟨h5,rfl⟩ | ⟨_,r,_,rfl⟩
 ·exact h5
 ·rfl
end Orr
namespace Orq
open Orr Go
theorem Zcc {β:Type} {Bc:Tm->List Ct} {Br:Tm->β} {n:Nat} (n8:n≤8) (hsz:∀ a,∀ x∈Bc a,Bd 133 x.p/\x.p.length≤n+1/\x.want=Mp (Pi a) x.p) (S:Stab Bc Br) {c:Cr} {r:β} {q:Rat} (hS:KSt Bc Br c r) (hq:c.now=tq q) :
 ∃ ws o,Bj c.now c.l=some ws/\Qlj ws=some o/\Bj c.now ws=some ws/\KSt Bc Br { c with l:=ws } r/\∀ a,o=some a->Va a/\0<(ws.filterMap (evF a)).length/\U0 a q=1/\(∃ C,HA a n C)/\(∃ x∈Bc c.now,Tq x.p c.now (some a))/\∀ x∈Bc c.now,∃ o',Tq x.p c.now o'/\∀ u,o'=some u->¬Pw u a:=by
 obtain ⟨ws,o,h1,h2,h3,h4⟩:=Zly hS;refine ⟨ws,o,h1,h2,Qun (Quo h1),h3,λa ha=>?_⟩;subst ha;obtain ⟨va,hlt,⟨x,hx,hxn,hxt⟩,hmin⟩:=h4;obtain ⟨o',o1,o2⟩:=Qyy h3.inv.ok.l;rw [h2] at o1;injection o1 with o1; subst o1;obtain ⟨_,⟨w,hw,hwf⟩,_⟩:=o2;obtain ⟨k1,k2,_⟩:=hsz c.now x hx;have hcp:=S.ok.p _ hS.inv.ok.n _ hx;refine ⟨va,Zge va hw hwf,?_,Zoe hcp n8 k1 k2 va hxt,⟨x,hx,hxn⟩,hmin⟩;rw [hq] at hlt;have h5:=(O5 va.cut (t:=q)).2 hlt;rcases va.cut.val q with e | e | e <;> omega
theorem Zof {β:Type} {Bc:Tm->List Ct} {Br:Tm->β} {n:Nat} (hsz:∀ a,∀ x∈Bc a,Bd 133 x.p/\x.p.length≤n+1/\x.want=Mp (Pi a) x.p) {c:Cr} {r:β} {q:Rat} (hS:KSt Bc Br c r) (hq:c.now=tq q):∀ x∈G5 (c.l.map (·.c)),Bd 133 x.p/\x.p.length≤n+1/\Uo x.p/\Qc2 x.p q=x.want:=λx hx=>by
 have h1:=D3.1 hx;obtain ⟨w,hw,rfl⟩:=Za.1 h1;have h2:w.c∈G5 (Bc c.now):=by rw [<-hS.cs]; exact h1
 obtain ⟨k1,k2,k3⟩:=hsz _ _ (D3.1 h2);refine ⟨k1,k2,(hS.inv.ok.l w hw).p.t,?_⟩;rw [k3,hq,Zaa]
end Orq
namespace Orr
open Go Go.Proofs Orq
set_option maxRecDepth 10000
abbrev ax (p:List Int) (C:List (List Int)) (lo hi:Rat):List LV:=[rp (zp p),.row (zls C)]++fr lo++fr hi
theorem Quc {sg:List Int->Int} {l:List (List Int)} {i:Nat} {p:List Int} (h:l[i]? = some p):(idl (l.map sg))[i]? = some [.int .i64 (sg p)]:=Zgi (by rw [Q9,h]; rfl)
theorem Q8j {l:List (List Int)} {sg:List Int->Int} (hl:l.length<=1000) (hs:∀ p,-1<=sg p/\sg p<=1):Uk Tryz.prog 184 [.one (.row (idl (l.map sg)))] [.one (.int .i64 (Me sg l:Nat))]:=by
 have hpl:(idl (l.map sg)).length=l.length:=by simp
 refine Gm Tryz.func184 rfl ?_;refine go tt [] rfl trivial ?_;refine lp (S:=Nat) 0 (λL1 i=>(8,.v (.one (.int .i64 (i:Int))))::(3,.v (.one (.int .i64 ((D6 sg l i).1:Int))))::(4,.v (.one (.int .i64 (D6 sg l i).2)))::L1) (λ_=>[]) (λi=>l.length-i) (λi=>i<=l.length) 0 (Qh _) rfl (λ_ _=>rfl) rfl λi hi=>?_
 by_cases hlt:i<l.length
 ·obtain ⟨p,hp⟩:=gxE (l:=l) (i:=i) hlt;have hst:D6 sg l (i+1)=Hz sg (D6 sg l i) p:=Hh _ _ _ hp;obtain ⟨b1,b2,b3⟩:=Qmk hs l i;have b4:=hs p;have hx:=Quc (sg:=sg) hp;have ht:decide ((i:Int)<((idl (l.map sg)).length:Int))=true:=decide_eq_true (by omega);by_cases h0:sg p=0
  ·refine go tt [.t ht,.x hx,.f (by simpa using h0)] rfl (by simp [Ui]; omega) ?_;exact rd (i+1) (by omega) hlt (by rw [hst,show Hz sg (D6 sg l i) p=D6 sg l i from by unfold Hz; rw [if_pos h0]]; rfl)
  ·by_cases h2:(D6 sg l i).2=0
   ·refine go tt [.t ht,.x hx,.t (by simpa using h0),.g 18 false (by simp [h2]),.f rfl,.x hx] rfl (by simp [Ui]; omega) ?_;exact rd (i+1) (by omega) hlt (by rw [hst,show Hz sg (D6 sg l i) p=((D6 sg l i).1,sg p) from by unfold Hz; rw [if_neg h0,if_neg (by omega)]]; rfl)
   ·by_cases h1:(D6 sg l i).2=-(sg p)
    ·refine go tt [.t ht,.x hx,.t (by simpa using h0),.g 18 true (by simpa using h2),.x hx,.t (by simp; omega),.x hx] rfl (by simp [Ui]; omega) ?_;exact rd (i+1) (by omega) hlt (by rw [hst,show Hz sg (D6 sg l i) p=((D6 sg l i).1+1,sg p) from by unfold Hz; rw [if_neg h0,if_pos h1]]; rfl)
    ·refine go tt [.t ht,.x hx,.t (by simpa using h0),.g 18 true (by simpa using h2),.x hx,.f (by simp; omega),.x hx] rfl (by simp [Ui]; omega) ?_;exact rd (i+1) (by omega) hlt (by rw [hst,show Hz sg (D6 sg l i) p=((D6 sg l i).1,sg p) from by unfold Hz; rw [if_neg h0,if_neg h1]]; rfl)
 ·obtain rfl:i=l.length:=by omega
  refine en tt [.f (decide_eq_false (by omega))] rfl ?_ trivial;unfold D6 Me; rw [List.take_length]
def Cok (C:List (List Int)):Prop:=C.length≤1000/\∀ p∈C,Bd 9000000 p/\p.length≤64
theorem Qj7 {C:List (List Int)} {q:Rat} (hC:Cok C) (hq:Qs 2000000 q):Uk Tryz.prog 140 [.one (.row (zls C)),.agg (fr q)] [.one (.int .i64 (S0 C q:Nat))]:=by
 obtain ⟨hl,hp⟩:=hC;have hzl:=Oi C;refine Gm Tryz.func140 rfl ?_;refine go tt [.o 5 3 1] rfl trivial ?_;refine lp (S:=Nat) 2 (λL1 i=>(9,.v (.one (.int .i64 (i:Int))))::(5,.v (.one (.orow 1 1 none)))::L1) (λi=>[.blk 35 (fr q),.row false 3 1 (idl ((C.take i).map λp=>Fc p q))]) (λi=>C.length-i) (λi=>i<=C.length) 0 (Qh _) rfl (λ_ _=>rfl) rfl λi hi=>?_
 have hol:(idl ((C.take i).map λp=>Fc p q)).length=i:=by simp; omega
 by_cases h:i<C.length
 ·have hx:=Oh h;have hm:=Xw h;have he:C.getD i []=C[i]:=by rw [Qg,Qe h]; rfl
  rw [he] at hx;have cs:=Qd0 (Uj (hp _ hm).1 (by decide)) (hp _ hm).2 hq;have hg:idl ((C.take (i+1)).map λp=>Fc p q)=idl ((C.take i).map λp=>Fc p q)++[[.int .i64 (Fc C[i] q)]]:=by
   have e:(C.take (i+1)).map (λp=>Fc p q)=(C.take i).map (λp=>Fc p q)++[Fc C[i] q]:=by rw [Zw,Qe h,Xv]; rfl
   rw [e]; exact Xv
  refine go tt [.t (decide_eq_true (by omega)),.x hx,.c [] cs,.s (sz:=1) (Qy1 _)] rfl (by simp [Ui,hol,-List.map_take]; omega) ?_;exact rd (i+1) (by omega) h (by rw [hg]; rfl)
 ·have e:i=C.length:=by omega
  rw [e,Q4];exact en tt [.f (decide_eq_false (by omega)),.p 1,.c [] (Q8j (sg:=λp=>Fc p q) hl λp=>Np p q)] rfl rfl trivial
theorem Qxq {C:List (List Int)} {lo hi:Rat} (hC:Cok C) (ql:Qs 2000000 lo) (qh:Qs 2000000 hi):Uk Tryz.prog 79 [.one (.row (zls C)),.agg (fr lo),.agg (fr hi)] [.one (.int .i64 (Hd C lo hi))]:=by
 have b1:S0 C lo<=C.length:=Mf (λp=>Np p lo) C;have b2:S0 C hi<=C.length:=Mf (λp=>Np p hi) C;have hl:=hC.1;have c1:=De (qh.mono (by decide)) (ql.mono (by decide));unfold Hd;by_cases h:Fi hi lo<0
 ·rw [if_pos h];exact w tt Tryz.func79 rfl [.c [] c1,.t (by simpa using h)] rfl rfl trivial
 ·rw [if_neg h];exact w tt Tryz.func79 rfl [.c [] c1,.f (by simpa using h),.c [] (Qj7 hC ql),.c [] (Qj7 hC qh)] rfl rfl (by simp [Ui]; omega)
theorem Qs8 {p:List Int} {C:List (List Int)} {lo hi:Rat} (ql:Qs 2000000 lo) (qh:Qs 2000000 hi):Uk Tryz.prog 75 [.agg (ax p C lo hi)] [.one (.bool (decide (Fi lo hi=0)))] :=
 w tt Tryz.func75 rfl [.c [] (De (ql.mono (by decide)) (qh.mono (by decide)))] rfl rfl trivial
theorem Qbf {p:List Int} {C:List (List Int)} {lo hi t:Rat} (hp:Bd 30000000 p) (hpl:p.length<=64) (hC:Cok C) (ql:Qs 2000000 lo) (qh:Qs 2000000 hi) (qt:Qs 2000000 t):Uk Tryz.prog 32 [.agg (ax p C lo hi),.agg (fr t)] [.one (.int .i64 (crR C p lo hi t))]:=by
 have c0:=Qs8 (p:=p) (C:=C) ql qh;have c1:=De (ql.mono (t:=40000000) (by decide)) (qt.mono (by decide));have c2:=De (qt.mono (t:=40000000) (by decide)) (ql.mono (by decide));have c3:=De (qt.mono (t:=40000000) (by decide)) (qh.mono (by decide));have c4:=Qxq hC ql qt;have c5:=Qd0 hp hpl qt;unfold crR;by_cases h0:Fi lo hi=0
 ·rw [if_pos h0];exact w tt Tryz.func32 rfl [.c [] c0,.t (decide_eq_true h0),.c [] c1] rfl rfl trivial
 rw [if_neg h0];by_cases h1:Fi t lo<=0
 ·rw [if_pos h1];exact w tt Tryz.func32 rfl [.c [] c0,.f (decide_eq_false h0),.c [] c2,.t (decide_eq_true h1)] rfl rfl trivial
 rw [if_neg h1];by_cases h2:0<Fi t hi
 ·rw [if_pos h2];exact w tt Tryz.func32 rfl [.c [] c0,.f (decide_eq_false h0),.c [] c2,.f (decide_eq_false h1),.c [] c3,.t (decide_eq_true h2)] rfl rfl trivial
 rw [if_neg h2];by_cases h3:Hd C lo t=0
 ·rw [if_pos h3];exact w tt Tryz.func32 rfl [.c [] c0,.f (decide_eq_false h0),.c [] c2,.f (decide_eq_false h1),.c [] c3,.f (decide_eq_false h2),.c [] c4,.t (decide_eq_true h3)] rfl rfl trivial
 rw [if_neg h3];by_cases h4:Fc p t=0
 ·rw [if_pos h4];exact w tt Tryz.func32 rfl [.c [] c0,.f (decide_eq_false h0),.c [] c2,.f (decide_eq_false h1),.c [] c3,.f (decide_eq_false h2),.c [] c4,.f (decide_eq_false h3),.c [] c5,.t (decide_eq_true h4)] rfl rfl trivial
 rw [if_neg h4];exact w tt Tryz.func32 rfl [.c [] c0,.f (decide_eq_false h0),.c [] c2,.f (decide_eq_false h1),.c [] c3,.f (decide_eq_false h2),.c [] c4,.f (decide_eq_false h3),.c [] c5,.f (decide_eq_false h4)] rfl rfl trivial
theorem Ze6 {p:List Int} {C c:List (List Int)} {lo hi t:Rat} (hp:Bd 30000000 p) (hpl:p.length<=64) (hC:Cok C) (ql:Qs 2000000 lo) (qh:Qs 2000000 hi) (qt:Qs 2000000 t) (hc:Cok c):Uk Tryz.prog 30 [.agg (ax p C lo hi),.agg (aq t c)] [.one (.int .i64 (crR C p lo hi t))]:=by
 have c0:=Qs8 (p:=p) (C:=C) ql qh;have ct:Uk Tryz.prog 75 [.agg (aq t c)] [.one (.bool true)]:=Qj8 qt;have c1:=Qbf hp hpl hC ql qh qt;by_cases h0:Fi lo hi=0
 ·have e:crR C p lo hi t=-(crR c [-t.num,(t.den:Int)] t t lo):=by
   rw [Qqd]; unfold crR; rw [if_pos h0];rcases Ta lo t with ⟨e,h⟩ | ⟨e,h⟩ | ⟨e,h⟩ <;> rcases Ta t lo with ⟨e',h'⟩ | ⟨e',h'⟩ | ⟨e',h'⟩ <;> grind
  have hbt:Bd 30000000 [-t.num,(t.den:Int)]:=Uj (Q64 qt.1 qt.2) (by decide);have c2:=Qbf (p:=[-t.num,(t.den:Int)]) (C:=c) (lo:=t) (hi:=t) hbt (by show 2<=64; decide) hc qt qt ql;have hb:-1<=crR c [-t.num,(t.den:Int)] t t lo/\crR c [-t.num,(t.den:Int)] t t lo<=1:=by
   rw [Qqd]; rcases Ta t lo with ⟨e',h'⟩ | ⟨e',h'⟩ | ⟨e',h'⟩ <;> omega
  rw [e];exact w tt Tryz.func30 rfl [.c [] c0,.t (decide_eq_true h0),.c [] c2] rfl rfl (by simp [Ui]; omega)
 ·exact w tt Tryz.func30 rfl [.c [] c0,.f (decide_eq_false h0),.c [] ct,.t rfl,.c [] c1] rfl rfl trivial
theorem Q0u {q:Rat} (hq:Qs 2000000 q):Uk Tryz.prog 69 [.agg (rl q)] [.agg (fr q)]:=by
 have h1:Uv q.num<=2000000:=hq.1;have h2:Uv (q.den:Int)<=2000000:=hq.2;have cm:=Qbg (a:=q.num) (b:=(q.den:Int)) (by omega) (by omega);have e:Gb q.num (q.den:Int)=q:=by rw [Qbx (by have:=den_pos q; omega),Zs]
 rw [e] at cm;exact w tt Tryz.func69 rfl [.c [] (Qf1 (z:=q.num) (by omega)),.c [] (Qf1 (z:=(q.den:Int)) (by omega)),.c [] cm] rfl rfl trivial
def Q42 (p:List Int) (lo hi:Rat):Rat:=if Fi lo hi≠0/\Fc p hi=0 then hi else lo
theorem Zfa {p:List Int} {C:List (List Int)} {lo hi:Rat} (hp:Bd 30000000 p) (hpl:p.length<=64) (ql:Qs 2000000 lo) (qh:Qs 2000000 hi):Uk Tryz.prog 68 [.agg (ax p C lo hi)] [.agg (ax p C (Q42 p lo hi) hi)]:=by
 have c1:=De (ql.mono (t:=40000000) (by decide)) (qh.mono (by decide));have c2:=Qd0 hp hpl qh;unfold Q42;by_cases h0:Fi lo hi=0
 ·rw [if_neg (λh=>h.1 h0)];exact w tt Tryz.func68 rfl [.c [] c1,.g 9 false (by simp [h0]),.f rfl] rfl rfl trivial
 by_cases h1:Fc p hi=0
 ·rw [if_pos ⟨h0,h1⟩];exact w tt Tryz.func68 rfl [.c [] c1,.g 9 true (by simp [h0]),.c [] c2,.t (decide_eq_true h1)] rfl rfl trivial
 ·rw [if_neg (λh=>h1 h.2)];exact w tt Tryz.func68 rfl [.c [] c1,.g 9 true (by simp [h0]),.c [] c2,.f (decide_eq_false h1)] rfl rfl trivial
theorem Q0t {p:List Int} {C:List (List Int)} {lo hi:Rat} (tp:Uo p) (hp:Bd 8000000 p) (h2:2<=p.length) (hpl:p.length<=64) (hpr:Gn p=p) (hC:ChRun p p C) (ql:Qs 2000000 lo) (qh:Qs 2000000 hi):Uk Tryz.prog 26 [.agg (ta ⟨p,lo,hi⟩)] [.agg (ax p C (Q42 p lo hi) hi)]:=by
 have cf:=Ef (p:=p) (Uj hp (by decide)) (by omega);rw [tp] at cf;have cp:=Eg tp (Uj hp (by decide)) (by omega);rw [hpr] at cp;have cc:=Qta tp (Uj hp (by decide)) (by omega) h2 hC;have ce:=Zfa (p:=p) (C:=C) (lo:=lo) (hi:=hi) (Uj hp (by decide)) hpl ql qh;exact w tt Tryz.func26 rfl [.c [] cf,.c [] cp,.c [] cc,.c [] (Q0u ql),.c [] (Q0u qh),.c [] ce] rfl rfl trivial
theorem Qzl {q:Rat} (h:Qs 2000000 q):ChRun [-q.num,(q.den:Int)] [-q.num,(q.den:Int)] [[-q.num,(q.den:Int)],[1]]/\Gn [-q.num,(q.den:Int)]=[-q.num,(q.den:Int)]:=by
 have hg:Int.gcd (-q.num) (q.den:Int)=1:=by
  rw [Int.neg_gcd];have:=q.reduced;unfold Nat.Coprime at this;simpa [Int.gcd] using this
 exact ⟨Qnf (den_pos q) hg (by rw [Gg]; exact h.1) h.2,Qaw (den_pos q) hg⟩
theorem Q7d {q:Rat} (h:Qs 2000000 q):Uk Tryz.prog 26 [.agg (ta (tq q))] [.agg (aq q [[-q.num,(q.den:Int)],[1]])]:=by
 obtain ⟨h1,h2⟩:=Qzl h;have c:=Q0t (p:=[-q.num,(q.den:Int)]) (lo:=q) (hi:=q) (Qse q) (Uj (bd2 (s:=2000000) (by rw [Gg]; exact h.1) h.2) (by decide)) (by show 2<=2; decide) (by show 2<=64; decide) h2 h1 h h;have e:Q42 [-q.num,(q.den:Int)] q q=q:=if_neg λh=>h.1 (Df.2 rfl)
 rw [e] at c;exact c
theorem Zn5 {q:Rat} (h:Qs 2000000 q):Cok [[-q.num,(q.den:Int)],[1]]:=⟨by show 2<=1000; decide,λp hp=>by
 simp only [Qp,Jq,or_false] at hp;rcases hp with rfl | rfl
 ·exact ⟨Uj (bd2 (s:=2000000) (by rw [Gg]; exact h.1) h.2) (by decide),by show 2<=64; decide⟩
 ·exact ⟨b1 (by decide),by show 1<=64; decide⟩⟩
theorem Ze7 {lo hi:Rat} (ql:Qs 2000000 lo) (qh:Qs 2000000 hi):Uk Tryz.prog 81 [.agg (fr lo),.agg (fr hi)] [.agg (fr (Om lo hi))]:=by
 have c1:=Qw7 (ql.mono (t:=20000000) (by decide)) (qh.mono (by decide));have c2:=Zi7 (n:=1) (d:=2) (by decide) (by decide);have e:Gb 1 2=(1:Rat) / 2:=by rw [Qbx (by decide)]; decide +kernel
 rw [e] at c2;have q1:Qs 40000000 (lo+hi):=(Zma ql qh).mono (by decide);have q2:Qs 40000000 ((1:Rat) / 2):=by rw [<-e]; exact ⟨by decide,by decide⟩
 have c3:=Qxc q1 q2;have em:(lo+hi)*((1:Rat) / 2)=Om lo hi:=by rw [Qc9]; grind
 rw [em] at c3;exact w tt Tryz.func81 rfl [.c [] c1,.c [] c2,.c [] c3] rfl rfl trivial
theorem Qnb {p:List Int} {C:List (List Int)} {lo hi:Rat} (hp:Bd 30000000 p) (hpl:p.length<=64) (hC:Cok C) (ql:Qs 2000000 lo) (qh:Qs 2000000 hi) (qm:Qs 2000000 (Om lo hi)) (hne:lo≠hi):Uk Tryz.prog 33 [.agg (ax p C lo hi)] [.agg (if crR C p lo hi (Om lo hi)<=0 then ax p C lo (Om lo hi) else ax p C (Om lo hi) hi)]:=by
 have c1:=De (ql.mono (t:=40000000) (by decide)) (qh.mono (by decide));have c2:=Ze7 ql qh;have c3:=Qbf hp hpl hC ql qh qm;have h0:¬Fi lo hi=0:=λh=>hne (Df.1 h)
 by_cases h:crR C p lo hi (Om lo hi)<=0
 ·rw [if_pos h];exact w tt Tryz.func33 rfl [.c [] c1,.f (decide_eq_false h0),.c [] c2,.c [] c3,.t (decide_eq_true h)] rfl rfl trivial
 ·rw [if_neg h];exact w tt Tryz.func33 rfl [.c [] c1,.f (decide_eq_false h0),.c [] c2,.c [] c3,.f (decide_eq_false h)] rfl rfl trivial
set_option maxHeartbeats 8000000 in
theorem Qmv {zs:List RawPt} {n d:Int} (hz:∀ z∈zs,z.Ok) (hn:-9223372036854775808≤n/\n≤9223372036854775807) (hdd:-9223372036854775808≤d/\d≤9223372036854775807):Uk Tryz.prog 5 [.one (.row (Qe8 zs)),.one (.int .i64 n),.one (.int .i64 d)] [.one (.bool true)]:=by
 obtain ⟨e,he,hd,hm⟩:=Zk6 (Qg0 4 20 zs);have hq0:=Qo9 n d;have cb:=Q4g hz rfl he hd hm hn hdd (Zoz (hq0.mono (by decide))) rfl;obtain ⟨O,hO⟩:=nmE (Qg0 4 20 zs);have hO4:O.length<=4:=by rw [hO]; exact Qab _ _ (Qh _)
 have hlit:∀ p∈O,Q3z p:=λp hp=>by rw [hO] at hp; exact Qof (by decide) p hp
 rw [<-hO] at cb he hd;obtain ⟨M,hM⟩:=nmE (Rt L8 (Qb9 O e));rw [<-hM] at cb;obtain ⟨q,hq⟩:=nmE (Ob n d);rw [<-hq] at cb hq0;have hcn:(Qb9 O e).length=e:=by rw [Qhz,Qd1 he]
 have hMl:M.length=e:=by rw [hM,B5,hcn]
 have hMd:Ew M:=by rw [hM]; exact Q4w (Qz3 _).symm (Qnn hd)
 have hok:∀ p∈M,Nml p.c/\Cs 10 3 p.c:=λp hp=>by
  rw [hM,A6] at hp;exact Q1n hlit e p hp
 have hsc:∀ p∈M,Sc p.c:=λp hp=>⟨(hok p hp).1,(hok p hp).2.mono (by decide) (by decide)⟩
 have hln:M.length<=6:=by omega
 have hv:Va (tq q):=Zdr (hq0.mono (by decide));have S:Stab (bcD M) (brD M):=Zo8 hsc hln;obtain ⟨c0,hc0⟩:=nmE (Q65 M (tq q));have hst:KSt (bcD M) (brD M) c0 (brD M (tq q)):=by rw [hc0]; exact Zkj S hv
 have hn0:c0.now=tq q:=by rw [hc0]; rfl
 have hev0:c0.ev=0:=by rw [hc0]; rfl
 rw [<-hc0] at cb;have hal:(Q32 M).length≤1000000:=Q6w hln;have hsz:∀ a,∀ x∈bcD M a,Bd 133 x.p/\x.p.length≤8+1/\x.want=Mp (Pi a) x.p:=λa=>Zek hok
 have adv:=λ{t:Rat} (ht:Qs 1640000 t) {c:Cr} {r:List (List LV)} (hS:KSt (bcD M) (brD M) c r) (h:U0 c.now t<=0)=>Zka S (Qpq hsc) (λa _=>Qps) hal ht hS h
 refine Gm Tryz.func5 rfl ?_;refine go tt [.c [0,1] cb,.f rfl] rfl trivial ?_;refine lp (S:=Nat×Cr×(List (List LV))×Rat) 2 (λL1 s=>(10,.v (.one (.int .i64 (s.1:Int))))::L1) (λs=>[.blk 86 (M3 s.2.1 (Ut M) s.2.2.1),.blk 45 (plB M q [[-q.num,(q.den:Int)],[1]] (Qa1 q M))]) (λs=>3-s.1) (λs=>s.1<=3/\KSt (bcD M) (brD M) s.2.1 s.2.2.1/\s.2.1.now=tq s.2.2.2/\Qs (bq 8 s.1) s.2.2.2/\0<=s.2.1.ev/\s.2.1.ev<=((s.1*67000000:Nat):Int)) (0,c0,brD M (tq q),q) ⟨Qh _,hst,hn0,hq0.mono (by show 100<=100; decide),by show 0<=c0.ev; omega,by show c0.ev<=_; omega⟩ rfl (λ_ _=>rfl) rfl λ⟨i,c,r,cur⟩ ⟨hi,hS,hcur,hcq,hev1,hev2⟩=>?_
 dsimp only at hi hS hcur hcq hev1 hev2 ⊢;by_cases hr:i<3
 ·have hb1:bq 8 i<=1640000:=(Zi3 (by decide) i (by omega)).1;have hb2:bq 8 (i+1)<=1640000:=(Zi3 (by decide) i (by omega)).2 hr;have h4:=hcq.mono hb1;have h6:Qs 2000000 cur:=h4.mono (by decide);obtain ⟨ws,o,w1,w2,w3,hS2,hnx⟩:=Zcc (n:=8) (by decide) hsz S hS hcur;have hld:=Zof hsz hS hcur;have cNow:=Qxb (T:=86) (c:=c) (r0:=Ut M) (r1:=r) hS.inv.ok.n;rw [hcur] at cNow;have cFA:=Q7d h6;have cC:=Q7j (T:=86) (c:=c) (r0:=Ut M) (r1:=r) hS.inv.ok;have cNx:=Qpw (T:=86) (r0:=Ut M) (r1:=r) hS.inv.ok w1 w2;obtain ⟨L,hL⟩:=nmE (G5 (c.l.map (·.c)));rw [<-hL] at cC hld;have hLl:L.length<=1000:=by rw [hL,D4,Q8]; exact hS.inv.ok.k
  have hcl:=Nf L;obtain ⟨cc,hcc⟩:=nmE ([[-cur.num,(cur.den:Int)],[1]]);have hck:Cok cc:=by rw [hcc]; exact Zn5 h6
  rw [<-hcc] at cFA;refine go tt [.t (decide_eq_true (by omega)),.c [0] cNow,.c [] cFA,.c [0] cC] rfl (by simp [Ui]) ?_;refine lp (S:=Nat) 3 (λL1 k=>(47,.v (.one (.int .i64 (k:Int))))::L1) (λ_=>[.blk 86 (M3 c (Ut M) r),.blk 45 (plB M q [[-q.num,(q.den:Int)],[1]] (Qa1 q M)),.blk 37 (aq cur cc)]) (λk=>L.length-k) (λk=>k<=L.length) 0 (Qh _) rfl (λ_ _=>rfl) rfl λk hk=>?_
  by_cases hkl:k<L.length
  ·obtain ⟨x,hx⟩:=gxE (l:=L) (i:=k) hkl;obtain ⟨x1,x2,x3,x4⟩:=hld x (Qa hx);have cf:=Ef (p:=x.p) (Uj x1 (by decide)) (by omega);rw [x3] at cf;have ca:=Qj5 (c:=cc) (Uj x1 (by decide)) (by omega) h6;rw [x4] at ca;refine go tt [.t (decide_eq_true (by omega)),.x (Qcx hx),.c [] cf,.c [] ca,.x (Qcx hx),.f (by simp)] rfl (by simp [Ui] <;> omega) ?_;exact rd (k+1) (by omega) hkl rfl
  ·cases o with
   | none=>exact en tt [.f (decide_eq_false (by omega)),.c [0] cNx,.t rfl,.c [] Qnm] rfl rfl (by simp [Ui])
   |
    some a =>
    obtain ⟨va,hpos,hlt,⟨C,hA⟩,hex,hmin⟩:=hnx a rfl;have hokC:Cok C:=⟨hA.ch.small,Qth hA.ch (by have:=hA.n; omega)⟩;have hX0:=hA.start hlt (b:=bq 8 (i+1)) (by show 18429<=21431+_; omega);have hAb:Bd 8000000 a.p:=Uj hA.b (by decide);have hAl:a.p.length<=64:=by have:=hA.n; omega
    have hAq:=hA.i.qs (b:=2000000) (by decide);have cFa:=Q0t (p:=a.p) (C:=C) (lo:=a.lo) (hi:=a.hi) va.tr hAb va.n2 hAl hA.pr hA.ch hAq.1 hAq.2;have hxl:Q42 a.p a.lo a.hi=xlo a:=by
     have:Fi a.lo a.hi≠0:=λh=>by
      have h1:=Df.1 h;have h2:=hA.i.lt;rw [h1] at h2; exact Rat.lt_irrefl h2
     unfold Q42 xlo;by_cases h:Fc a.p a.hi=0
     ·rw [if_pos ⟨this,h⟩,if_pos h]
     ·rw [if_neg (λh'=>h h'.2),if_neg h]
    rw [hxl] at cFa;have hx4:Qs 2000000 (xlo a):=hX0.ql.mono (by omega);have hh4:Qs 2000000 a.hi:=hX0.qh.mono (by omega);have cCm:=Ze6 (p:=a.p) (C:=C) (c:=cc) (lo:=xlo a) (hi:=a.hi) (t:=cur) (Uj hAb (by decide)) hAl hokC hx4 hh4 h6 hck;rw [hX0.cmp hA.i hlt] at cCm;have cBt:=Q7i (T:=86) (c:={ c with l:=ws }) (r0:=Ut M) (r1:=r) hS2.inv.ok w3 w2 va;have hbl:¬((ws.filterMap (evF a)).length:Int)=0:=by omega
    refine go tt [.f (decide_eq_false (by omega)),.c [0] cNx,.f rfl,.c [] cFa,.c [] cCm,.g 80 false (decide_eq_false (by decide)),.c [0] cBt,.f (decide_eq_false hbl),.c [0,5] Q4a] rfl (by simp [Ui] <;> omega) ?_;refine lp (S:=Nat×Rat×Rat) 6 (λL1 _=>L1) (λs=>[.blk 86 (M3 { c with l:=ws } (Ut M) r),.blk 45 (plB M q [[-q.num,(q.den:Int)],[1]] (Qa1 q M)),.blk 37 (aq cur cc),.blk 79 (ta a),.blk 37 (ax a.p C s.2.1 s.2.2),.blk 86 (M3 { c with l:=ws } (Ut M) r)]) (λs=>3002+8*bq 8 i-s.1) (λs=>HX a C cur (bq 8 (i+1)) s.1 s.2.1 s.2.2) (0,xlo a,a.hi) hX0 rfl (λ_ _=>rfl) rfl λ⟨j,lo,hi⟩ hX=>?_
    dsimp only at hX ⊢;have ql6:Qs 2000000 lo:=hX.ql.mono (by omega);have qh6:Qs 2000000 hi:=hX.qh.mono (by omega);have cW:=Qbf (p:=[-cur.num,(cur.den:Int)]) (C:=cc) (lo:=cur) (hi:=cur) (t:=lo) (Uj (Q64 h6.1 h6.2) (by decide)) (by show 2<=64; decide) hck h6 h6 ql6;rw [Qqd] at cW;by_cases hlo:lo<cur
    ·obtain ⟨n1,n2,n3,n4⟩:=HX.next hA (by decide) hX hcq hlt hlo;have hne:lo≠hi:=λh=>by rw [h] at n1; exact Rat.lt_irrefl n1
     have hW:0<Fi cur lo:=Pn.2 hlo;by_cases hc:crR C a.p lo hi (Om lo hi)<=0
     ·have h5:=n3 hc;have cH:=Qnb (p:=a.p) (C:=C) (Uj hAb (by decide)) hAl hokC ql6 qh6 (h5.qh.mono (by show 21431+_<=_; exact Qc hb2 (by decide))) hne;rw [if_pos hc] at cH;refine go tt [.c [] cW,.t (decide_eq_true hW),.c [] cH] rfl (by simp [Ui]) ?_;exact rd (j+1,lo,Om lo hi) (by dsimp only; omega) h5 rfl
     ·have h5:=n4 hc;have cH:=Qnb (p:=a.p) (C:=C) (Uj hAb (by decide)) hAl hokC ql6 qh6 (h5.ql.mono (by show 21431+_<=_; exact Qc hb2 (by decide))) hne;rw [if_neg hc] at cH;refine go tt [.c [] cW,.t (decide_eq_true hW),.c [] cH] rfl (by simp [Ui]) ?_;exact rd (j+1,Om lo hi,hi) (by dsimp only; omega) h5 rfl
    ·have hcl':cur<=lo:=Rat.not_lt.1 hlo;have hW:¬0<Fi cur lo:=λh=>hlo (Pn.1 h)
     obtain ⟨f1,f2,f3⟩:=HX.fin va hX;have qh4:Qs 1640000 hi:=hX.qh.mono hb2;have ql4:Qs 1640000 lo:=hX.ql.mono hb2;have hci:cur<=hi:=Zc hcl' f3;have cE:=De (ql6.mono (t:=40000000) (by decide)) (qh6.mono (by decide));have cTh:=Q71 (q:=hi) (qh6.mono (by decide));have hcm:U0 c.now hi<=0:=by rw [hcur,Qpe]; exact Ip.2 hci
     obtain ⟨K1,c1,E1,k1,k2,k3,k4,k5,k6,k7⟩:=adv qh4 hS2 hcm;have hE1:E1≠[]:=Q9r (t:=hi) hS.inv.ok.n va hex f2 k7;have hE1l:0<E1.length:=Jt.2 hE1;have cA1:=Q69 (l:=M) (K:=K1) qh4 hsc hln hS2.inv.ok ⟨hev1,by show c.ev+_<=_; omega⟩ hcm k2;have hnl:¬(0:Int)+((E1.length:Nat):Int)<1:=by omega
     have hinv:i+1<=3/\KSt (bcD M) (brD M) c1 (brD M (tq hi))/\c1.now=tq hi/\Qs (bq 8 (i+1)) hi/\0<=c1.ev/\c1.ev<=(((i+1)*67000000:Nat):Int):=⟨hr,k4,k3,hX.qh,by rw [k5]; show 0<=c.ev+_; omega,by rw [k5]; show c.ev+_<=_; omega⟩;by_cases hne:lo=hi
     ·have h0:Fi lo hi=0:=Df.2 hne;rw [h0] at cE;refine go tt [.c [] cW,.f (decide_eq_false hW),.c [] cE,.f rfl,.c [] cTh,.c [0] cA1,.g 144 false rfl,.f (decide_eq_false (by omega))] rfl (by simp [Ui] <;> omega) ?_;exact rd (i+1,c1,brD M (tq hi),hi) (by dsimp only; omega) hinv rfl
     ·have h0:¬Fi lo hi=0:=λh=>hne (Df.1 h)
      have cTl:=Q71 (q:=lo) (ql6.mono (by decide));have hcm2:U0 c.now lo<=0:=by rw [hcur,Qpe]; exact Ip.2 hcl'
      obtain ⟨K2,c2,E2,m1,m2,m3,m4,m5,m6,m7⟩:=adv ql4 hS2 hcm2;have hE2:E2=[]:=Qyb hS.inv.ok.n va hmin (Zdr ql4) (f1 hne) m7;subst hE2;have hsame:=(Qqn S hS.inv.ok.n (Zdr ql4) (by rw [hcur]; exact λh=>absurd (Zim.1 h) (Rat.not_lt.2 hcl')) m7).2;have cA2:=Q69 (l:=M) (K:=K2) ql4 hsc hln hS2.inv.ok ⟨hev1,by show c.ev+_<=_; omega⟩ hcm2 m2;have hrr:r=brD M (tq lo):=by rw [hsame]; exact hS.r
      rw [<-hrr] at cA2;have cAl:=Q67 (c:={ c with l:=ws }) (c':=c2) (l:=M) (l':=M) (m:=M) (a:=tq lo) (r:=r) (by omega) hrr;have hev3:¬¬c2.ev=c.ev:=λh=>h (by rw [m5]; show c.ev+((0:Nat):Int)=_; omega)
      refine go tt [.c [] cW,.f (decide_eq_false hW),.c [] cE,.t (by simpa using h0),.c [] cTl,.c [5] cA2,.g 113 true rfl,.g 116 false (decide_eq_false (by simp)),.lo,.c [0,5] cAl,.g 122 false rfl,.lo,.c [5] Qna,.lo,.c [0] Qna,.f (by simpa using hev3),.c [] cTh,.c [0] cA1,.g 144 false rfl,.f (decide_eq_false (by omega))] rfl (by simp [Ui] <;> omega) ?_;exact rd (i+1,c1,brD M (tq hi),hi) (by dsimp only; omega) hinv rfl
 ·exact en tt [.f (decide_eq_false (by omega)),.c [] Qnm] rfl rfl (by simp [Ui])
end Orr
namespace Orr
open Go Go.Proofs
variable {H:Type} {enc:TypeId×Value->H} {w:World} {base:Nat} {spare:Nat->Bool} {Zof:Bool}
theorem Lk {α:Type} {l:List α} {n i:Nat} (h:l.length=n) (hi:i<n):∃ x,l[i]? = some x:=⟨l[i]'(by omega),Qe (by omega)⟩
end Orr
namespace Orr
open Go Go.Proofs Go.ChangeShapes Go.WideShapes Go.ChangeAt Go.RowKit Go.WideElems
theorem Zfu {w:World} {a:Addr} {v:Value} (h:w.cell? a=some v):a.spot=none/\a.block<w.heap.size:=by
 simp only [World.cell?] at h
 split at h
 ·rename_i c t fr hc
  split at h
  ·cases h
  ·rename_i hs;refine ⟨by cases e:a.spot with | none=>rfl | some _=>simp [e] at hs,?_⟩;exact (Array.getElem?_eq_some_iff.1 hc).1
 ·cases h
theorem Zeh {a:Addr} (h:a.spot=none) (n m:Nat):(a.add n).add m=⟨a.block,a.off+n+m,none⟩:=by
 obtain ⟨b,o,s⟩:=a;simp only at h;subst h;simp only [Addr.add]
 split
 ·rename_i h; subst h
  split
  ·rename_i h; subst h; simp
  ·simp
 ·split
  ·rename_i h; subst h; simp
  ·simp
def fr0 (w:World):Fr:=⟨λb=>b<w.heap.size,λ_=>False,w,λ_=>False,λ_=>none⟩
theorem hs0 (w:World):HS (fr0 w) (ob []) (nw []) (λ_=>none) (λ_=>False) w where
 size:=Qm _
 kept:=λb hb=>⟨hb,rfl,Iff.rfl⟩
 ids:=λi h=>h.elim
 nj:=λi h=>by rw [Qrg] at h; cases h
 io:=⟨rfl,rfl⟩
 blk:=λi=>by rw [Qrg]; trivial
 nk:=λi g c m h _=>by rw [Qrg] at h; cases h
 inj:=λi j g c m c' m' h _ _ _=>by rw [Qrg] at h; cases h
 mlt:=λb h=>h.elim
 m0:=λb _ h=>h.elim
 un:=λi _=>⟨rfl,rfl⟩
 uj:=λi _ h=>h.elim
theorem Zh4 {w w':World} {bl:Nat->OB} {U:Nat->Prop} {E:M9} {M:Nat->Prop} (h:HS (fr0 w) bl U E M w') {p:MemPlace} (hp:p.block<w.heap.size):w.sameAt w' p:=by
 cases p with
 | cell b off=>simp only [World.sameAt,World.cell?]; rw [(h.kept b hp).2.1]; rfl
 | map b=>exact (h.kept b hp).2.1
theorem Zgo {w w':World} {bl:Nat->OB} {U:Nat->Prop} {E:M9} {M:Nat->Prop} (h:HS (fr0 w) bl U E M w') (may:MemPlace->Prop):w.keptBut w' may:=by
 refine ⟨h.io.1,h.io.2,λi hi=>?_⟩;have e:w'.heap[i]? = w.heap[i]? := (h.kept i hi).2.1;rw [e];cases w.heap[i]? with
 | none=>rfl
 | some o=>cases o <;> simp
theorem Qbd {H:Type} {P:Program} {e:TypeId}:∀ {l:List (DataW H)} {i:Nat} {d:DataW H},l[i]? = some d->∀ n∈d.weights P e,n∈DataW.weightsAll P e l
 | [],i,d,h,_,_=>by simp at h
 |
  x::l,0,d,h,n,hn=>by
  simp at h; subst h;simp only [DataW.weightsAll,Qw]; exact .inl hn
 |
  x::l,i+1,d,h,n,hn=>by
  simp only [DataW.weightsAll,Qw];exact .inr (Qbd (i:=i) (by simpa using h) n hn)
theorem Ae {H:Type} {P:Program} {t:TypeId} {fs:Array Field} {parts:List (DataW H)} (hu:P.underlying t=some (.struct fs)) (hz:((DataW.agg parts).weights P t).all (· <= reachBytes)=true) {i:Nat} {f:Field} {d:DataW H} (hf:fs[i]? = some f) (hd:parts[i]? = some d) :
 (d.weights P f.type).all (· <= reachBytes)=true:=by
 rw [Yu] at hz ⊢;intro n hn;refine hz n ?_;simp only [DataW.weights,hu];exact DataW.weights_mem_each (j:=i) (by rw [Q9]; simp [hf]) hd n hn
variable {H:Type} {enc:TypeId×Value->H} {w:World}
abbrev O0:Nat->Prop:=λ_=>False
def Els (w:World) (cs:List Value) (ls:List LV):Prop:=cs.length=ls.length/\∀ (j:Nat) (u:LV),ls[j]? = some u->∃ v,cs[j]? = some v/\LRep w O0 v u
theorem Qe6 {α:Type} {rw_:α->List LV} {Ok:α->Prop} {t e sz:Nat} (hu:Tryz.prog.underlying t=some (.slice e)) (hc:Tryz.prog.cellsOf e=sz) (hsz:0<sz) (hb:1<=Tryz.prog.bytesOf e) (hw:∀ z,(rw_ z).length=sz)
 (elem:∀ fuel cs x,DataW.trod enc Tryz.prog w 0 (λ_=>true) true fuel e cs=some x->(x.1.weights Tryz.prog e).all (· <= reachBytes)=true->∃ z,Ok z/\Els w cs (rw_ z))
 {fuel:Nat} {cs:List Value} {x:DataW H×List MemPlace} (h:DataW.trod enc Tryz.prog w 0 (λ_=>true) true fuel t cs=some x) (hz:(x.1.weights Tryz.prog t).all (· <= reachBytes)=true) :
 ∃ (v:Value) (l:List α),cs=[v]/\(∀ z∈l,Ok z)/\l.length<2^47/\LRep w O0 v (.row (l.map rw_)):=by
 rcases Go.Deep.open_slice hu h with ⟨rfl,_⟩ | ⟨a',len,cap,m,n,D,Pl,rfl,_,hlc,hcap,hm,rfl,hr⟩
 ·refine ⟨_,[],rfl,by simp,Nat.two_pow_pos 47,?_⟩;exact LRep.row none 0 0 0 0 [] (λ_ _=>.bool true) (Qm _) (by decide) (by simp) (by simp) (by simp) (by simp)
 ·simp only [if_true] at hm;subst hm;rw [Yu] at hz;have hlen:len<2^47:=by
   have h0:=hz ((len+(m-len))*Tryz.prog.bytesOf e) (by simp [DataW.weights,hu]);have h1:len<=(len+(m-len))*Tryz.prog.bytesOf e:=by
    have:=Zx (Ku len (m-len)) hb;omega
   have h2:(len+(m-len))*Tryz.prog.bytesOf e<=reachBytes:=by simpa using h0
   exact Zv (Qc h1 h2) reachBytes_lt
  have hel:∀ i,i<len->((D i).weights Tryz.prog e).all (· <= reachBytes)=true:=λi hi=>by
   rw [Yu];intro k hk;refine hz k ?_;simp only [DataW.weights,hu];refine Qj _ (Qw.2 (.inl (Qbd (i:=i) ?_ k hk)));rw [Q9,X3 hi]; rfl
  have hone:∀ i,i<len->∃ z cs',Ok z/\Els w cs' (rw_ z)/\∀ j,j<sz->w.cell? ((a'.add (i*sz)).add j)=cs'[j]? := λi hi=>by
   obtain ⟨cs',hcs,htr⟩:=hr i (by omega);rw [hc] at hcs;obtain ⟨_,hl,hcell⟩:=World.cells?_some hcs;obtain ⟨z,hz1,hz2⟩:=elem _ _ _ htr (hel i hi);refine ⟨z,cs',hz1,hz2,λj hj=>?_⟩;rw [hcell j (by omega)]
  have hspot:0<len->a'.spot=none/\a'.block<w.heap.size:=λh0=>by
   obtain ⟨z,cs',_,⟨hl,_⟩,h3⟩:=hone 0 h0;have h4:=h3 0 hsz;have:(a'.add (0*sz)).add 0=a':=by simp [Addr.add]
   rw [this,Qe (by rw [hl,hw]; exact hsz)] at h4;exact Zfu h4
  obtain ⟨l,hll,hl⟩:∃ l:List α,l.length=len/\∀ i z,l[i]? = some z->Ok z/\∃ cs',Els w cs' (rw_ z)/\∀ j,j<sz->w.cell? ((a'.add (i*sz)).add j)=cs'[j]? := by
   have:∀ k,k<=len->∃ l:List α,l.length=k/\∀ i z,l[i]? = some z->Ok z/\∃ cs',Els w cs' (rw_ z)/\∀ j,j<sz->w.cell? ((a'.add (i*sz)).add j)=cs'[j]? := by
    intro k
    induction k with
    | zero=>intro _; exact ⟨[],rfl,λi z h=>by simp at h⟩
    |
     succ k ih =>
     intro hk;obtain ⟨l,h1,h2⟩:=ih (by omega);obtain ⟨z,cs',h3,h4,h5⟩:=hone k (by omega);refine ⟨l++[z],by simp [h1],λi y hy=>?_⟩;rcases Zb i l.length with hi | hi
     ·rw [Zm hi] at hy; exact h2 i y hy
     ·rw [Xl hi] at hy;have:i-l.length=0:=by
       rcases Qz (i-l.length) with h | h
       ·exact h
       ·rw [Qt (by rw [Kw]; exact h)] at hy; cases hy
      rw [this] at hy;simp at hy;subst hy;have:i=k:=by omega
      subst this;exact ⟨h3,cs',h4,h5⟩
   exact this len (Qm _)
  refine ⟨_,l,rfl,λz hz=>?_,by rw [hll]; exact hlen,?_⟩
  ·obtain ⟨i,hi⟩:=Zh.1 hz;exact (hl i z hi).1
  ·have key:LRep w O0 (.slice (some a') (l.map rw_).length m) (.row (l.map rw_)):=by
    have hgl:∀ i c,(l.map rw_)[i]? = some c->∃ z,l[i]? = some z/\c=rw_ z/\i<len:=λi c h=>by
     rw [Q9] at h;cases e:l[i]? with
     | none=>rw [e] at h; cases h
     | some z=>rw [e] at h; simp at h; exact ⟨z,rfl,h.symm,by have:=(Qd.1 e).1; omega⟩
    have hcl:∀ i c,(l.map rw_)[i]? = some c->∃ cs':List Value,Els w cs' c/\∀ j,j<sz->w.cell? ⟨a'.block,a'.off+i*sz+j,none⟩=cs'[j]? := λi c h=>by
     obtain ⟨z,hz,rfl,hi⟩:=hgl i c h;obtain ⟨_,cs',h1,h2⟩:=hl i z hz;refine ⟨cs',h1,λj hj=>?_⟩;rw [<-h2 j hj,Zeh (hspot (by omega)).1]
    refine LRep.row (some a') m sz a'.block a'.off (l.map rw_) (λi j=>(w.cell? ⟨a'.block,a'.off+i*sz+j,none⟩).getD (.bool true)) (by rw [Q8]; omega) ?_ ?_ ?_ ?_ ?_
    ·have:maxLen=2^63-1:=by rfl
     omega
    ·intro c hc2;obtain ⟨z,_,rfl⟩:=Za.1 hc2;exact hw z
    ·intro h0;rw [Q8,hll] at h0;obtain ⟨hs,hb⟩:=hspot h0;refine ⟨?_,hb,by simp [O0]⟩;obtain ⟨b,o,s⟩:=a';simp only at hs;rw [hs]
    ·intro i c hi j hj;obtain ⟨z,_,rfl,_⟩:=hgl i c hi;obtain ⟨cs',⟨h1,_⟩,h2⟩:=hcl i _ hi;have hjs:j<sz:=by rw [<-hw z]; exact hj
     rw [h2 j hjs,Qe (by rw [h1]; exact hj)]; rfl
    ·intro i c hi j u hu2;obtain ⟨z,_,rfl,_⟩:=hgl i c hi;obtain ⟨cs',⟨h1,h3⟩,h2⟩:=hcl i _ hi;obtain ⟨v,hv,hr2⟩:=h3 j u hu2;have hjs:j<sz:=by rw [<-hw z]; exact (Qd.1 hu2).1
     show LRep w O0 ((w.cell? ⟨a'.block,a'.off+i*sz+j,none⟩).getD (.bool true)) u;rw [h2 j hjs,hv]; exact hr2
   rw [Q8,hll] at key;exact key
abbrev Zp1 (x:Nat):List LV:=[.int .u32 (x:Int)]
theorem Zdp:∀ fuel cs x,DataW.trod enc Tryz.prog w 0 (λ_=>true) true fuel 217 cs=some x->(x.1.weights Tryz.prog 217).all (· <= reachBytes)=true->∃ z:Nat,z<4294967296/\Els w cs (Zp1 z):=by
 intro fuel cs x h _;obtain ⟨n,rfl,_,hwf⟩:=DataW.trod_int Tryz.underlying217 h;have hn:0<=n/\n<4294967296:=by
  have:0<=n/\n<=4294967295:=by simpa [Lit.wf,IntKind.min,IntKind.max,IntKind.signed,IntKind.bits] using hwf
  omega
 refine ⟨n.toNat,by omega,rfl,λj u hu=>?_⟩
 match j,hu with
 |
  0,hu =>
  simp at hu; subst hu;refine ⟨_,rfl,?_⟩;rw [show max n 0=n by omega];exact .int _ _
 | j+1,hu=>simp at hu
set_option maxRecDepth 20000 in
theorem Qk7:∀ fuel cs x,DataW.trod enc Tryz.prog w 0 (λ_=>true) true fuel 55 cs=some x->(x.1.weights Tryz.prog 55).all (· <= reachBytes)=true->∃ z:RawInt,z.Ok/\Els w cs (Qg4 z):=by
 intro fuel cs x h hz;obtain ⟨xs,n,_,rfl,hl,hxs,hf⟩:=DataW.trod_struct Tryz.underlying55 h;have hl:cs.length=2:=hl
 match cs,hl with
 |
  [v0,v1],_ =>
  obtain ⟨z0,hz0⟩:=Lk (i:=0) hxs (by decide);obtain ⟨z1,hz1⟩:=Lk (i:=1) hxs (by decide);have h0:=hf 0 _ rfl;have h1:=hf 1 _ rfl;rw [hz0] at h0; rw [hz1] at h1;obtain ⟨b,e0,_⟩:=DataW.trod_bool Tryz.underlying4 h0;have f0:v0=.bool b:=(List.cons.inj (show [v0]=[Value.bool b] from e0)).1;have hw1:=Ae Tryz.underlying55 hz (i:=1) rfl (d:=z1.1) (by rw [Q9,hz1]; rfl);obtain ⟨v,l,e1,hlo,_,hrep⟩:=Qe6 (sz:=1) (Ok:=λu:Nat=>u<4294967296) (rw_:=Zp1) Tryz.underlying53 (by kernel_rfl) (by decide) (of_decide_eq_true (by kernel_rfl)) (λ_=>rfl) Zdp h1 hw1;have f1:v1=v:=(List.cons.inj (show [v1]=[v] from e1)).1;subst f0 f1;refine ⟨⟨b,l⟩,⟨hlo⟩,rfl,λj u hu=>?_⟩
  match j,hu with
  | 0,hu=>simp at hu; subst hu; exact ⟨_,rfl,.bool _⟩
  | 1,hu=>simp at hu; subst hu; exact ⟨_,rfl,hrep⟩
  | j+2,hu=>simp at hu
set_option maxRecDepth 20000 in
theorem Qy9:∀ fuel cs x,DataW.trod enc Tryz.prog w 0 (λ_=>true) true fuel 114 cs=some x->(x.1.weights Tryz.prog 114).all (· <= reachBytes)=true->∃ z:RawPt,z.Ok/\Els w cs (rwq z):=by
 intro fuel cs x h hz;obtain ⟨xs,n,_,rfl,hl,hxs,hf⟩:=DataW.trod_struct Tryz.underlying114 h;have hl:cs.length=5:=hl
 match cs,hl with
 |
  [v0,v1,v2,v3,v4],_ =>
  obtain ⟨z0,hz0⟩:=Lk (i:=0) hxs (by decide);obtain ⟨z1,hz1⟩:=Lk (i:=1) hxs (by decide);have h0:=hf 0 _ rfl;have h1:=hf 1 _ rfl;rw [hz0] at h0; rw [hz1] at h1;obtain ⟨id,e4,_,hwf⟩:=DataW.trod_int Tryz.underlying3 h1;have f4:v4=.int .i64 id:=(List.cons.inj (show [v4]=[Value.int .i64 id] from e4)).1;have hw0:=Ae Tryz.underlying114 hz (i:=0) rfl (d:=z0.1) (by rw [Q9,hz0]; rfl);obtain ⟨ys,n2,_,e5,_,hys,hg⟩:=DataW.trod_struct Tryz.underlying57 h0;rw [e5] at hw0;obtain ⟨y0,hy0⟩:=Lk (i:=0) hys (by decide);obtain ⟨y1,hy1⟩:=Lk (i:=1) hys (by decide);obtain ⟨y2,hy2⟩:=Lk (i:=2) hys (by decide);have g0:=hg 0 _ rfl;have g1:=hg 1 _ rfl;have g2:=hg 2 _ rfl;rw [hy0] at g0; rw [hy1] at g1; rw [hy2] at g2;have w0:=Ae Tryz.underlying57 hw0 (i:=0) rfl (d:=y0.1) (by rw [Q9,hy0]; rfl);have w1:=Ae Tryz.underlying57 hw0 (i:=1) rfl (d:=y1.1) (by rw [Q9,hy1]; rfl);have w2:=Ae Tryz.underlying57 hw0 (i:=2) rfl (d:=y2.1) (by rw [Q9,hy2]; rfl);obtain ⟨u0,lx,e0,hx,_,rx⟩:=Qe6 (sz:=2) (Ok:=RawInt.Ok) (rw_:=Qg4) Tryz.underlying52 (by kernel_rfl) (by decide) (of_decide_eq_true (by kernel_rfl)) (λ_=>rfl) Qk7 g0 w0;obtain ⟨u1,ly,e1,hy,_,ry⟩:=Qe6 (sz:=2) (Ok:=RawInt.Ok) (rw_:=Qg4) Tryz.underlying52 (by kernel_rfl) (by decide) (of_decide_eq_true (by kernel_rfl)) (λ_=>rfl) Qk7 g1 w1;obtain ⟨d,hd,hde⟩:=Qk7 _ _ _ g2 w2;have f0:v0=u0:=(List.cons.inj (show [v0]=[u0] from e0)).1;have f1:v1=u1:=(List.cons.inj (show [v1]=[u1] from e1)).1;have hde2:Els w [v2,v3] (Qg4 d):=hde;subst f0 f1 f4;obtain ⟨q2,hq2,r2⟩:=hde2.2 0 _ rfl;obtain ⟨q3,hq3,r3⟩:=hde2.2 1 _ rfl;simp at hq2 hq3;subst hq2 hq3;refine ⟨⟨lx,ly,d,id⟩,⟨hx,hy,hd,by simpa [Lit.wf,IntKind.min,IntKind.max,IntKind.signed,IntKind.bits] using hwf⟩,rfl,λj u hu=>?_⟩
  match j,hu with
  | 0,hu=>simp [rwq] at hu; subst hu; exact ⟨_,rfl,rx⟩
  | 1,hu=>simp [rwq] at hu; subst hu; exact ⟨_,rfl,ry⟩
  | 2,hu=>simp [rwq] at hu; subst hu; exact ⟨_,rfl,r2⟩
  | 3,hu=>simp [rwq] at hu; subst hu; exact ⟨_,rfl,r3⟩
  | 4,hu=>simp [rwq] at hu; subst hu; exact ⟨_,rfl,.int _ _⟩
  | j+5,hu=>simp [rwq] at hu
set_option maxRecDepth 20000 in
theorem Qym {f:FuncId} {fn:Func} {s:ChangeSpec} (hp:fn.params = #[22,3,3]) (hr:fn.resultTypes = #[4]) (hv:s.vars=[])
 (hs:∀ (H:Type) (d1 d2 d3:DataW H),s.fn H [d1,d2,d3]={ results:=[.lit (.bool true)],args:=[d1,d2,d3] })
 (hlaid:laidOutB Tryz.prog=true) (hr22:Tryz.prog.readableRec 22=true) (hr3:Tryz.prog.readableRec 3=true) (hs22:22<Tryz.prog.types.size) (hs3:3<Tryz.prog.types.size)
 (law:∀ (zs:List RawPt) (n d:Int),(∀ z∈zs,z.Ok)->(-2^63≤n/\n≤2^63-1)->(-2^63≤d/\d≤2^63-1)->Uk Tryz.prog f [.one (.row (Qe8 zs)),.one (.int .i64 n),.one (.int .i64 d)] [.one (.bool true)])
 {H:Type} {enc:TypeId×Value->H} {W:World} {base:Nat} {args:Array Value} {ds gs:List (DataW H)} {Qwz:List MemPlace} {fresh handsOn:Bool}
 (hval:∀ (j:Nat) t v,fn.params[j]? = some t->args[j]? = some v->Value.okWide Tryz.prog W .any base t v)
 (hW:DataW.Whole enc Tryz.prog fn.params.toList s.vars false W args.toList ds gs Qwz)
 (hz:(DataW.weightsEach Tryz.prog (fn.params.toList++s.plain.varTypes Tryz.prog) (ds++gs)).all (· <= reachBytes)=true) :
 Calls Tryz.prog f args W λe W'=>∃ v,e=.returned v/\s.post enc Tryz.prog fn false fresh handsOn false W args v W':=by
 have hW':=hW;obtain ⟨p,q,hA0,hV,rfl,hfz,hnd⟩:=hW;have hA:DataW.TrodAll enc Tryz.prog W 0 (λ_=>true) true fn.params.toList args.toList ds p:=hA0;rw [hv] at hV;obtain ⟨rfl,rfl⟩:=trodVars_none hV;have hlt:=hW'.lt;rw [hp] at hA hval hz;obtain ⟨v0,vs0,d0,ds0,p0,q0,hargs0,rfl,rfl,h0,r0⟩:=trodAll_cons hA;obtain ⟨v1,vs1,d1,ds1,p1,q1,rfl,rfl,rfl,h1,r1⟩:=trodAll_cons r0;obtain ⟨v2,vs2,d2,ds2,p2,q2,rfl,rfl,rfl,h2,r2⟩:=trodAll_cons r1;obtain ⟨rfl,rfl,rfl⟩:=trodAll_nil r2;obtain rfl:args = #[v0,v1,v2]:=by cases args; simp_all
 obtain ⟨n,rfl,rfl,rfl,w1⟩:=open_int Tryz.underlying3 (hval 1 3 v1 rfl rfl) h1;obtain ⟨d,rfl,rfl,rfl,w2⟩:=open_int Tryz.underlying3 (hval 2 3 v2 rfl rfl) h2;have hv0:=hval 0 22 v0 rfl rfl;obtain ⟨a,len,cap,rfl⟩:=okWide_slice Tryz.underlying22 hv0;have hz0:(d0.weights Tryz.prog 22).all (· <= reachBytes)=true:=by
  rw [Yu] at hz ⊢;intro k hk;exact hz k (DataW.weights_mem_each (j:=0) rfl rfl k hk)
 have h0':=h0;obtain ⟨fu,h0'⟩:=h0';obtain ⟨v,zs,e0,hok,hlen,hrep⟩:=Qe6 (sz:=5) (Ok:=RawPt.Ok) (rw_:=rwq) Tryz.underlying22 (by kernel_rfl) (by decide) (of_decide_eq_true (by kernel_rfl)) (λ_=>rfl) Qy9 h0' hz0;have f0:Value.slice a len cap=v:=(List.cons.inj (show [Value.slice a len cap]=[v] from e0)).1;subst f0;have hd1:-2^63<=d/\d<=2^63-1:=by simpa [Lit.wf,IntKind.min,IntKind.max,IntKind.signed,IntKind.bits] using w2
 have hrep:LRep W (λ_=>False) (.slice a len cap) (.row (Qe8 zs)):=hrep;have hn1:-2^63<=n/\n<=2^63-1:=by simpa [Lit.wf,IntKind.min,IntKind.max,IntKind.signed,IntKind.bits] using w1
 have hcall:=(law zs n d hok hn1 hd1).2 (fr0 W) (λ_=>none) (λ_=>False) W [.slice a len cap,.int .i64 n,.int .i64 d] (hs0 W) (.cons (show XRep W (λ_=>False) (λ_=>none) (.slice a len cap) (.row (Qe8 zs)) from hrep.x) (.cons (show XRep W (λ_=>False) (λ_=>none) (.int .i64 n) (.int .i64 n) from (LRep.int .i64 n).x) (.cons (show XRep W (λ_=>False) (λ_=>none) (.int .i64 d) (.int .i64 d) from (LRep.int .i64 d).x) .nil)));refine hcall.mono λe W' ⟨v,u,Bo,E',M',he,⟨hu,hBo⟩,_,hm,har⟩=>?_
 subst hu;obtain rfl:v=.bool true:=by
  have h:LRep _ _ v (.bool true):=har;cases h;rfl
 refine ⟨_,he,?_⟩;refine ⟨[d0,.lit (.int .i64 n),.lit (.int .i64 d)],[],_,[],p0++([]++([]++[])),[],hW',?_,?_,?_,Zgo hm _,λh=>by cases h⟩
 ·rw [hr,Xi,hs];exact trodAll_cons_mk (shut_bool Tryz.underlying4 true) trodAll_mk0
 ·rw [hp,Xi,hs];have hb:∀ p∈p0,p.block<W.heap.size:=λp hp=>hlt p (by simp [hp])
  exact trodAll_cons_mk (Trod_stays hlaid hr22 hs22 h0 (λp hp=>Zh4 hm (hb p hp)) (λp hp=>by simpa using hb p hp)) (trodAll_cons_mk (shut_int Tryz.underlying3 w1) (trodAll_cons_mk (shut_int Tryz.underlying3 w2) trodAll_mk0))
 ·rw [hv,Xi,hs];rfl
end Orr
