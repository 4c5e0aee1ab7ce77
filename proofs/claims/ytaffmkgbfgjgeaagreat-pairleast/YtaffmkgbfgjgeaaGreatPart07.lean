/- ARef05 RefGL ARef05B AvFull ARef05C ARef05D ARef05E RefCL ARef12 AvIns RefIL -/
import Derived.Test.YtaffmkgbfgjgeaaGreatPart06
import Derived.Test.YtaffmkgbfgjgeaaGreatPart05
import Derived.Test.YtaffmkgbfgjgeaaGreatPart00
import Derived.Test.YtaffmkgbfgjgeaaGreatPart02
import Derived.Test.YtaffmkgbfgjgeaaGreatPart04
set_option linter.all false

namespace Orr
open Go Go.Proofs
def Zm (p:List Rat):LV:=.row (p.map rr)
theorem Za (p:List Rat):We (Zm p)=some p.length:=by simp [Zm,We]
theorem Hu  : Q8 Tryz.prog 186 [] (.agg [dl ((dig (((0:Rat)).num).natAbs)),sg (((0:Rat)).num),dl ((dig ((((0:Rat)).den:Int)).natAbs)),sg ((((0:Rat)).den:Int))]):=by
 refine X2 tt 0 [] qGn Tryz.ntmps186 rfl rfl rfl ?_
 refine Zn (Ql Sl rfl rfl fun g1=>ko ?_)
 refine Qw tt rfl ?_
 refine kl tt 1 [0] qGd rfl rfl rfl (P9 (n:=0) (d:=1) (by decide) (by decide)) rfl rfl ?_
 exact Xq tt [0] rfl (by rw [show Q3 0 1=0 by decide])
theorem Wr {p:List Rat} (hp:Rb 100000000 p) (hl:p.length≤1099511627776):Q8 Tryz.prog 140 [.one (Zm p)] (.one (Zm ((U9 p)))):=by
 refine X2 tt 2 [] qFh Tryz.ntmps140 rfl rfl rfl ?_
 refine Qf tt 1 [] (Qj (m:=p.length) J5 rfl (Za _) rfl) rfl ?_
 refine Qk [0,3] rfl rfl ?_
 refine Zj (fun m L B=>∃ n,n≤p.length∧(∀ j x,n≤j→p[j]? = some x→x=0)∧m=n∧L=[(0,.one (Zm p)),(3,.one (.int .i64 (((n:Nat):Int))))]∧B=[]) (m:=_) ⟨p.length,Ji _,fun j x hj hx=>absurd (Wz.1 hx).1 (by omega),rfl,rfl,rfl⟩ ?_
 rintro m L B ⟨n,hp0,hp1,hm,rfl,rfl⟩
 refine Qw tt rfl ?_
 by_cases hn0:0<n
 ·obtain ⟨y,hy⟩:∃ y,p[n-1]? = some y:=⟨_,Xv (by omega)⟩
  by_cases hy0:y=0
  refine Qw tt rfl ?_
  ·skip
   refine Qr tt 3 rfl ?_
   refine Qf tt 0 [] ((Qd rfl rfl (decide_eq_true (by omega)) (Qv tt rfl rfl))) rfl ?_
   refine Qf tt 0 [] ((Qd rfl rfl (decide_eq_true (by omega)) (Qv tt rfl rfl))) rfl ?_
   refine Qf tt 0 [] ((Qd rfl rfl (decide_eq_true (by omega)) (Xs (r:=((n-1:Nat):Int)) rfl rfl (Qm (by omega) (by omega)) rfl))) rfl ?_
   refine Qf tt 0 [] ((Qd rfl rfl (decide_eq_true (by omega)) (Qi (n-1) J5 Uo rfl rfl (rfl) (Qg hy) rfl rfl))) rfl ?_
   refine Qf tt 0 [] ((Qd rfl rfl (decide_eq_true (by omega)) (Qv tt rfl rfl))) rfl ?_
   refine Qf tt 0 [] ((Qd rfl rfl (decide_eq_true (by omega)) (Qv tt rfl rfl))) rfl ?_
   refine Qf tt 0 [] ((Qd rfl rfl (decide_eq_true (by omega)) (Zs qUt rfl rfl rfl rfl (V7 (Xa (hp.get hy).1 (by omega))) rfl))) rfl ?_
   refine Qf tt 0 [] (Zp rfl (decide_eq_true (by omega)) rfl rfl) rfl ?_
   refine Xf tt 1 [] (decide_eq_true (Rat.num_eq_zero.2 hy0)) rfl rfl ?_
   refine Qf tt 1 [] (Xs (r:=((n-1:Nat):Int)) rfl rfl (Qm (by omega) (by omega)) rfl) rfl ?_
   refine Qk [0,3] rfl rfl ?_
   refine Q7 ?_
   refine ⟨_,?_,n-1,by omega,fun j x hj hx=>by
     rcases Mp j n with h1 | h1
     ·have:j=n-1:=by omega
      subst this; rw [hy] at hx; injection hx with hx; rw [←hx]; exact hy0
     ·exact hp1 j x h1 hx,rfl,rfl,rfl⟩
   omega
  skip
  refine Qr tt 3 rfl ?_
  refine Qf tt 0 [] ((Qd rfl rfl (decide_eq_true (by omega)) (Qv tt rfl rfl))) rfl ?_
  refine Qf tt 0 [] ((Qd rfl rfl (decide_eq_true (by omega)) (Qv tt rfl rfl))) rfl ?_
  refine Qf tt 0 [] ((Qd rfl rfl (decide_eq_true (by omega)) (Xs (r:=((n-1:Nat):Int)) rfl rfl (Qm (by omega) (by omega)) rfl))) rfl ?_
  refine Qf tt 0 [] ((Qd rfl rfl (decide_eq_true (by omega)) (Qi (n-1) J5 Uo rfl rfl (rfl) (Qg hy) rfl rfl))) rfl ?_
  refine Qf tt 0 [] ((Qd rfl rfl (decide_eq_true (by omega)) (Qv tt rfl rfl))) rfl ?_
  refine Qf tt 0 [] ((Qd rfl rfl (decide_eq_true (by omega)) (Qv tt rfl rfl))) rfl ?_
  refine Qf tt 0 [] ((Qd rfl rfl (decide_eq_true (by omega)) (Zs qUt rfl rfl rfl rfl (V7 (Xa (hp.get hy).1 (by omega))) rfl))) rfl ?_
  refine Qf tt 0 [] (Zp rfl (decide_eq_true (by omega)) rfl rfl) rfl ?_
  refine Xb tt 2 [] (decide_eq_false fun e=>hy0 (Rat.num_eq_zero.1 e)) rfl rfl ?_
  have hcut:=Dp (l:=p) (m:=n) hp0 hp1 (fun _=>⟨y,hy,hy0⟩)
  refine Qf tt 1 [] (Fd n J5 Uo rfl rfl rfl (by rw [Zw]; omega) (Vu p (sz:=4) (fun _=>rfl)) (l':=(U9 p).map rr) (by rw [hcut,qXu]) rfl) rfl ?_
  exact Xq tt [] rfl (rfl)
 skip
 refine Qr tt 3 rfl ?_
 refine Qf tt 0 [] (Qh rfl rfl (decide_eq_false (by omega)) rfl) rfl ?_
 refine Qf tt 0 [] (Qh rfl rfl (decide_eq_false (by omega)) rfl) rfl ?_
 refine Qf tt 0 [] (Qh rfl rfl (decide_eq_false (by omega)) rfl) rfl ?_
 refine Qf tt 0 [] (Qh rfl rfl (decide_eq_false (by omega)) rfl) rfl ?_
 refine Qf tt 0 [] (Qh rfl rfl (decide_eq_false (by omega)) rfl) rfl ?_
 refine Qf tt 0 [] (Qh rfl rfl (decide_eq_false (by omega)) rfl) rfl ?_
 refine Qf tt 0 [] (Qh rfl rfl (decide_eq_false (by omega)) rfl) rfl ?_
 refine Qf tt 0 [] (Zu rfl (decide_eq_false (by omega)) rfl rfl) rfl ?_
 refine Xb tt 2 [] (rfl) rfl rfl ?_
 have hcut:=Dp (l:=p) (m:=n) hp0 hp1 (fun h=>absurd h hn0)
 refine Qf tt 1 [] (Fd n J5 Uo rfl rfl rfl (by rw [Zw]; omega) (Vu p (sz:=4) (fun _=>rfl)) (l':=(U9 p).map rr) (by rw [hcut,qXu]) rfl) rfl ?_
 exact Xq tt [] rfl (rfl)
theorem Qcx {p:List Rat} {i:Nat} (hi:i<1099511627776):Q8 Tryz.prog 207 [.one (Zm p),.one (.int .i64 (((i:Nat):Int)))] (.agg [dl ((dig (((p.getD i 0)).num).natAbs)),sg (((p.getD i 0)).num),dl ((dig ((((p.getD i 0)).den:Int)).natAbs)),sg ((((p.getD i 0)).den:Int))]):=by
 refine X2 tt 0 [] Tryz.func207 Tryz.ntmps207 rfl rfl rfl ?_
 by_cases h1:i<p.length
 ·obtain ⟨x,hx⟩:∃ x,p[i]? = some x:=⟨_,Xv h1⟩
  refine Qw tt rfl ?_
  refine Zn (Ql Sl rfl rfl fun g1=>ko ?_)
  refine Qr tt 3 rfl ?_
  refine Qf tt 0 [] ((Qd rfl rfl (decide_eq_false (by omega)) (Qv tt rfl rfl))) rfl ?_
  refine Qf tt 0 [] ((Qd rfl rfl (decide_eq_false (by omega)) (Qv tt rfl rfl))) rfl ?_
  refine Qf tt 0 [] ((Qd rfl rfl (decide_eq_false (by omega)) (Qj (m:=p.length) J5 rfl (Za _) rfl))) rfl ?_
  refine Qf tt 0 [] ((Qd rfl rfl (decide_eq_false (by omega)) (Qv tt rfl rfl))) rfl ?_
  refine Qf tt 0 [] (Zu rfl (decide_eq_false (by omega)) rfl rfl) rfl ?_
  refine Xb tt 2 [] (decide_eq_false (by omega)) rfl rfl ?_
  refine Qf tt 2 [0] (Qi (i) J5 Uo rfl rfl (rfl) (Qg hx) rfl rfl) rfl ?_
  exact Xq tt [0] rfl (by rw [Ve,hx]; rfl)
 skip
 refine Qw tt rfl ?_
 refine Zn (Ql Sl rfl rfl fun g2=>ko ?_)
 refine Qr tt 3 rfl ?_
 refine Qf tt 0 [] ((Qd rfl rfl (decide_eq_false (by omega)) (Qv tt rfl rfl))) rfl ?_
 refine Qf tt 0 [] ((Qd rfl rfl (decide_eq_false (by omega)) (Qv tt rfl rfl))) rfl ?_
 refine Qf tt 0 [] ((Qd rfl rfl (decide_eq_false (by omega)) (Qj (m:=p.length) J5 rfl (Za _) rfl))) rfl ?_
 refine Qf tt 0 [] ((Qd rfl rfl (decide_eq_false (by omega)) (Qv tt rfl rfl))) rfl ?_
 refine Qf tt 0 [] (Zu rfl (decide_eq_false (by omega)) rfl rfl) rfl ?_
 refine Xf tt 0 [] (decide_eq_true (by omega)) rfl rfl ?_
 refine kl tt 1 [0] qGn rfl rfl rfl (Hu) rfl rfl ?_
 exact Xq tt [0] rfl (by rw [Ve,Eu (by omega)]; rfl)
theorem Qn1 {p q:List Rat} (hp:Rb 20000000 p) (hq:Rb 20000000 q) (n:Nat):Rb 100000000 (Uc (fun i=>p.getD i 0+q.getD i 0) n):=Px fun i _=>(Qwj (hp.getD (by omega) i) (hq.getD (by omega) i)).mono (by omega)
theorem Qw1 {s t:Nat} {a b:Rat} (ha:Qs s a) (hb:Qs t b):Qs (s+t+1) (a*b):=by
 rw [←Qdf]
 unfold Q3
 rw [if_neg (qJg (U6 a) (U6 b))]
 exact Qs.divInt (Xa (Z2 _ _) (by have:=ha.1; have:=hb.1; omega)) (Xa (Z2 _ _) (by have:=ha.2; have:=hb.2; omega)) (by omega)
theorem Qai {p q:List Rat} (hp:Rb 20000000 p) (hq:Rb 20000000 q) (hlp:p.length≤1000000) (hlq:q.length≤1000000):Q8 Tryz.prog 126 [.one (Zm p),.one (Zm q)] (.one (Zm ((Qtx p q)))):=by
 refine X2 tt 3 [] Tryz.func126 Tryz.ntmps126 rfl rfl rfl ?_
 refine X5 (fun _ k_=>X9 [5] 34 4 rfl (Zg rfl) rfl (Qo k_)) rfl ?_
 refine Qk [0,1,5,6] rfl rfl ?_
 refine Zj (fun m L B=>∃ i r,i≤(max p.length q.length)∧m=(max p.length q.length)-i∧L=[(0,.one (Zm p)),(1,.one (Zm q)),(5,.one (.orow r 4 0 i)),(6,.one (.int .i64 (((i:Nat):Int))))]∧B=[.row r 34 4 ((Uc (fun i=>p.getD i 0+q.getD i 0) i).map rr)]) (m:=_) ⟨0,none,K7 _,rfl,rfl,rfl⟩ ?_
 rintro m L B ⟨i,r,hp0,hm,rfl,rfl⟩
 refine Qw tt rfl ?_
 by_cases hlt:i<(max p.length q.length)
 ·skip
  refine Qr tt 2 rfl ?_
  refine Qf tt 1 [] (Qj (m:=p.length) J5 rfl (Za _) rfl) rfl ?_
  refine Qf tt 0 [] (Qj (m:=q.length) J5 rfl (Za _) rfl) rfl ?_
  refine Qf tt 1 [] (Qbk (r:=(((max p.length q.length):Nat):Int)) rfl rfl (by omega) rfl) rfl ?_
  refine Xf tt 3 [] (decide_eq_true (by omega)) rfl rfl ?_
  refine kl tt 2 [] Tryz.func207 rfl rfl rfl (Qcx (p:=p) (i:=i) (by omega)) rfl rfl ?_
  refine kl tt 0 [] Tryz.func207 rfl rfl rfl (Qcx (p:=q) (i:=i) (by omega)) rfl rfl ?_
  refine kl tt 1 [] Tryz.func187 rfl rfl rfl (Qaa (a:=((List.getD p i 0))) (b:=((List.getD q i 0))) (hp.getD (by omega) i) (hq.getD (by omega) i)) rfl rfl ?_
  refine Zn (Zo (ls2:=(Uc (fun i=>p.getD i 0+q.getD i 0) (i+1)).map rr) (m2:=i+1) 0 J5 J5 qWz rfl rfl Uo Sl rfl rfl rfl rfl rfl rfl rfl (by rw [Zw,Xp]; omega) (Yh rfl) (Ya rfl) (by show _+1<_; omega) (by rw [Vh (by rw [Zw,Xp]; exact Ji _),Hm,G2]; rfl) (rfl) fun r1=>ko ?_)
  refine Qr tt 2 rfl ?_
  refine Qf tt 1 [] (Q6 (r:=((i+1:Nat):Int)) rfl rfl (Qm (by omega) (by omega)) rfl) rfl ?_
  refine Qk [0,1,5,6] rfl rfl ?_
  refine Q7 ?_
  refine ⟨_,?_,i+1,r1,by omega,rfl,rfl,rfl⟩
  omega
 have hin:i=(max p.length q.length):=by omega
 refine Qr tt 2 rfl ?_
 refine Qf tt 1 [] (Qj (m:=p.length) J5 rfl (Za _) rfl) rfl ?_
 refine Qf tt 0 [] (Qj (m:=q.length) J5 rfl (Za _) rfl) rfl ?_
 refine Qf tt 1 [] (Qbk (r:=(((max p.length q.length):Nat):Int)) rfl rfl (by omega) rfl) rfl ?_
 refine Xb tt 1 [] (decide_eq_false (by omega)) rfl rfl ?_
 refine X5 (fun _ k_=>Xm 0 [26] rfl (Zg rfl) (by rw [Zw,Xp]) (by rw [Zw,Xp]; omega) rfl (Qo k_)) rfl ?_
 refine Qw tt rfl ?_
 refine kl tt 1 [] qFh rfl rfl rfl (Wr (p:=(Uc (fun i=>p.getD i 0+q.getD i 0) i)) (Qn1 hp hq _) (by rw [Xp]; omega)) rfl rfl ?_
 exact Xq tt [] rfl (by rw [hin]; rfl)
theorem Iq {l:List Rat} {i:Nat} (h:i<l.length):l[i]? = some (l.getD i 0):=by
 rw [Ve,Xv h]; rfl
set_option maxRecDepth 20000 in
theorem Ua {p:List Rat} {c:Rat} (hp:Rb 40000000 p) (hc:Qs 40000000 c) (hl:p.length≤1000000):Q8 Tryz.prog 215 [.one (Zm p),.agg [dl ((dig ((c).num).natAbs)),sg ((c).num),dl ((dig (((c).den:Int)).natAbs)),sg (((c).den:Int))]] (.one (Zm ((Gi p c)))):=by
 refine X2 tt 4 [] qFt Tryz.ntmps215 rfl rfl rfl ?_
 refine Qf tt 1 [] (Qj (m:=p.length) J5 rfl (Za _) rfl) rfl ?_
 refine X5 (fun _ k_=>X9 [5] 34 4 rfl (Zg rfl) rfl (Qo k_)) rfl ?_
 refine Qk [0,3,8,5,9] rfl rfl ?_
 refine Zj (fun m L B=>∃ i r,i≤p.length∧m=p.length-i∧L=[(0,.one (Zm p)),(3,.one (.sh [dl ((dig ((c).num).natAbs)),sg ((c).num),dl ((dig (((c).den:Int)).natAbs)),sg (((c).den:Int))])),(8,.one (.int .i64 (((p.length:Nat):Int)))),(5,.one (.orow r 4 0 i)),(9,.one (.int .i64 (((i:Nat):Int))))]∧B=[.row r 34 4 ((Uc (fun i=>p.getD i 0*c) i).map rr)]) (m:=_) ⟨0,none,K7 _,rfl,rfl,rfl⟩ ?_
 rintro m L B ⟨i,r,hp0,hm,rfl,rfl⟩
 refine Qw tt rfl ?_
 by_cases hlt:i<p.length
 ·obtain ⟨x,hx⟩:∃ x,p[i]? = some x:=⟨_,Xv hlt⟩
  have hxd:p.getD i 0=x:=by rw [Ve,hx]; rfl
  refine Qr tt 1 rfl ?_
  refine Xf tt 2 [] (decide_eq_true (by omega)) rfl rfl ?_
  refine Qx 8 Qp rfl rfl rfl ?_
  refine Qr tt 3 rfl ?_
  refine kd (Qi (i) J5 Uo rfl rfl (rfl) (Qg (Iq hlt)) rfl rfl) rfl ?_
  refine Qr tt 2 rfl ?_
  refine Ye tt 1 [] Tryz.func154 rfl rfl rfl (A4 (a:=((p.getD i 0))) (b:=c) (hp.getD (by omega) i) (hc)) rfl rfl ?_
  refine Qw tt rfl ?_
  refine Zn (Zo (ls2:=(Uc (fun i=>p.getD i 0*c) (i+1)).map rr) (m2:=i+1) 0 J5 J5 qWz rfl rfl Uo Sl rfl rfl rfl rfl rfl rfl rfl (by rw [Zw,Xp]; omega) (Yh rfl) (Ya rfl) (by show _+1<_; omega) (by rw [Vh (by rw [Zw,Xp]; exact Ji _),Hm,G2]; rfl) (rfl) fun r1=>ko ?_)
  refine Qr tt 1 rfl ?_
  refine Qf tt 1 [] (Q6 (r:=((i+1:Nat):Int)) rfl rfl (Qm (by omega) (by omega)) rfl) rfl ?_
  refine Qk [0,3,8,5,9] rfl rfl ?_
  refine Q7 ?_
  refine ⟨_,?_,i+1,r1,by omega,rfl,rfl,rfl⟩
  omega
 have hin:i=p.length:=by omega
 refine Qr tt 1 rfl ?_
 refine Xb tt 1 [] (decide_eq_false (by omega)) rfl rfl ?_
 refine X5 (fun _ k_=>Xm 0 [22] rfl (Zg rfl) (by rw [Zw,Xp]) (by rw [Zw,Xp]; omega) rfl (Qo k_)) rfl ?_
 refine Qw tt rfl ?_
 refine kl tt 1 [] qFh rfl rfl rfl (Wr (p:=(Uc (fun i=>p.getD i 0*c) i)) (Px fun i _=>(Qw1 (hp.getD (by omega) i) hc).mono (by omega)) (by rw [Xp]; omega)) rfl rfl ?_
 exact Xq tt [] rfl (by rw [hin]; rfl)
theorem O4 {p:List Rat} (hp:Rb 40000000 p) (hl:p.length≤1000000):Q8 Tryz.prog 182 [.one (Zm p)] (.one (Zm ((Qnj p)))):=by
 refine X2 tt 2 [] Tryz.func182 Tryz.ntmps182 rfl rfl rfl ?_
 refine kl tt 0 [] qGd rfl rfl rfl (P9 (n:=(-1)) (d:=1) (by decide) (by decide)) rfl rfl ?_
 refine kl tt 1 [] qFt rfl rfl rfl (Ua (p:=p) (c:=((Q3 (-1) 1))) (hp) (⟨by decide,by decide⟩) (hl)) rfl rfl ?_
 exact Xq tt [] rfl (by rw [show Q3 (-1) 1=-1 by decide]; rfl)
theorem Qu8 {s:Nat} {p:List Rat} (h:Rb s p) (h1:1≤s):Rb s (Qnj p):=by
 refine Rb.trim (Px fun i _=>?_)
 have:=h.getD h1 i
 rw [show p.getD i 0*-1=-(p.getD i 0) by grind]
 exact ⟨by rw [Rat.neg_num,Xk]; exact this.1,by rw [Rat.neg_den]; exact this.2⟩
theorem Qrd (p:List Rat):(Qnj p).length≤p.length:=Xa (Qc6 _) (by rw [Xp]; exact Ji _)
theorem Qjh {p q:List Rat} (hp:Rb 20000000 p) (hq:Rb 20000000 q) (hlp:p.length≤1000000) (hlq:q.length≤1000000):Q8 Tryz.prog 108 [.one (Zm p),.one (Zm q)] (.one (Zm ((Qxu p q)))):=by
 refine X2 tt 3 [] Tryz.func108 Tryz.ntmps108 rfl rfl rfl ?_
 refine kl tt 0 [] Tryz.func182 rfl rfl rfl (O4 (p:=q) (hq.mono (by omega)) (hlq)) rfl rfl ?_
 refine kl tt 1 [] Tryz.func126 rfl rfl rfl (Qai (p:=p) (q:=(Qnj q)) (hp) (Qu8 hq (by omega)) (hlp) (Xa (Qrd q) hlq)) rfl rfl ?_
 exact Xq tt [] rfl (rfl)
theorem Qci (z:Int):Q3 z 1=(z:Rat):=by
 unfold Q3
 rw [if_neg (by decide)]
 show Rat.divInt z 1=_
 have:=qXw (z:Rat)
 simpa using this
theorem Q2t (p:List Int):Uc (fun i=>((p.getD i 0:Int):Rat)) p.length=zp p:=by
 rw [Mm (g:=fun i=>p.getD i 0) _ fun i _=>rfl,G1]
def Qez (f:Nat→Int) (n:Nat):List Int:=(List.range n).map f
theorem C5 (f:Nat→Int) (n:Nat):(Qez f n).length=n:=by simp [Qez]
theorem Qmt (f:Nat→Int) (n:Nat):Qez f (n+1)=Qez f n++[f n]:=by simp [Qez,qVz]
theorem Qqn (p:List Int):Qez (fun i=>((zp p).getD i 0).num) p.length=p:=by
 have:(fun i=>((zp p).getD i 0).num)=fun i=>p.getD i 0:=by funext i; rw [Mb]; rfl
 rw [this]; exact G1 p
theorem Ku {z:Int} (hz:Xh z≤90000000):Q8 Tryz.prog 103 [.agg (ri z),.agg (ri 1)] (.agg (rr (z:Rat))):=by
 have h:=F6 (a:=z) (b:=1) hz (by decide)
 rwa [Qci] at h
theorem Rl {p:List Int} (hp:Bd 90000000 p) (hl:p.length≤1000000):Q8 Tryz.prog 185 [.one (pl p)] (.one (Zm ((zp (trim p))))):=by
 refine X2 tt 3 [] Tryz.func185 Tryz.ntmps185 rfl rfl rfl ?_
 refine Qf tt 1 [] (Qj (m:=p.length) Kr rfl (Jq _) rfl) rfl ?_
 refine X5 (fun _ k_=>X9 [3] 34 4 rfl (Zg rfl) rfl (Qo k_)) rfl ?_
 refine Qk [0,6,3,7] rfl rfl ?_
 refine Zj (fun m L B=>∃ i r,i≤p.length∧m=p.length-i∧L=[(0,.one (pl p)),(6,.one (.int .i64 (((p.length:Nat):Int)))),(3,.one (.orow r 4 0 i)),(7,.one (.int .i64 (((i:Nat):Int))))]∧B=[.row r 34 4 ((Uc (fun i=>((p.getD i 0:Int):Rat)) i).map rr)]) (m:=_) ⟨0,none,K7 _,rfl,rfl,rfl⟩ ?_
 rintro m L B ⟨i,r,hp0,hm,rfl,rfl⟩
 refine Qw tt rfl ?_
 by_cases hlt:i<p.length
 ·skip
  refine Qr tt 1 rfl ?_
  refine Xf tt 5 [] (decide_eq_true (by omega)) rfl rfl ?_
  refine Qf tt 1 [] (Qi (i) Kr J6 rfl rfl (rfl) (Qg (getD_some hlt)) rfl rfl) rfl ?_
  refine kl tt 0 [] Tryz.func184 rfl rfl rfl (N4 (z:=((p.getD i 0))) (Xa (Zl hp i) (by omega))) rfl rfl ?_
  refine kl tt 0 [] qWv rfl rfl rfl (Yt (n:=1) (by omega)) rfl rfl ?_
  refine kl tt 1 [] qUj rfl rfl rfl (Ku (z:=p.getD i 0) (Zl hp i)) rfl rfl ?_
  refine Zn (Zo (ls2:=(Uc (fun i=>((p.getD i 0:Int):Rat)) (i+1)).map rr) (m2:=i+1) 0 J5 J5 qWz rfl rfl Uo Sl rfl rfl rfl rfl rfl rfl rfl (by rw [Zw,Xp]; omega) (Yh rfl) (Ya rfl) (by show _+1<_; omega) (by rw [Vh (by rw [Zw,Xp]; exact Ji _),Hm,G2]; rfl) (rfl) fun r1=>ko ?_)
  refine Qr tt 1 rfl ?_
  refine Qf tt 1 [] (Q6 (r:=((i+1:Nat):Int)) rfl rfl (Qm (by omega) (by omega)) rfl) rfl ?_
  refine Qk [0,6,3,7] rfl rfl ?_
  refine Q7 ?_
  refine ⟨_,?_,i+1,r1,by omega,rfl,rfl,rfl⟩
  omega
 have hin:i=p.length:=by omega
 refine Qr tt 1 rfl ?_
 refine Xb tt 1 [] (decide_eq_false (by omega)) rfl rfl ?_
 refine X5 (fun _ k_=>Xm 0 [21] rfl (Zg rfl) (by rw [Zw,Xp]) (by rw [Zw,Xp]; omega) rfl (Qo k_)) rfl ?_
 refine Qw tt rfl ?_
 refine kl tt 1 [] qFh rfl rfl rfl (Wr (p:=(Uc (fun i=>((p.getD i 0:Int):Rat)) i)) (Px fun i _=>Ue (Xa (Zl hp i) (by omega)) (by omega)) (by rw [Xp]; omega)) rfl rfl ?_
 exact Xq tt [] rfl (by rw [hin,Q2t,Fq])
theorem Qb3 {p:List Int} (hp:Bd 100000000 p) (hl:p.length≤1000000):Q8 Tryz.prog 81 [.one (Zm ((zp p)))] (.one (pl p)):=by
 refine X2 tt 3 [] Tryz.func81 Tryz.ntmps81 rfl rfl rfl ?_
 refine Qf tt 1 [] (Qj (m:=p.length) J5 rfl (by rw [Za,Zf]) rfl) rfl ?_
 refine X5 (fun _ k_=>X9 [3] 55 2 rfl (Zg rfl) rfl (Qo k_)) rfl ?_
 refine Qk [0,6,3,7] rfl rfl ?_
 refine Zj (fun m L B=>∃ i r,i≤p.length∧m=p.length-i∧L=[(0,.one (Zm ((zp p)))),(6,.one (.int .i64 (((p.length:Nat):Int)))),(3,.one (.orow r 2 0 i)),(7,.one (.int .i64 (((i:Nat):Int))))]∧B=[.row r 55 2 ((Qez (fun i=>((zp p).getD i 0).num) i).map Wy)]) (m:=_) ⟨0,none,K7 _,rfl,rfl,rfl⟩ ?_
 rintro m L B ⟨i,r,hp0,hm,rfl,rfl⟩
 refine Qw tt rfl ?_
 by_cases hlt:i<p.length
 ·skip
  refine Qr tt 1 rfl ?_
  refine Xf tt 5 [] (decide_eq_true (by omega)) rfl rfl ?_
  refine Qf tt 2 [] (Qi (i) J5 Uo rfl rfl (rfl) (Qg (Iq (by rw [Zf]; exact hlt))) rfl rfl) rfl ?_
  refine kl tt 1 [] qGc rfl rfl rfl (Te (Xa ((R4 hp (by omega)).getD (by omega) i).1 (by omega))) rfl rfl ?_
  refine Zn (Zo (ls2:=(Qez (fun i=>((zp p).getD i 0).num) (i+1)).map Wy) (m2:=i+1) 0 Kr Kr qWr rfl rfl J6 Ko rfl rfl rfl rfl rfl rfl rfl (by rw [Zw,C5]; omega) (Yh rfl) (Ya rfl) (by show _+1<_; omega) (by rw [Vh (by rw [Zw,C5]; exact Ji _),Qmt,G2]; rfl) (rfl) fun r1=>ko ?_)
  refine Qr tt 1 rfl ?_
  refine Qf tt 1 [] (Q6 (r:=((i+1:Nat):Int)) rfl rfl (Qm (by omega) (by omega)) rfl) rfl ?_
  refine Qk [0,6,3,7] rfl rfl ?_
  refine Q7 ?_
  refine ⟨_,?_,i+1,r1,by omega,rfl,rfl,rfl⟩
  omega
 have hin:i=p.length:=by omega
 refine Qr tt 1 rfl ?_
 refine Xb tt 2 [] (decide_eq_false (by omega)) rfl rfl ?_
 refine X5 (fun _ k_=>Xm 0 [2] rfl (Zg rfl) (by rw [Zw,C5]) (by rw [Zw,C5]; omega) rfl (Qo k_)) rfl ?_
 exact Xq tt [] rfl (by rw [hin,Qqn]; rfl)
theorem Qke {p q:List Int} (hp:Bd 20000000 p) (hq:Bd 20000000 q) (hlp:p.length≤1000000) (hlq:q.length≤1000000):Q8 Tryz.prog 126 [.one (Zm (zp p)),.one (Zm (zp q))] (.one (Zm (zp (Qif p q)))):=by
 have h:=Qai (R4 hp (by omega)) (R4 hq (by omega)) (by rw [Zf]; exact hlp) (by rw [Zf]; exact hlq)
 rwa [Qly] at h
theorem T3 {p q:List Int} (hp:Bd 20000000 p) (hq:Bd 20000000 q) (hlp:p.length≤1000000) (hlq:q.length≤1000000):Q8 Tryz.prog 108 [.one (Zm (zp p)),.one (Zm (zp q))] (.one (Zm (zp (Si p q)))):=by
 have h:=Qjh (R4 hp (by omega)) (R4 hq (by omega)) (by rw [Zf]; exact hlp) (by rw [Zf]; exact hlq)
 rwa [Quc] at h
theorem Ir {p:List Int} (hp:Bd 40000000 p) (hl:p.length≤1000000):Q8 Tryz.prog 182 [.one (Zm (zp p))] (.one (Zm (zp (Ec p)))):=by
 have h:=O4 (R4 hp (by omega)) (by rw [Zf]; exact hl)
 rwa [Qmm] at h
theorem Ar {a b:Int} (ha:Xh a≤40000000) (hb:Xh b≤40000000):Q8 Tryz.prog 154 [.agg (rr (a:Rat)),.agg (rr (b:Rat))] (.agg (rr ((a*b:Int):Rat))):=by
 have h:=A4 (Ue ha (by omega)) (Ue hb (by omega))
 rwa [←qJs] at h
theorem Qi6 {a b:Int} (ha:Xh a≤20000000) (hb:Xh b≤20000000):Q8 Tryz.prog 187 [.agg (rr (a:Rat)),.agg (rr (b:Rat))] (.agg (rr ((a+b:Int):Rat))):=by
 have h:=Qaa (Ue ha (by omega)) (Ue hb (by omega))
 rwa [←Rat.intCast_add] at h
theorem D5 {n:Int} (hn:-1000000000≤n∧n≤1000000000):Q8 Tryz.prog 139 [.one (.int .i64 n),.one (.int .i64 1)] (.agg (rr (n:Rat))):=by
 have h:=P9 (n:=n) (d:=1) hn (by decide)
 rwa [Qci] at h
theorem J9 {p:List Int} {i:Nat} (h:i<p.length):(zp p)[i]? = some ((p.getD i 0:Int):Rat):=Qwz (getD_some h)
theorem Qo8 (f:Nat→Int) (n:Nat):Uc (fun i=>((f i:Int):Rat)) n=zp (Qez f n):=Mm n fun _ _=>rfl
set_option maxRecDepth 20000 in
theorem Nz {p:List Int} (hp:Bd 40000000 p) (hl:p.length≤1000000):Q8 Tryz.prog 80 [.one (Zm ((zp p)))] (.one (Zm ((zp (Uj p))))):=by
 refine X2 tt 3 [] Tryz.func80 Tryz.ntmps80 rfl rfl rfl ?_
 refine X5 (fun _ k_=>X9 [3] 34 4 rfl (Zg rfl) rfl (Qo k_)) rfl ?_
 refine Qk [0,3,4] rfl rfl ?_
 refine Zj (fun m L B=>∃ i r,i≤(p.length-1)∧m=(p.length-1)-i∧L=[(0,.one (Zm ((zp p)))),(3,.one (.orow r 4 0 i)),(4,.one (.int .i64 ((((i+1):Nat):Int))))]∧B=[.row r 34 4 ((Uc (fun i=>((p.getD (i+1) 0*((i+1:Nat):Int):Int):Rat)) i).map rr)]) (m:=_) ⟨0,none,K7 _,rfl,rfl,rfl⟩ ?_
 rintro m L B ⟨i,r,hp0,hm,rfl,rfl⟩
 refine Qw tt rfl ?_
 by_cases hlt:i<(p.length-1)
 ·skip
  refine Qr tt 2 rfl ?_
  refine Qf tt 1 [] (Qj (m:=p.length) J5 rfl (by rw [Za,Zf]) rfl) rfl ?_
  refine Xf tt 0 [] (decide_eq_true (by omega)) rfl rfl ?_
  refine Qx 9 Qp rfl rfl rfl ?_
  refine Qr tt 3 rfl ?_
  refine kd (Qi (i+1) J5 Uo rfl rfl (by omega) (Qg (J9 (by omega))) rfl rfl) rfl ?_
  refine Qr tt 2 rfl ?_
  refine Ye tt 0 [] qGd rfl rfl rfl (D5 (n:=((i+1:Nat):Int)) (by omega)) rfl rfl ?_
  refine Ye tt 1 [] Tryz.func154 rfl rfl rfl (Ar (a:=p.getD (i+1) 0) (b:=((i+1:Nat):Int)) (Zl hp _) (Xa (E7 (t:=30) (by omega)) (by omega))) rfl rfl ?_
  refine Qw tt rfl ?_
  refine Zn (Zo (ls2:=(Uc (fun i=>((p.getD (i+1) 0*((i+1:Nat):Int):Int):Rat)) (i+1)).map rr) (m2:=i+1) 0 J5 J5 qWz rfl rfl Uo Sl rfl rfl rfl rfl rfl rfl rfl (by rw [Zw,Xp]; omega) (Yh rfl) (Ya rfl) (by show _+1<_; omega) (by rw [Vh (by rw [Zw,Xp]; exact Ji _),Hm,G2]; rfl) (rfl) fun r1=>ko ?_)
  refine Qr tt 2 rfl ?_
  refine Qf tt 1 [] (Q6 (r:=((((i+1))+1:Nat):Int)) rfl rfl (Qm (by omega) (by omega)) rfl) rfl ?_
  refine Qk [0,3,4] rfl rfl ?_
  refine Q7 ?_
  refine ⟨_,?_,i+1,r1,by omega,rfl,rfl,rfl⟩
  omega
 have hin:i=(p.length-1):=by omega
 refine Qr tt 2 rfl ?_
 refine Qf tt 1 [] (Qj (m:=p.length) J5 rfl (by rw [Za,Zf]) rfl) rfl ?_
 refine Xb tt 1 [] (decide_eq_false (by omega)) rfl rfl ?_
 refine X5 (fun _ k_=>Xm 0 [21] rfl (Zg rfl) (by rw [Zw,Xp]) (by rw [Zw,Xp]; omega) rfl (Qo k_)) rfl ?_
 refine Qw tt rfl ?_
 refine kl tt 1 [] qFh rfl rfl rfl (Wr (p:=(Uc (fun i=>((p.getD (i+1) 0*((i+1:Nat):Int):Int):Rat)) i)) (Px fun i hi=>Ue (Xa (Z2 _ _) (Xa (Nat.add_le_add (Zl hp _) (E7 (t:=30) (by omega))) (by omega))) (by omega)) (by rw [Xp]; omega)) rfl rfl ?_
 exact Xq tt [] rfl (by rw [hin,Qo8,Fq]; rfl)
theorem Qgu {p:List Int} (hl:p.length≤1000000):Q8 Tryz.prog 224 [.one (Zm ((zp p)))] (.one (.bool true)):=by
 refine X2 tt 2 [] Tryz.func224 Tryz.ntmps224 rfl rfl rfl ?_
 refine Qf tt 1 [] (Qj (m:=p.length) J5 rfl (by rw [Za,Zf]) rfl) rfl ?_
 refine Qk [0,5,6] rfl rfl ?_
 refine Zj (fun m L B=>∃ i,i≤p.length∧m=p.length-i∧L=[(0,.one (Zm ((zp p)))),(5,.one (.int .i64 (((p.length:Nat):Int)))),(6,.one (.int .i64 (((i:Nat):Int))))]∧B=[]) (m:=_) ⟨0,K7 _,rfl,rfl,rfl⟩ ?_
 rintro m L B ⟨i,hp0,hm,rfl,rfl⟩
 refine Qw tt rfl ?_
 by_cases hlt:i<p.length
 ·skip
  refine Qr tt 1 rfl ?_
  refine Xf tt 4 [] (decide_eq_true (by omega)) rfl rfl ?_
  refine Qf tt 3 [] (Qi (i) J5 Uo rfl rfl (rfl) (Qg (J9 hlt)) rfl rfl) rfl ?_
  refine Qf tt 2 [] (Qj (m:=((dig (((((p.getD i 0:Int):Rat)).den:Int)).natAbs)).length) Jl rfl (Ze _) rfl) rfl ?_
  refine Qf tt 0 [] ((Qd rfl rfl (decide_eq_false (by rw [show (dig (((((p.getD i 0:Int):Rat)).den:Int)).natAbs).length=1 by rw [show (dig (((((p.getD i 0:Int):Rat)).den:Int)).natAbs)=dig 1 from rfl,Vr]; rfl]; decide)) (Qv tt rfl rfl))) rfl ?_
  refine Qf tt 0 [] ((Qd rfl rfl (decide_eq_false (by rw [show (dig (((((p.getD i 0:Int):Rat)).den:Int)).natAbs).length=1 by rw [show (dig (((((p.getD i 0:Int):Rat)).den:Int)).natAbs)=dig 1 from rfl,Vr]; rfl]; decide)) (Qv tt rfl rfl))) rfl ?_
  refine Qf tt 0 [] ((Qd rfl rfl (decide_eq_false (by rw [show (dig (((((p.getD i 0:Int):Rat)).den:Int)).natAbs).length=1 by rw [show (dig (((((p.getD i 0:Int):Rat)).den:Int)).natAbs)=dig 1 from rfl,Vr]; rfl]; decide)) (Qi (i) J5 Uo rfl rfl (rfl) (Qg (J9 hlt)) rfl rfl))) rfl ?_
  refine Qf tt 0 [] ((Qd rfl rfl (decide_eq_false (by rw [show (dig (((((p.getD i 0:Int):Rat)).den:Int)).natAbs).length=1 by rw [show (dig (((((p.getD i 0:Int):Rat)).den:Int)).natAbs)=dig 1 from rfl,Vr]; rfl]; decide)) (Qv tt rfl rfl))) rfl ?_
  refine Qf tt 0 [] ((Qd rfl rfl (decide_eq_false (by rw [show (dig (((((p.getD i 0:Int):Rat)).den:Int)).natAbs).length=1 by rw [show (dig (((((p.getD i 0:Int):Rat)).den:Int)).natAbs)=dig 1 from rfl,Vr]; rfl]; decide)) (Qv tt rfl rfl))) rfl ?_
  refine Qf tt 0 [] ((Qd rfl rfl (decide_eq_false (by rw [show (dig (((((p.getD i 0:Int):Rat)).den:Int)).natAbs).length=1 by rw [show (dig (((((p.getD i 0:Int):Rat)).den:Int)).natAbs)=dig 1 from rfl,Vr]; rfl]; decide)) (Qv tt rfl rfl))) rfl ?_
  refine Qf tt 0 [] ((Qd rfl rfl (decide_eq_false (by rw [show (dig (((((p.getD i 0:Int):Rat)).den:Int)).natAbs).length=1 by rw [show (dig (((((p.getD i 0:Int):Rat)).den:Int)).natAbs)=dig 1 from rfl,Vr]; rfl]; decide)) (Qi (0) Jl Js rfl rfl (rfl) (Qg (by rw [show (dig (((((p.getD i 0:Int):Rat)).den:Int)).natAbs)=dig 1 from rfl,Vr]; rfl)) rfl rfl))) rfl ?_
  refine Qf tt 0 [] ((Qd rfl rfl (decide_eq_false (by rw [show (dig (((((p.getD i 0:Int):Rat)).den:Int)).natAbs).length=1 by rw [show (dig (((((p.getD i 0:Int):Rat)).den:Int)).natAbs)=dig 1 from rfl,Vr]; rfl]; decide)) (Qv tt rfl rfl))) rfl ?_
  refine Qf tt 0 [] ((Qd rfl rfl (decide_eq_false (by rw [show (dig (((((p.getD i 0:Int):Rat)).den:Int)).natAbs).length=1 by rw [show (dig (((((p.getD i 0:Int):Rat)).den:Int)).natAbs)=dig 1 from rfl,Vr]; rfl]; decide)) (Qv tt rfl rfl))) rfl ?_
  refine Qf tt 0 [] (Zu rfl (decide_eq_false (by rw [show (dig (((((p.getD i 0:Int):Rat)).den:Int)).natAbs).length=1 by rw [show (dig (((((p.getD i 0:Int):Rat)).den:Int)).natAbs)=dig 1 from rfl,Vr]; rfl]; decide)) rfl rfl) rfl ?_
  refine Xb tt 0 [] (rfl) rfl rfl ?_
  refine Qf tt 1 [] (Q6 (r:=((i+1:Nat):Int)) rfl rfl (Qm (by omega) (by omega)) rfl) rfl ?_
  refine Qk [0,5,6] rfl rfl ?_
  refine Q7 ?_
  refine ⟨_,?_,i+1,by omega,rfl,rfl,rfl⟩
  omega
 skip
 refine Qr tt 1 rfl ?_
 refine Xb tt 1 [] (decide_eq_false (by omega)) rfl rfl ?_
 exact Xq tt [] rfl (rfl)
theorem ri_zero:ri 0=[.row [],.bool false]:=by simp [ri,dl,J8,sg]
theorem Qj0 (p:List Int) (q:Rat):Int.sign (K3 p q.num q.den p.length).1=F3 p q:=by
 unfold F3 Qs3 Ng
 generalize (K3 p q.num q.den p.length).1=z
 rcases qYc z 0 with h | h | h
 ·rw [if_pos h,qJk h]
 ·subst h; rfl
 rw [if_neg (by omega),if_pos h,qJw h]
set_option maxRecDepth 20000 in
theorem Lu {p:List Int} {q:Rat} (hp:Bd 30000000 p) (hl:p.length≤64) (hq:Qs 1000000 q):Q8 Tryz.prog 151 [.one (Zm ((zp p))),.agg [dl ((dig ((q).num).natAbs)),sg ((q).num),dl ((dig (((q).den:Int)).natAbs)),sg (((q).den:Int))]] (.one (.int .i64 ((F3 p q)))):=by
 refine X2 tt 3 [] Tryz.func151 Tryz.ntmps151 rfl rfl rfl ?_
 refine kl tt 1 [] Tryz.func224 rfl rfl rfl (Qgu (p:=p) (by omega)) rfl rfl ?_
 refine Xb tt 0 [] (rfl) rfl rfl ?_
 refine Zn (Ql Cq rfl rfl fun g1=>ko ?_)
 refine Qw tt rfl ?_
 refine kw (Zs qWv rfl rfl rfl rfl (Yt (n:=1) (by omega)) rfl) ?_
 refine Zn (Ql Cq rfl rfl fun g2=>ko ?_)
 refine Xd tt 1 [0] rfl ?_
 refine X5 (fun _ k_=>Jp (ys:=ri 0) 1 rfl rfl ri_zero.symm (Qo k_)) rfl ?_
 refine Qr tt 1 rfl ?_
 refine Qf tt 0 [] (Qj (m:=p.length) J5 rfl (by rw [Za,Zf]) rfl) rfl ?_
 refine Qf tt 1 [] (Xs (r:=((p.length:Int)-1-((0:Nat):Int))) rfl rfl (Qm (by omega) (by omega)) rfl) rfl ?_
 refine Qk [0,3,5,6,7] rfl rfl ?_
 refine Zx 0 rfl rfl ?_
 refine Zx 1 rfl rfl ?_
 refine Zj (fun m L B=>∃ j,j≤p.length∧m=p.length-j∧L=[(0,.one (Zm ((zp p)))),(3,.one (.sh [dl ((dig ((q).num).natAbs)),sg ((q).num),dl ((dig (((q).den:Int)).natAbs)),sg (((q).den:Int))])),(5,.one (.ow g1 0)),(6,.one (.ow g2 0)),(7,.one (.int .i64 (((p.length:Int)-1-(j:Int)))))]∧B=[.blk g2 32 [dl ((dig ((K3 p q.num q.den j).2).natAbs)),sg ((K3 p q.num q.den j).2)],.blk g1 32 [dl ((dig ((K3 p q.num q.den j).1).natAbs)),sg ((K3 p q.num q.den j).1)]]) (m:=_) ⟨0,K7 _,rfl,rfl,rfl⟩ ?_
 rintro m L B ⟨j,hp0,hm,rfl,rfl⟩
 refine Qw tt rfl ?_
 by_cases hlt:j<p.length
 ·have hv:=E0 (k:=j) hp hq.1 hq.2
  have hjl:j*(1000000+1)≤p.length*(1000000+1):=qZm _ (by omega)
  have hc:=Zl hp (p.length-1-j)
  have hq1:=hq.1
  have hq2:=hq.2
  have hm1:Xh ((K3 p q.num q.den j).1*q.num)≤200000000:=Xa (Z2 _ _) (by omega)
  have hm2:Xh (p.getD (p.length-1-j) 0*(K3 p q.num q.den j).2)≤200000000:=Xa (Z2 _ _) (by omega)
  refine Qr tt 2 rfl ?_
  refine Xf tt 0 [] (decide_eq_true (by omega)) rfl rfl ?_
  refine Qx 10 Qp rfl rfl rfl ?_
  refine Xd tt 3 [1] rfl ?_
  refine Ye tt 2 [] qWu rfl rfl rfl (Jt (a:=((K3 p q.num q.den j).1)) (b:=((q).num)) (by omega) (by omega)) rfl rfl ?_
  refine kd (Qi (p.length-1-j) J5 Uo rfl rfl (by omega) (Qg (J9 (by omega))) rfl rfl) rfl ?_
  refine Xd tt 3 [0] rfl ?_
  refine Qw tt rfl ?_
  refine kl tt 0 [] qWu rfl rfl rfl (Jt (a:=p.getD (p.length-1-j) 0) (b:=(K3 p q.num q.den j).2) (by omega) (by omega)) rfl rfl ?_
  refine kl tt 4 [1,0] Tryz.func227 rfl rfl rfl (Dk (a:=((((K3 p q.num q.den j).1)*((q).num)))) (b:=((p.getD (p.length-1-j) 0*(K3 p q.num q.den j).2))) (hm1) (hm2)) rfl rfl ?_
  refine kl tt 2 [0] qWu rfl rfl rfl (Jt (a:=((K3 p q.num q.den j).2)) (b:=(((q).den:Int))) (by omega) (by omega)) rfl rfl ?_
  refine Qf tt 1 [] (Xs (r:=((p.length:Int)-1-((j+1:Nat):Int))) rfl rfl (Qm (by omega) (by omega)) rfl) rfl ?_
  refine Qk [0,3,5,6,7] rfl rfl ?_
  refine Q7 ?_
  refine ⟨_,?_,j+1,by omega,rfl,rfl,rfl⟩
  omega
 have hjp:j=p.length:=by omega
 have hv:=E0 (k:=j) hp hq.1 hq.2
 have hjl:j*(1000000+1)≤p.length*(1000000+1):=qZm _ (by omega)
 refine Qr tt 2 rfl ?_
 refine Xb tt 1 [1] (decide_eq_false (by omega)) rfl rfl ?_
 refine kl tt 1 [] Tryz.func225 rfl rfl rfl (Oo (by omega)) rfl rfl ?_
 exact Xq tt [] rfl (by rw [hjp,Qj0])
abbrev zR:List LV:=[.row [],.bool false,.row [],.bool false]
theorem Qec {n i:Nat} (h:i<n):(List.replicate i (rr 0)++List.replicate (n-i) zR).set (0+i) (rr 0)=List.replicate (i+1) (rr 0)++List.replicate (n-(i+1)) zR:=by
 rw [Vy,qVo _ _ (by simp),Li,qYa,show n-i=n-(i+1)+1 by omega,qJu (n:=n-(i+1)),List.set_cons_zero,List.replicate_succ' (n:=i),N1]; rfl
theorem Oh {n i:Nat} (h:i<n):(List.replicate i (rr 0)++List.replicate (n-i) zR)[0+i]? = some zR:=by
 rw [Vy,qXj (by simp),Li,qYa,show n-i=n-(i+1)+1 by omega,qJu]; rfl
theorem Qrq (n:Nat):List.replicate n (rr 0)++List.replicate (n-n) zR=(zp (List.replicate n 0)).map rr:=by simp [zp]
theorem Qq1 (l:List Int) (i:Nat) (z:Int):((zp l).map rr).set i (rr (z:Rat))=(zp (l.set i z)).map rr:=by simp [zp,List.map_set]
theorem Qw6 (l:List Int) {i:Nat} (h:i<l.length):((zp l).map rr)[0+i]? = some (rr ((l.getD i 0:Int):Rat)):=by rw [Vy]; exact Qg (J9 h)
set_option maxRecDepth 20000 in
theorem Hx {p q:List Int} {s t:Nat} (hlp:p.length≤1000000) (hlq:q.length≤1000000) (hp:Bd s p) (hq:Bd t q) (hst:s+t≤19000000):Q8 Tryz.prog 107 [.one (Zm ((zp p))),.one (Zm ((zp q)))] (.one (Zm ((zp (U2 p q))))):=by
 refine X2 tt 0 [] qUk Tryz.ntmps107 rfl rfl rfl ?_
 rcases H9 p.length with h0 | h0
 ·skip
  refine Qr tt 2 rfl ?_
  refine Qf tt 2 [] (Qj (m:=p.length) J5 rfl (by rw [Za,Zf]) rfl) rfl ?_
  refine Qf tt 0 [] (Qh rfl rfl (decide_eq_true (by omega)) rfl) rfl ?_
  refine Qf tt 0 [] (Qh rfl rfl (decide_eq_true (by omega)) rfl) rfl ?_
  refine Qf tt 0 [] (Qh rfl rfl (decide_eq_true (by omega)) rfl) rfl ?_
  refine Qf tt 0 [] (Zp rfl (decide_eq_true (by omega)) rfl rfl) rfl ?_
  refine Xf tt 1 [] (rfl) rfl rfl ?_
  exact Xq tt [] rfl (by unfold U2; rw [if_pos (.inl h0)]; rfl)
 rcases H9 q.length with h1 | h1
 refine Qw tt rfl ?_
 ·skip
  refine Qr tt 2 rfl ?_
  refine Qf tt 2 [] (Qj (m:=p.length) J5 rfl (by rw [Za,Zf]) rfl) rfl ?_
  refine kw ((Qd rfl rfl (decide_eq_false (by omega)) (Qv tt rfl rfl))) ?_
  refine Zn (Qfb rfl rfl (decide_eq_false (by omega)) (ko ?_))
  refine Qw tt rfl ?_
  refine Qf tt 0 [] (Qj (m:=q.length) J5 rfl (by rw [Za,Zf]) rfl) rfl ?_
  refine Qf tt 0 [] ((Qd rfl rfl (decide_eq_false (by omega)) (Qv tt rfl rfl))) rfl ?_
  refine Qf tt 0 [] (Zu rfl (decide_eq_false (by omega)) rfl rfl) rfl ?_
  refine Xf tt 1 [] (decide_eq_true (by omega)) rfl rfl ?_
  exact Xq tt [] rfl (by unfold U2; rw [if_pos (.inr h1)]; rfl)
 skip
 refine Qr tt 2 rfl ?_
 refine Qf tt 2 [] (Qj (m:=p.length) J5 rfl (by rw [Za,Zf]) rfl) rfl ?_
 refine kw ((Qd rfl rfl (decide_eq_false (by omega)) (Qv tt rfl rfl))) ?_
 refine Zn (Qfb rfl rfl (decide_eq_false (by omega)) (ko ?_))
 refine Qw tt rfl ?_
 refine Qf tt 0 [] (Qj (m:=q.length) J5 rfl (by rw [Za,Zf]) rfl) rfl ?_
 refine Qf tt 0 [] ((Qd rfl rfl (decide_eq_false (by omega)) (Qv tt rfl rfl))) rfl ?_
 refine Qf tt 0 [] (Zu rfl (decide_eq_false (by omega)) rfl rfl) rfl ?_
 refine Xb tt 1 [] (decide_eq_false (by omega)) rfl rfl ?_
 refine Qf tt 1 [] (Qj (m:=p.length) J5 rfl (by rw [Za,Zf]) rfl) rfl ?_
 refine Qf tt 0 [] (Qj (m:=q.length) J5 rfl (by rw [Za,Zf]) rfl) rfl ?_
 refine Qf tt 0 [] (Q6 (r:=((p.length+q.length:Nat):Int)) rfl rfl (Qm (by omega) (by omega)) rfl) rfl ?_
 refine kw (Xs (r:=((p.length+q.length-1:Nat):Int)) rfl rfl (Qm (by omega) (by omega)) rfl) ?_
 refine Zn (G3 ((p.length+q.length-1)) J5 qWz rfl Uo Sl rfl rfl rfl rfl rfl rfl (rfl) (rfl) (by omega) rfl fun r1=>ko ?_)
 refine X5 (fun _ k_=>Gy (ls':=List.replicate 0 (rr 0)++List.replicate ((p.length+q.length-1)-0) zR) 0 rfl rfl (by simp) (Qo k_)) rfl ?_
 refine Qr tt 2 rfl ?_
 refine Qf tt 1 [] (Qj (m:=(p.length+q.length-1)) J5 rfl (rfl) rfl) rfl ?_
 refine Qk [0,1,5,25,26] rfl rfl ?_
 refine Zj (fun m L B=>∃ i,i≤(p.length+q.length-1)∧m=(p.length+q.length-1)-i∧L=[(0,.one (Zm ((zp p)))),(1,.one (Zm ((zp q)))),(5,.one (.orow r1 4 0 ((p.length+q.length-1)))),(25,.one (.int .i64 ((((p.length+q.length-1):Nat):Int)))),(26,.one (.int .i64 (((i:Nat):Int))))]∧B=[.row r1 34 4 (List.replicate i (rr 0)++List.replicate ((p.length+q.length-1)-i) zR)]) (m:=_) ⟨0,K7 _,rfl,rfl,rfl⟩ ?_
 rintro m L B ⟨i,hp0,hm,rfl,rfl⟩
 refine Qw tt rfl ?_
 by_cases hlt0:i<(p.length+q.length-1)
 ·skip
  refine Qr tt 1 rfl ?_
  refine Xf tt 4 [] (decide_eq_true (by omega)) rfl rfl ?_
  refine kl tt 0 [] qGn rfl rfl rfl (Hu) rfl rfl ?_
  refine kw (Zr (i) J5 Uo rfl rfl (rfl) (by omega) rfl) ?_
  refine Zn (Ju (ls2:=List.replicate (i+1) (rr 0)++List.replicate ((p.length+q.length-1)-(i+1)) zR) 0 Uo rfl rfl rfl rfl rfl rfl (Oh hlt0) rfl (Qec hlt0) (ko ?_))
  refine Qw tt rfl ?_
  refine Qf tt 1 [] (Q6 (r:=((i+1:Nat):Int)) rfl rfl (Qm (by omega) (by omega)) rfl) rfl ?_
  refine Qk [0,1,5,25,26] rfl rfl ?_
  refine Q7 ?_
  refine ⟨_,?_,i+1,by omega,rfl,rfl,rfl⟩
  omega
 skip
 refine Qr tt 1 rfl ?_
 refine Xb tt 1 [] (decide_eq_false (by omega)) rfl rfl ?_
 refine Qf tt 1 [] (Qj (m:=p.length) J5 rfl (by rw [Za,Zf]) rfl) rfl ?_
 refine X5 (fun _ k_=>Jx (ls':=(zp (Fz p q (List.replicate (p.length+q.length-1) 0) 0)).map rr) 0 rfl (by rw [show i=(p.length+q.length-1) by omega]; exact Qrq _) (Qo k_)) rfl ?_
 refine Qk [0,1,5,35,36] rfl rfl ?_
 refine Zj (fun m L B=>∃ i,i≤p.length∧m=p.length-i∧L=[(0,.one (Zm ((zp p)))),(1,.one (Zm ((zp q)))),(5,.one (.orow r1 4 0 ((p.length+q.length-1)))),(35,.one (.int .i64 (((p.length:Nat):Int)))),(36,.one (.int .i64 (((i:Nat):Int))))]∧B=[.row r1 34 4 ((zp (Fz p q (List.replicate (p.length+q.length-1) 0) i)).map rr)]) (m:=_) ⟨0,K7 _,rfl,rfl,rfl⟩ ?_
 rintro m L B ⟨i,hp0,hm,rfl,rfl⟩
 refine Qw tt rfl ?_
 by_cases hlt:i<p.length
 ·skip
  refine Qr tt 1 rfl ?_
  refine Xf tt 3 [] (decide_eq_true (by omega)) rfl rfl ?_
  refine Qf tt 1 [] (Qj (m:=q.length) J5 rfl (by rw [Za,Zf]) rfl) rfl ?_
  refine Qk [0,1,5,7,35,36,40,41] rfl rfl ?_
  refine Zj (fun m L B=>∃ k,k≤q.length∧m=q.length-k∧L=[(0,.one (Zm ((zp p)))),(1,.one (Zm ((zp q)))),(5,.one (.orow r1 4 0 ((p.length+q.length-1)))),(7,.one (.int .i64 (((i:Nat):Int)))),(35,.one (.int .i64 (((p.length:Nat):Int)))),(36,.one (.int .i64 (((i:Nat):Int)))),(40,.one (.int .i64 (((q.length:Nat):Int)))),(41,.one (.int .i64 (((k:Nat):Int))))]∧B=[.row r1 34 4 ((zp (Pp (p.getD i 0) q i (Fz p q (List.replicate (p.length+q.length-1) 0) i) k)).map rr)]) (m:=_) ⟨0,K7 _,rfl,rfl,rfl⟩ ?_
  rintro m L B ⟨k,hq0,hm,rfl,rfl⟩
  refine Qw tt rfl ?_
  by_cases hlt2:k<q.length
  ·have hm1:Xh ((Pp (p.getD i 0) q i (Fz p q (List.replicate (p.length+q.length-1) 0) i) k).getD (i+k) 0)≤20000000:=Xa (Gn (t:=21) (Qdu (by rw [V1,Li]; omega) (Ad (fun j hj=>by rw [Li]; omega) (Km _) (fun i j=>Wb (Zl hp i) (Zl hq j))) (fun j=>Wb (Zl hp i) (Zl hq j)) (i+k)) (qJn (show i+1<2097152 by omega) (by decide))) (by omega)
   have hm2:Xh (p.getD i 0*q.getD k 0)≤20000000:=Xa (Z2 _ _) (by have:=Zl hp i; have:=Zl hq k; omega)
   have hmk:((Pp (p.getD i 0) q i (Fz p q (List.replicate (p.length+q.length-1) 0) i) k)).length=(p.length+q.length-1):=by rw [Pq,V1,Li]
   refine Qr tt 1 rfl ?_
   refine Xf tt 2 [] (decide_eq_true (by omega)) rfl rfl ?_
   refine Qx 20 Qp rfl rfl rfl ?_
   refine Qr tt 3 rfl ?_
   refine kd (Q6 (r:=((i+k:Nat):Int)) rfl rfl (Qm (by omega) (by omega)) rfl) rfl ?_
   refine Qr tt 3 rfl ?_
   refine kd (Q6 (r:=((i+k:Nat):Int)) rfl rfl (Qm (by omega) (by omega)) rfl) rfl ?_
   refine Qw tt rfl ?_
   refine kd (Zr (i+k) J5 Uo rfl rfl (by omega) (by omega) rfl) rfl ?_
   refine Qw tt rfl ?_
   refine kd (Yo 0 qUo Uo rfl rfl (Qw6 _ (by rw [hmk]; omega)) rfl rfl rfl) rfl ?_
   refine Qr tt 2 rfl ?_
   refine kd (Qi (i) J5 Uo rfl rfl (rfl) (Qg (J9 hlt)) rfl rfl) rfl ?_
   refine Qr tt 3 rfl ?_
   refine kd (Qi (k) J5 Uo rfl rfl (rfl) (Qg (J9 hlt2)) rfl rfl) rfl ?_
   refine Qr tt 1 rfl ?_
   refine Ye tt 0 [] Tryz.func154 rfl rfl rfl (Ar (a:=p.getD i 0) (b:=q.getD k 0) (Xa (Zl hp i) (by omega)) (Xa (Zl hq k) (by omega))) rfl rfl ?_
   refine Ye tt 0 [] Tryz.func187 rfl rfl rfl (Qi6 (a:=(Pp (p.getD i 0) q i (Fz p q (List.replicate (p.length+q.length-1) 0) i) k).getD (i+k) 0) (b:=p.getD i 0*q.getD k 0) hm1 hm2) rfl rfl ?_
   refine kw (Zr (i+k) J5 Uo rfl rfl (by omega) (by omega) rfl) ?_
   refine Zn (Ju (ls2:=(zp (Pp (p.getD i 0) q i (Fz p q (List.replicate (p.length+q.length-1) 0) i) (k+1))).map rr) 0 Uo rfl rfl rfl rfl rfl rfl (Qw6 _ (by rw [hmk]; omega)) rfl (by rw [Vy]; exact Qq1 _ _ _) (ko ?_))
   refine Qw tt rfl ?_
   refine Qf tt 1 [] (Q6 (r:=((k+1:Nat):Int)) rfl rfl (Qm (by omega) (by omega)) rfl) rfl ?_
   refine Qk [0,1,5,7,35,36,40,41] rfl rfl ?_
   refine Q7 ?_
   refine ⟨_,?_,k+1,by omega,rfl,rfl,rfl⟩
   omega
  skip
  refine Qr tt 1 rfl ?_
  refine Xb tt 0 [] (decide_eq_false (by omega)) rfl rfl ?_
  refine Qf tt 1 [] (Q6 (r:=((i+1:Nat):Int)) rfl rfl (Qm (by omega) (by omega)) rfl) rfl ?_
  refine X5 (fun _ k_=>Jx (ls':=(zp (Fz p q (List.replicate (p.length+q.length-1) 0) (i+1))).map rr) 0 rfl (by rw [show k=q.length from by omega]; rfl) (Qo k_)) rfl ?_
  refine Qk [0,1,5,35,36] rfl rfl ?_
  refine Q7 ?_
  refine ⟨_,?_,i+1,by omega,rfl,rfl,rfl⟩
  omega
 skip
 refine Qr tt 1 rfl ?_
 refine Xb tt 1 [] (decide_eq_false (by omega)) rfl rfl ?_
 refine X5 (fun _ k_=>Xm 0 [67] rfl (Zg rfl) (by rw [Zw,Zf,V1,Li]) (by rw [Zw,Zf,V1,Li]; omega) rfl (Qo k_)) rfl ?_
 refine Qw tt rfl ?_
 refine kl tt 1 [] qFh rfl rfl rfl (Wr (p:=(zp (Fz p q (List.replicate (p.length+q.length-1) 0) i))) (R4 (O1 fun m=>Xa (Gn (t:=21) (Ad (fun j hj=>by rw [Li]; omega) (Km _) (fun i j=>Wb (Zl hp i) (Zl hq j)) m) (qJn (show i<2097152 by omega) (by decide))) (by omega)) (by omega)) (by rw [Zf,V1,Li]; omega)) rfl rfl ?_
 exact Xq tt [] rfl (by rw [Fq]; unfold U2; rw [if_neg (by omega),show i=p.length from by omega])
end Orr

namespace Orr
def Q0 (p:List Int):Int:=p.getD (p.length-1) 0
def B7 (a b:List Int):Int:=if Q0 b<0 then -(Q0 a) else Q0 a
def Uh (a b:List Int) (i:Nat):Int:=a.getD i 0*((Q0 b).natAbs:Int)-(if a.length-b.length≤i then B7 a b*b.getD (i-(a.length-b.length)) 0 else 0)
def Qgi (a b:List Int):List Int:=Ut a.length (Uh a b)
inductive RRun (b:List Int):Nat→List Int→List Int→Prop
  | stop {a:List Int}:a.length<b.length→RRun b 0 a a
  | step {k:Nat} {a r:List Int}:b.length≤a.length→a.length≤1000→Bd 9000000 a→Bd 9000000 b→RRun b k (Qgi a b) r→RRun b (k+1) a r
def Fy (p:List Int):Nat→Nat
  | 0=>0
  | i+1=>Int.gcd (Fy p i:Nat) (p.getD i 0)
def Qf5 (p:List Int):Nat:=Fy p p.length
theorem Da (p:List Int):∀ {i j:Nat},j<i→((Fy p i:Nat):Int)∣p.getD j 0
  | 0,_,h=>absurd h (qKa _)
  |
   i+1,j,h=>by
   simp only [Fy]
   rcases Mp j i with h1 | h1
   · exact Int.dvd_trans (Int.gcd_dvd_left ..) (Da p h1)
   · rw [show j=i by omega]; exact qVi ..
theorem Qhr (p:List Int) (j:Nat):((Qf5 p:Nat):Int)∣p.getD j 0:=by
  rcases Mp j p.length with h | h
  · exact Da p h
  · rw [Ve,Eu h]; exact Int.dvd_zero _
theorem Ry {s:Nat} {p:List Int} (h:Bd s p):∀ i,Xh ((Fy p i:Nat):Int)≤s
  | 0=>by simp [Fy,Sr]
  |
   i+1=>by
   simp only [Fy]
   by_cases h0:p.getD i 0=0
   · rw [h0,Int.gcd_zero_right]; exact Ry h i
   · have h1:=qVi (Fy p i:Nat) (p.getD i 0)
     have h2:(Int.gcd (Fy p i:Nat) (p.getD i 0))≤(p.getD i 0).natAbs:=Nat.le_of_dvd (by omega) (by simpa using qVq.2 h1)
     have h3:=Zl h i
     rw [G7] at h3 ⊢
     simp only [qKd]
     omega
theorem Qm9 {p:List Int} {j i:Nat} (hj:j<i) (h:p.getD j 0≠0):0<Fy p i:=by
  have:=Da p hj
  rcases H9 (Fy p i) with h0 | h0
  · rw [h0] at this
    exact absurd (Int.zero_dvd.1 this) h
  · exact h0
theorem Qf2 {p:List Int} (ht:Yu p) (h:0<p.length):0<Qf5 p:=Qm9 (j:=p.length-1) (by omega) (Dr ht h)
def Fe (p:List Int):Int:=if Q0 p<0 then -((Qf5 p:Nat):Int) else ((Qf5 p:Nat):Int)
def Vv (p:List Int):List Int:=Ut p.length fun i=>p.getD i 0 / Fe p
def Gl (p:List Int):List Int:=if Q0 p<0 then Ec (Vv p) else Vv p
theorem Qoj (p:List Int) (j:Nat):Fe p∣p.getD j 0:=by
  unfold Fe
  split
  · exact Int.neg_dvd.2 (Qhr p j)
  · exact Qhr p j
theorem Qpx {p:List Int} (ht:Yu p) (h:0<p.length):Fe p≠0:=by
  have:=Qf2 ht h
  unfold Fe
  split <;> omega
theorem Qov {s:Nat} {p:List Int} (h:Bd s p):Xh (Fe p)≤s:=by
  unfold Fe
  split
  · rw [Xk]; exact Ry h _
  · exact Ry h _
theorem Qkj {p:List Int} {c:Int} (hc:c≠0) (hd:∀ j,c∣p.getD j 0):Gi (zp p) (1 / (c:Rat))=zp (Ut p.length fun i=>p.getD i 0 / c):=by
  unfold Gi Ut
  rw [Mm (g:=fun i=>p.getD i 0 / c) _ fun i _=>?_,Fq,Zf]
  obtain ⟨k,hk⟩:=hd i
  have hc':(c:Rat)≠0:=fun e=>hc (by exact_mod_cast e)
  rw [Mb,hk,qXx _ hc,qJs]
  grind
theorem Ik {s:Nat} {p:List Int} (h:Bd s p):Bd s (Vv p):=P4 fun i _=>Xa (Pc _ _) (Zl h i)
theorem De (p:List Int):(Vv p).length≤p.length:=Tf _ _
theorem Qnl {s:Nat} {p:List Int} (h:Bd s p):Bd s (Gl p):=by
  unfold Gl
  split
  · exact Qt7 (Ik h)
  · exact Ik h
theorem Qi2 (p:List Int):(Gl p).length≤p.length:=by
  unfold Gl
  split
  · exact Xa (Qho _) (De p)
  · exact De p
inductive GRun:Nat→List Int→List Int→List Int→Prop
  | stop (a:List Int):GRun 0 a [] a
  | step {k m:Nat} {a b r g:List Int}:0<b.length→b.length≤1000→Bd 9000000 b→RRun b m a r→r.length≤1000→Bd 9000000 r→Yu r→GRun k b (Vv r) g→GRun (k+1) a b g
theorem GRun.inv {k:Nat} {a b g:List Int} (h:GRun k a b g):(k=0∧b.length=0∧a=g)∨∃ j m r,k=j+1∧0<b.length∧b.length≤1000∧Bd 9000000 b∧RRun b m a r∧r.length≤1000∧Bd 9000000 r∧Yu r∧GRun j b (Vv r) g:=by
  cases h with
  | stop=>exact .inl ⟨rfl,rfl,rfl⟩
  | step h1 h2 h3 h4 h5 h6 h7 h8=>exact .inr ⟨_,_,_,rfl,h1,h2,h3,h4,h5,h6,h7,h8⟩
def G6 (k:Nat) (p:List Int):List Int:=List.replicate k 0++p
theorem M9 (k:Nat) (p:List Int):(G6 k p).length=k+p.length:=by simp [G6]
theorem Qnw {s k:Nat} {p:List Int} (h:Bd s p):Bd s (G6 k p):=fun z hz=>by
  rcases Yz.1 hz with h1 | h1
  · rw [qZz h1,Sr]; exact K7 _
  · exact h z h1
inductive DRun (b:List Int):Nat→List Int→List Int→List Int→List Int→Prop
  | stop {a q:List Int}:a.length<b.length→DRun b 0 a q q a
  | step {k:Nat} {a q qf r:List Int}:b.length≤a.length→a.length≤1000→Bd 9000000 a→Q0 b≠0→Q0 b∣Q0 a→a.length-b.length<q.length →
      DRun b k (Si a (G6 (a.length-b.length) (Xx b (Q0 a / Q0 b)))) (q.set (a.length-b.length) (Q0 a / Q0 b)) qf r→DRun b (k+1) a q qf r
theorem DRun.inv {b a q qf r:List Int} {k:Nat} (h:DRun b k a q qf r):(k=0∧q=qf∧a=r∧a.length<b.length)∨∃ j,k=j+1∧b.length≤a.length∧a.length≤1000∧Bd 9000000 a∧Q0 b≠0∧Q0 b∣Q0 a∧a.length-b.length<q.length ∧
    DRun b j (Si a (G6 (a.length-b.length) (Xx b (Q0 a / Q0 b)))) (q.set (a.length-b.length) (Q0 a / Q0 b)) qf r:=by
  cases h with
  | stop h=>exact .inl ⟨rfl,rfl,rfl,h⟩
  | step h1 h2 h3 h4 h5 h6 h7=>exact .inr ⟨_,rfl,h1,h2,h3,h4,h5,h6,h7⟩
def Wm (l:List (List Int)):List Int:=l.getD (l.length-1) []
inductive LRun:Nat→List (List Int)→List (List Int)→Prop
  | stop {l:List (List Int)}:(Wm l).length≤1→LRun 0 l l
  | step {k m:Nat} {l f:List (List Int)} {g:List Int}:1<(Wm l).length→(Wm l).length≤1000→Yu (Wm l)→Bd 9000000 (Wm l)→Bd 9000000 (Uj (Wm l))→GRun m (Vv (Wm l)) (Vv (Uj (Wm l))) g→l.length≤1000→LRun k (l++[g]) f→LRun (k+1) l f
theorem LRun.inv {k:Nat} {l f:List (List Int)} (h:LRun k l f):(k=0∧l=f∧(Wm l).length≤1)∨∃ j m g,k=j+1∧1<(Wm l).length∧(Wm l).length≤1000∧Yu (Wm l)∧Bd 9000000 (Wm l)∧Bd 9000000 (Uj (Wm l))∧GRun m (Vv (Wm l)) (Vv (Uj (Wm l))) g∧l.length≤1000∧LRun j (l++[g]) f:=by
  cases h with
  | stop h=>exact .inl ⟨rfl,rfl,h⟩
  | step h1 h2 h3 h4 h5 h6 h7 h8=>exact .inr ⟨_,_,_,rfl,h1,h2,h3,h4,h5,h6,h7,h8⟩
def DOk (a b q:List Int):Prop:=0<b.length∧b.length≤1000∧a.length≤1000∧Bd 9000000 b∧∃ qf r n,Bd 9000000 qf∧qf.length≤1000∧DRun b n a (List.replicate (a.length+1-b.length) 0) qf r∧q=trim qf
theorem DOk.bd {a b q:List Int} (h:DOk a b q):Bd 9000000 q:=by
  obtain ⟨_,_,_,_,qf,r,n,h1,_,_,rfl⟩:=h
  exact Jk h1
theorem DOk.len {a b q:List Int} (h:DOk a b q):q.length≤1000:=by
  obtain ⟨_,_,_,_,qf,r,n,_,h1,_,rfl⟩:=h
  exact Xa (Kj _) h1
theorem DOk.trim {a b q:List Int} (h:DOk a b q):Yu q:=by
  obtain ⟨_,_,_,_,qf,r,n,_,_,_,rfl⟩:=h
  exact Wd _
def Q0q (a b c f:List Int):Prop:=∃ x y z,DOk a b x∧DOk b c y∧DOk (Vv x) (Vv y) z∧f=Vv z
structure FRun (a:List Int) (m:Nat) (f:Nat→List Int):Prop where
  run:∃ n l,LRun n [Vv a] l∧l.length=m+1∧∀ k,k<m→Q0q ((l++[[1]]).getD k []) ((l++[[1]]).getD (k+1) []) ((l++[[1]]).getD (k+2) []) (f k)
  small:m≤1000
def Ie (f:Nat→List Int) (n:Nat):List (List Int):=(List.range n).map f
theorem S1 (f:Nat→List Int) (n:Nat):(Ie f n).length=n:=by simp [Ie]
theorem Qm1 (f:Nat→List Int) (n:Nat):Ie f (n+1)=Ie f n++[f n]:=by simp [Ie,qVz]
theorem Qpq {f:Nat→List Int} {n i:Nat} (h:i<n):(Ie f n)[i]? = some (f i):=by simp [Ie,qJm h]
theorem Gj {l:List (List Int)} {i:Nat} (h:i<l.length):l[i]? = some (l.getD i []):=by
  rw [Ve,Xv h]; rfl
def Cj (f:Nat→List Int):Nat→List Int
  | 0=>[1]
  | i+1=>U2 (Cj f i) (f i)
def Q0k (m:Nat) (f:Nat→List Int):Prop:=∀ i,i<m→Bd 9000000 (Cj f i)∧(Cj f i).length≤1000∧Bd 9000000 (f i)∧(f i).length≤1000
inductive CRun:Nat→List (List Int)→List Int→List (List Int)→Prop
  | stop {l:List (List Int)} {g:List Int}:g.length=0→CRun 0 l g l
  | step {k m:Nat} {l f:List (List Int)} {g r:List Int}:0<g.length→g.length≤1000→Bd 9000000 g→RRun g m (Wm l) r→Yu r→Bd 9000000 r→r.length≤1000→0<l.length→l.length≤1000→CRun k (l++[g]) (Ec (Gl r)) f→CRun (k+1) l g f
theorem CRun.inv {k:Nat} {l f:List (List Int)} {g:List Int} (h:CRun k l g f):(k=0∧l=f∧g.length=0)∨∃ j m r,k=j+1∧0<g.length∧g.length≤1000∧Bd 9000000 g∧RRun g m (Wm l) r∧Yu r∧Bd 9000000 r∧r.length≤1000∧0<l.length∧l.length≤1000∧CRun j (l++[g]) (Ec (Gl r)) f:=by
  cases h with
  | stop h=>exact .inl ⟨rfl,rfl,h⟩
  | step h1 h2 h3 h4 h5 h6 h7 h8 h9 h10=>exact .inr ⟨_,_,_,rfl,h1,h2,h3,h4,h5,h6,h7,h8,h9,h10⟩
structure ChRun (a:List Int) (sq:List Int) (c:List (List Int)):Prop where
  fac:∃ m f,FRun a m f∧Q0k m f∧sq=Cj f m
  chain:∃ n,CRun n [sq] (Gl (Uj sq)) c
  bd:Bd 8000000 sq
  len:sq.length≤1000
  small:c.length≤1000
end Orr

namespace Orr
open Go Go.Proofs
theorem RRun.inv {b a r:List Int} {k:Nat} (h:RRun b k a r):(k=0∧a=r∧a.length<b.length)∨(∃ j,k=j+1∧b.length≤a.length∧a.length≤1000∧Bd 9000000 a∧Bd 9000000 b∧RRun b j (Qgi a b) r):=by
 cases h with
 | stop h=>exact .inl ⟨rfl,rfl,h⟩
 | step h1 h2 h3 h4 h5=>exact .inr ⟨_,rfl,h1,h2,h3,h4,h5⟩
theorem Qmk {a b:List Int} (ha:Bd 9000000 a):Xh (B7 a b)≤9000000:=by
 unfold B7; split
 ·rw [Xk]; exact Zl ha _
 exact Zl ha _
theorem Qpl {a b:List Int} (ha:Bd 9000000 a) (hb:Bd 9000000 b) (i:Nat):Xh (Uh a b i)≤90000000:=by
 unfold Uh
 have h1:=Zl ha i
 have h2:Xh (((Q0 b).natAbs:Nat):Int)≤9000000:=Zl hb _
 have h3:=Z2 (a.getD i 0) (((Q0 b).natAbs:Nat):Int)
 have h4:=Zl hb (i-(a.length-b.length))
 have ht:Xh (B7 a b)≤9000000:=Qmk ha
 have h5:=Z2 (B7 a b) (b.getD (i-(a.length-b.length)) 0)
 split
 ·exact Xa (Ex _ _) (by omega)
 rw [Int.sub_zero]; omega
set_option maxRecDepth 20000 in
theorem I9 {a0 b res:List Int} {n:Nat} (hb0:0<b.length) (hb1:b.length≤1000) (hbb0:Bd 9000000 b) (hrun:RRun b n a0 res):Q8 Tryz.prog 183 [.one (Zm ((zp a0))),.one (Zm ((zp b)))] (.one (Zm ((zp res)))):=by
 refine X2 tt 3 [] Tryz.func183 Tryz.ntmps183 rfl rfl rfl ?_
 refine Qf tt 0 [] (Qj (m:=b.length) J5 rfl (by rw [Za,Zf]) rfl) rfl ?_
 refine Qf tt 0 [] (Xs (r:=((b.length-1:Nat):Int)) rfl rfl (Qm (by omega) (by omega)) rfl) rfl ?_
 refine Qf tt 2 [] (Qi (b.length-1) J5 Uo rfl rfl (rfl) (Qg (J9 (by omega))) rfl rfl) rfl ?_
 refine Zn (Ql Cq rfl rfl fun g1=>ko ?_)
 refine Xd tt 2 [0,0] rfl ?_
 refine Zn (Ql Cq rfl rfl fun g2=>ko ?_)
 refine Xd tt 3 [0,0] rfl ?_
 refine X5 (fun _ k_=>Jp (ys:=ri (((Q0 b).natAbs:Nat):Int)) 0 rfl rfl (Qry _).symm (Qo k_)) rfl ?_
 refine Qw tt rfl ?_
 refine Qk [0,1,5,6] rfl rfl ?_
 refine Zj (fun m L B=>∃ k a,RRun b k a res∧m=k∧L=[(0,.one (Zm ((zp a)))),(1,.one (Zm ((zp b)))),(5,.one (.ow g1 0)),(6,.one (.ow g2 0))]∧B=[.blk g2 32 [dl ((dig ((((Q0 b).natAbs:Nat):Int)).natAbs)),sg ((((Q0 b).natAbs:Nat):Int))],.blk g1 32 [dl ((dig (Q0 b).natAbs)),sg (Q0 b)]]) (m:=_) ⟨n,a0,hrun,rfl,rfl,rfl⟩ ?_
 rintro m L B ⟨k,a,hp0,hm,rfl,rfl⟩
 refine Qw tt rfl ?_
 rcases hp0.inv with ⟨hk,hr,hlt0⟩ | ⟨j,hk,hba,hal,hab,hbb,hrj⟩
 ·skip
  refine Qr tt 1 rfl ?_
  refine Qf tt 1 [] (Qj (m:=a.length) J5 rfl (by rw [Za,Zf]) rfl) rfl ?_
  refine Qf tt 1 [] (Qj (m:=b.length) J5 rfl (by rw [Za,Zf]) rfl) rfl ?_
  refine Xb tt 2 [] (decide_eq_false (by omega)) rfl rfl ?_
  exact Xq tt [] rfl (by rw [hr])
 have hb1:=hb0
 refine Qr tt 1 rfl ?_
 refine Qf tt 1 [] (Qj (m:=a.length) J5 rfl (by rw [Za,Zf]) rfl) rfl ?_
 refine Qf tt 1 [] (Qj (m:=b.length) J5 rfl (by rw [Za,Zf]) rfl) rfl ?_
 refine Xf tt 1 [] (decide_eq_true (by omega)) rfl rfl ?_
 refine Qf tt 1 [] (Qj (m:=a.length) J5 rfl (by rw [Za,Zf]) rfl) rfl ?_
 refine Qf tt 0 [] (Qj (m:=b.length) J5 rfl (by rw [Za,Zf]) rfl) rfl ?_
 refine Qf tt 3 [] (Xs (r:=((a.length-b.length:Nat):Int)) rfl rfl (Qm (by omega) (by omega)) rfl) rfl ?_
 refine Qf tt 0 [] (Qj (m:=a.length) J5 rfl (by rw [Za,Zf]) rfl) rfl ?_
 refine Qf tt 0 [] (Xs (r:=((a.length-1:Nat):Int)) rfl rfl (Qm (by omega) (by omega)) rfl) rfl ?_
 refine Qf tt 2 [] (Qi (a.length-1) J5 Uo rfl rfl (rfl) (Qg (J9 (by omega))) rfl rfl) rfl ?_
 refine Zn (Ql Cq rfl rfl fun g3=>ko ?_)
 refine Xd tt 3 [0,2] rfl ?_
 refine Cu 1 (fun L B=>∃ top,top=B7 a b∧L=[(0,.one (Zm ((zp a)))),(1,.one (Zm ((zp b)))),(5,.one (.ow g1 0)),(6,.one (.ow g2 0)),(7,.one (.int .i64 (((a.length-b.length:Nat):Int)))),(8,.one (.ow g3 0))]∧B=[.blk g3 32 [dl ((dig (top).natAbs)),sg top],.blk g2 32 [dl ((dig ((((Q0 b).natAbs:Nat):Int)).natAbs)),sg ((((Q0 b).natAbs:Nat):Int))],.blk g1 32 [dl ((dig (Q0 b).natAbs)),sg (Q0 b)]]) ?_ rfl ?_
 ·skip
  refine Qw tt rfl ?_
  refine kif rfl (fun hb_if2=>?_) (fun hb_if2=>?_)
  ·try simp only [decide_eq_true_eq,decide_eq_false_iff_not,Vf,Vg] at hb_if2
   refine Xd tt 1 [0] rfl ?_
   refine kl tt 1 [0] qUx rfl rfl rfl (W2 (z:=Q0 a) (Xa (Zl hab _) (by omega))) rfl rfl ?_
   refine Qk [0,1,5,6,7,8] rfl rfl ?_
   refine Q7 ?_
   exact ⟨(-(Q0 a)),by unfold B7; rw [if_pos hb_if2],rfl,rfl⟩
  try simp only [decide_eq_true_eq,decide_eq_false_iff_not,Vf,Vg] at hb_if2
  refine Qw tt rfl ?_
  refine Qk [0,1,5,6,7,8] rfl rfl ?_
  refine Q7 ?_
  exact ⟨Q0 a,by unfold B7; rw [if_neg hb_if2],rfl,rfl⟩
 rintro L B ⟨top,htp0,rfl,rfl⟩
 refine Qw tt rfl ?_
 have htop:=htp0
 skip
 refine Qr tt 2 rfl ?_
 refine Qf tt 1 [] (Qj (m:=a.length) J5 rfl (by rw [Za,Zf]) rfl) rfl ?_
 refine X5 (fun _ k_=>X9 [9] 34 4 rfl (Zg rfl) rfl (Qo k_)) rfl ?_
 refine Qk [0,1,5,6,7,8,43,9,44] rfl rfl ?_
 refine Zj (fun m L B=>∃ i r,i≤a.length∧m=a.length-i∧L=[(0,.one (Zm ((zp a)))),(1,.one (Zm ((zp b)))),(5,.one (.ow g1 0)),(6,.one (.ow g2 0)),(7,.one (.int .i64 (((a.length-b.length:Nat):Int)))),(8,.one (.ow g3 0)),(43,.one (.int .i64 (((a.length:Nat):Int)))),(9,.one (.orow r 4 0 i)),(44,.one (.int .i64 (((i:Nat):Int))))]∧B=[.row r 34 4 ((Uc (fun i=>((Uh a b i:Int):Rat)) i).map rr),.blk g3 32 [dl ((dig (top).natAbs)),sg top],.blk g2 32 [dl ((dig ((((Q0 b).natAbs:Nat):Int)).natAbs)),sg ((((Q0 b).natAbs:Nat):Int))],.blk g1 32 [dl ((dig (Q0 b).natAbs)),sg (Q0 b)]]) (m:=_) ⟨0,none,K7 _,rfl,rfl,rfl⟩ ?_
 rintro m L B ⟨i,r,hp0,hm,rfl,rfl⟩
 refine Qw tt rfl ?_
 by_cases hlt:i<a.length
 ·have ha_:=Zl hab i
  have hb_:=Zl hbb (i-(a.length-b.length))
  have hl_:Xh (((Q0 b).natAbs:Nat):Int)≤9000000:=Zl hbb _
  have ht_:Xh top≤9000000:=by rw [htop]; exact Qmk hab
  have hm_:=Z2 (a.getD i 0) (((Q0 b).natAbs:Nat):Int)
  have hn_:=Z2 top (b.getD (i-(a.length-b.length)) 0)
  have hd_:=Ex (a.getD i 0*(((Q0 b).natAbs:Nat):Int)) (top*b.getD (i-(a.length-b.length)) 0)
  by_cases hki:(a.length-b.length)≤i
  refine Qw tt rfl ?_
  ·have hF:Uh a b i=a.getD i 0*(((Q0 b).natAbs:Nat):Int)-top*b.getD (i-(a.length-b.length)) 0:=by unfold Uh; rw [if_pos hki,htop]
   refine Qr tt 1 rfl ?_
   refine Xf tt 2 [] (decide_eq_true (by omega)) rfl rfl ?_
   refine kc (Ul Qp 8 [47,48,49,50,51,52,53,11] [[],[],[0,1],[2],[3],[],[4,5],[]] [.one (Zm ((zp a))),.one (.int .i64 (((i:Nat):Int))),.one (.sh [dl ((dig (List.getD a i 0).natAbs)),sg (List.getD a i 0),dl ((dig (((((List.getD a i 0:Int):Rat)).den:Int)).natAbs)),sg (((((List.getD a i 0:Int):Rat)).den:Int))]),.one (.sh [dl ((dig (List.getD a i 0).natAbs)),sg (List.getD a i 0),dl ((dig (((((List.getD a i 0:Int):Rat)).den:Int)).natAbs)),sg (((((List.getD a i 0:Int):Rat)).den:Int))]),.agg [dl ((dig (List.getD a i 0).natAbs)),sg (List.getD a i 0)],.agg [dl ((dig ((((Q0 b).natAbs:Nat):Int)).natAbs)),sg ((((Q0 b).natAbs:Nat):Int))],.agg [dl ((dig (((List.getD a i 0)*((((Q0 b).natAbs:Nat):Int)))).natAbs)),sg (((List.getD a i 0)*((((Q0 b).natAbs:Nat):Int))))],.un] [(7,32,[.slice none 0 0,.bool false])] [[.nils,.bool false]] rfl rfl rfl (by decide) ⟨rfl,trivial⟩ rfl ⟨Zd rfl rfl,Zd rfl rfl,Qi (i) J5 Uo rfl rfl (rfl) (Qg (J9 (hlt))) rfl rfl,J2 Qk1 rfl rfl rfl,Zz qFq qFj rfl rfl rfl rfl,Jm 2 qFq qFj rfl rfl rfl rfl rfl,Zs qWu rfl rfl rfl rfl (Jt (a:=(List.getD a i 0)) (b:=((((Q0 b).natAbs:Nat):Int))) (Xa (Zl hab i) (by omega)) (by rw [show Xh (((Q0 b).natAbs:Nat):Int)=Xh (Q0 b) from rfl]; exact Xa (Zl hbb _) (by omega))) rfl,Vl Cq rfl,trivial⟩ fun g4=>⟨_,_,rfl,rfl,kn ?_⟩)
   refine Xd tt 4 [0] rfl ?_
   refine Xf tt 0 [] (decide_eq_true (by omega)) rfl rfl ?_
   refine Qx 10 Qp rfl rfl rfl ?_
   refine Xd tt 5 [0,2] rfl ?_
   refine kd (Xs (r:=((i-(a.length-b.length):Nat):Int)) rfl rfl (Qm (by omega) (by omega)) rfl) rfl ?_
   refine Qw tt rfl ?_
   refine kd (Qi (i-(a.length-b.length)) J5 Uo rfl rfl (rfl) (Qg (J9 (by omega))) rfl rfl) rfl ?_
   refine Qr tt 2 rfl ?_
   refine Ye tt 0 [] qWu rfl rfl rfl (Jt (a:=top) (b:=b.getD (i-(a.length-b.length)) 0) (by omega) (by omega)) rfl rfl ?_
   refine kl tt 1 [0] Tryz.func262 rfl rfl rfl (Qbu (a:=a.getD i 0*(((Q0 b).natAbs:Nat):Int)) (b:=top*b.getD (i-(a.length-b.length)) 0) (by omega) (by omega)) rfl rfl ?_
   refine Qx 5 Qp rfl rfl rfl ?_
   refine Xd tt 2 [0] rfl ?_
   refine Ye tt 0 [] qWv rfl rfl rfl (Yt (n:=1) (by omega)) rfl rfl ?_
   refine Ye tt 1 [] qUj rfl rfl rfl (Ku (z:=a.getD i 0*(((Q0 b).natAbs:Nat):Int)-top*b.getD (i-(a.length-b.length)) 0) (by omega)) rfl rfl ?_
   refine Qw tt rfl ?_
   refine Zn (Zo (ls2:=(Uc (fun i=>((Uh a b i:Int):Rat)) (i+1)).map rr) (m2:=i+1) 1 J5 J5 qWz rfl rfl Uo Sl rfl rfl rfl rfl rfl rfl rfl (by rw [Zw,Xp]; omega) (Yh rfl) (Ya rfl) (by show _+1<_; omega) (by rw [Vh (by rw [Zw,Xp]; exact Ji _),Hm,G2]; exact congrArg (fun (z:Int)=>List.map rr (Uc (fun i=>((Uh a b i:Int):Rat)) i)++[rr (z:Rat)]) hF.symm) (rfl) fun r5=>ko ?_)
   refine Qr tt 1 rfl ?_
   refine Qf tt 1 [] (Q6 (r:=((i+1:Nat):Int)) rfl rfl (Qm (by omega) (by omega)) rfl) rfl ?_
   refine Qk [0,1,5,6,7,8,43,9,44] rfl rfl ?_
   refine Y2 1 rfl rfl ?_
   refine Q7 ?_
   refine ⟨_,?_,i+1,r5,by omega,rfl,rfl,rfl⟩
   omega
  have hF:Uh a b i=a.getD i 0*(((Q0 b).natAbs:Nat):Int):=by unfold Uh; rw [if_neg hki]; omega
  refine Qr tt 1 rfl ?_
  refine Xf tt 2 [] (decide_eq_true (by omega)) rfl rfl ?_
  refine kc (Ul Qp 8 [47,48,49,50,51,52,53,11] [[],[],[0,1],[2],[3],[],[4,5],[]] [.one (Zm ((zp a))),.one (.int .i64 (((i:Nat):Int))),.one (.sh [dl ((dig (List.getD a i 0).natAbs)),sg (List.getD a i 0),dl ((dig (((((List.getD a i 0:Int):Rat)).den:Int)).natAbs)),sg (((((List.getD a i 0:Int):Rat)).den:Int))]),.one (.sh [dl ((dig (List.getD a i 0).natAbs)),sg (List.getD a i 0),dl ((dig (((((List.getD a i 0:Int):Rat)).den:Int)).natAbs)),sg (((((List.getD a i 0:Int):Rat)).den:Int))]),.agg [dl ((dig (List.getD a i 0).natAbs)),sg (List.getD a i 0)],.agg [dl ((dig ((((Q0 b).natAbs:Nat):Int)).natAbs)),sg ((((Q0 b).natAbs:Nat):Int))],.agg [dl ((dig (((List.getD a i 0)*((((Q0 b).natAbs:Nat):Int)))).natAbs)),sg (((List.getD a i 0)*((((Q0 b).natAbs:Nat):Int))))],.un] [(7,32,[.slice none 0 0,.bool false])] [[.nils,.bool false]] rfl rfl rfl (by decide) ⟨rfl,trivial⟩ rfl ⟨Zd rfl rfl,Zd rfl rfl,Qi (i) J5 Uo rfl rfl (rfl) (Qg (J9 (hlt))) rfl rfl,J2 Qk1 rfl rfl rfl,Zz qFq qFj rfl rfl rfl rfl,Jm 2 qFq qFj rfl rfl rfl rfl rfl,Zs qWu rfl rfl rfl rfl (Jt (a:=(List.getD a i 0)) (b:=((((Q0 b).natAbs:Nat):Int))) (Xa (Zl hab i) (by omega)) (by rw [show Xh (((Q0 b).natAbs:Nat):Int)=Xh (Q0 b) from rfl]; exact Xa (Zl hbb _) (by omega))) rfl,Vl Cq rfl,trivial⟩ fun g6=>⟨_,_,rfl,rfl,kn ?_⟩)
  refine Xd tt 4 [0] rfl ?_
  refine Xb tt 0 [] (decide_eq_false (by omega)) rfl rfl ?_
  refine Qx 5 Qp rfl rfl rfl ?_
  refine Xd tt 2 [0] rfl ?_
  refine Ye tt 0 [] qWv rfl rfl rfl (Yt (n:=1) (by omega)) rfl rfl ?_
  refine Ye tt 1 [] qUj rfl rfl rfl (Ku (z:=a.getD i 0*(((Q0 b).natAbs:Nat):Int)) (by omega)) rfl rfl ?_
  refine Qw tt rfl ?_
  refine Zn (Zo (ls2:=(Uc (fun i=>((Uh a b i:Int):Rat)) (i+1)).map rr) (m2:=i+1) 1 J5 J5 qWz rfl rfl Uo Sl rfl rfl rfl rfl rfl rfl rfl (by rw [Zw,Xp]; omega) (Yh rfl) (Ya rfl) (by show _+1<_; omega) (by rw [Vh (by rw [Zw,Xp]; exact Ji _),Hm,G2]; exact congrArg (fun (z:Int)=>List.map rr (Uc (fun i=>((Uh a b i:Int):Rat)) i)++[rr (z:Rat)]) hF.symm) (rfl) fun r7=>ko ?_)
  refine Qr tt 1 rfl ?_
  refine Qf tt 1 [] (Q6 (r:=((i+1:Nat):Int)) rfl rfl (Qm (by omega) (by omega)) rfl) rfl ?_
  refine Qk [0,1,5,6,7,8,43,9,44] rfl rfl ?_
  refine Y2 1 rfl rfl ?_
  refine Q7 ?_
  refine ⟨_,?_,i+1,r7,by omega,rfl,rfl,rfl⟩
  omega
 have hin:i=a.length:=by omega
 refine Qr tt 1 rfl ?_
 refine Xb tt 1 [] (decide_eq_false (by omega)) rfl rfl ?_
 refine X5 (fun _ k_=>Xm 0 [75] rfl (Zg rfl) (by rw [Zw,Xp]) (by rw [Zw,Xp]; omega) rfl (Qo k_)) rfl ?_
 refine Qw tt rfl ?_
 refine kl tt 1 [] qFh rfl rfl rfl ((by have h:=Wr (p:=Uc (fun i=>((Uh a b i:Int):Rat)) i) (Px fun i _=>Ue (Xa (Qpl hab hbb i) (by omega)) (by omega)) (by rw [Xp]; omega); rw [Qo8,Fq,hin] at h; rw [hin,Qo8]; exact h)) rfl rfl ?_
 refine Qk [0,1,5,6] rfl rfl ?_
 refine Y2 0 rfl rfl ?_
 refine Q7 ?_
 refine ⟨_,?_,j,(Qgi a b),hrj,rfl,rfl,rfl⟩
 omega
theorem Qi5:Q8 Tryz.prog 228 [.agg (ri 1),.agg (ri 1)] (.agg (ri 1)):=Jt (a:=1) (b:=1) (by decide) (by decide)
theorem Qg4 {z:Int} (hz:Xh z≤90000000):Q8 Tryz.prog 228 [.agg (ri z),.agg (ri 1)] (.agg (ri z)):=by
 have h:=Jt (a:=z) (b:=1) (by omega) (by decide)
 rwa [Int.mul_one] at h
theorem D8 {z:Int} (hz:Xh z≤90000000):Q8 Tryz.prog 178 [.agg (ri z),.agg (ri 1)] (.agg (ri z)):=by
 have h:=K9 (a:=z) (b:=1) hz (by decide) (by decide) (Int.emod_one z)
 rwa [Int.ediv_one] at h
theorem Lp {z:Int} (hz:Xh z≤90000000):Q8 Tryz.prog 102 [.agg (rr (z:Rat))] (.agg (rr ((-z:Int):Rat))):=by
 have h:=Qjq (Ue (s:=100000000) (z:=z) (by omega) (by omega))
 rwa [←Rat.intCast_neg] at h
theorem Qws {c:Int} (hc:c≠0) (hs:Xh c≤9000000):Qs 40000000 (((1:Int):Rat) / (c:Rat)):=by
 have h0:(c:Rat)≠0:=fun e=>hc (by exact_mod_cast e)
 rw [←Qb5 h0]
 unfold Q3
 rw [if_neg (qJg (U6 _) (fun e=>hc (by simpa using e)))]
 refine Qs.divInt (by show Xh (1*1)≤_; decide) ?_ (by decide)
 show Xh (1*c)≤_
 rw [Int.one_mul]; omega
theorem Aq {p:List Int} {c:Int} (hc:c≠0) (hs:Xh c≤9000000) (hd:∀ j,c∣p.getD j 0) (hp:Bd 9000000 p) (hl:p.length≤1000):Q8 Tryz.prog 215 [.one (Zm (zp p)),.agg (rr (((1:Int):Rat) / (c:Rat)))] (.one (Zm (zp (Ut p.length fun i=>p.getD i 0 / c)))):=by
 have h:=Ua ((R4 hp (by omega)).mono (by omega)) (Qws hc hs) (by rw [Zf]; omega)
 rwa [show ((1:Int):Rat)=1 from rfl,Qkj hc hd] at h
set_option maxRecDepth 20000 in
theorem Sb {p:List Int} (tp:Yu p) (hp:Bd 9000000 p) (hl:p.length≤1000):Q8 Tryz.prog 261 [.one (Zm ((zp p)))] (.tup [.agg [dl ((dig (Fe p).natAbs)),sg (Fe p),dl ((dig (((((Fe p:Int):Rat)).den:Int)).natAbs)),sg (((((Fe p:Int):Rat)).den:Int))],.one (Zm ((zp ((Vv p)))))]):=by
 refine X2 tt 0 [] Tryz.func261 Tryz.ntmps261 rfl rfl rfl ?_
 rcases H9 p.length with h0 | h0
 ·have hpn:=Md h0
  refine Qw tt rfl ?_
  refine Zn (Ql Sl rfl rfl fun g1=>ko ?_)
  refine Qr tt 2 rfl ?_
  refine Qf tt 1 [] (Qj (m:=p.length) J5 rfl (by rw [Za,Zf]) rfl) rfl ?_
  refine Xf tt 0 [] (decide_eq_true (by omega)) rfl rfl ?_
  refine kl tt 2 [0] qGn rfl rfl rfl (Hu) rfl rfl ?_
  exact kr2 tt [0] rfl (by rw [hpn]; rfl)
 skip
 refine Qw tt rfl ?_
 refine Zn (Ql Sl rfl rfl fun g2=>ko ?_)
 refine Qr tt 2 rfl ?_
 refine Qf tt 1 [] (Qj (m:=p.length) J5 rfl (by rw [Za,Zf]) rfl) rfl ?_
 refine Xb tt 0 [] (decide_eq_false (by omega)) rfl rfl ?_
 refine kw (Zs qWv rfl rfl rfl rfl (Yt (n:=1) (by omega)) rfl) ?_
 refine Zn (Ql Cq rfl rfl fun g3=>ko ?_)
 refine Xd tt 2 [0] rfl ?_
 refine Qf tt 1 [] (Qj (m:=p.length) J5 rfl (by rw [Za,Zf]) rfl) rfl ?_
 refine Qk [0,2,4,15,16] rfl rfl ?_
 refine Zj (fun m L B=>∃ i,i≤p.length∧m=p.length-i∧L=[(0,.one (Zm ((zp p)))),(2,.one (.ow g2 0)),(4,.one (.ow g3 0)),(15,.one (.int .i64 (((p.length:Nat):Int)))),(16,.one (.int .i64 (((i:Nat):Int))))]∧B=[.blk g3 32 [dl ((dig ((1:Int)).natAbs)),sg ((1:Int))],.blk g2 34 [.nils,.bool false,.nils,.bool false]]) (m:=_) ⟨0,K7 _,rfl,rfl,rfl⟩ ?_
 rintro m L B ⟨i,hp0,hm,rfl,rfl⟩
 refine Qw tt rfl ?_
 by_cases hlt:i<p.length
 ·skip
  refine Qr tt 1 rfl ?_
  refine Xf tt 2 [] (decide_eq_true (by omega)) rfl rfl ?_
  refine Qx 13 Qp rfl rfl rfl ?_
  refine Xd tt 3 [0] rfl ?_
  refine kd (Qi (i) J5 Uo rfl rfl (rfl) (Qg (J9 (hlt))) rfl rfl) rfl ?_
  refine Qr tt 2 rfl ?_
  refine Ye tt 3 [0] qWu rfl rfl rfl (Qi5) rfl rfl ?_
  refine kd (Qi (i) J5 Uo rfl rfl (rfl) (Qg (J9 (hlt))) rfl rfl) rfl ?_
  refine Qr tt 2 rfl ?_
  refine Qw tt rfl ?_
  refine kl tt 0 [] qFs rfl rfl rfl (F8 (a:=1) (b:=1) (by decide) (by decide)) rfl rfl ?_
  refine kl tt 1 [0] qUq rfl rfl rfl (D8 (z:=1) (by decide)) rfl rfl ?_
  refine Qf tt 1 [] (Q6 (r:=((i+1:Nat):Int)) rfl rfl (Qm (by omega) (by omega)) rfl) rfl ?_
  refine Qk [0,2,4,15,16] rfl rfl ?_
  refine Q7 ?_
  refine ⟨_,?_,i+1,by omega,rfl,rfl,rfl⟩
  omega
 skip
 refine Qr tt 1 rfl ?_
 refine Xb tt 0 [] (decide_eq_false (by omega)) rfl rfl ?_
 refine Zn (Ql Cq rfl rfl fun g4=>ko ?_)
 refine Qr tt 1 rfl ?_
 refine Qf tt 1 [] (Qj (m:=p.length) J5 rfl (by rw [Za,Zf]) rfl) rfl ?_
 refine X5 (fun _ k_=>Jp (ys:=ri ((Fy p 0:Nat):Int)) 0 rfl rfl ri_zero.symm (Qo k_)) rfl ?_
 refine Qk [0,2,4,6,36,37] rfl rfl ?_
 refine Zj (fun m L B=>∃ i,i≤p.length∧m=p.length-i∧L=[(0,.one (Zm ((zp p)))),(2,.one (.ow g2 0)),(4,.one (.ow g3 0)),(6,.one (.ow g4 0)),(36,.one (.int .i64 (((p.length:Nat):Int)))),(37,.one (.int .i64 (((i:Nat):Int))))]∧B=[.blk g4 32 [dl ((dig (((Fy p i:Nat):Int)).natAbs)),sg (((Fy p i:Nat):Int))],.blk g3 32 [dl ((dig ((1:Int)).natAbs)),sg ((1:Int))],.blk g2 34 [.nils,.bool false,.nils,.bool false]]) (m:=_) ⟨0,K7 _,rfl,rfl,rfl⟩ ?_
 rintro m L B ⟨i,hp0,hm,rfl,rfl⟩
 refine Qw tt rfl ?_
 by_cases hlt:i<p.length
 ·skip
  refine Qr tt 1 rfl ?_
  refine Xf tt 2 [] (decide_eq_true (by omega)) rfl rfl ?_
  refine Qx 14 Qp rfl rfl rfl ?_
  refine Xd tt 3 [0] rfl ?_
  refine kd (Qi (i) J5 Uo rfl rfl (rfl) (Qg (J9 (hlt))) rfl rfl) rfl ?_
  refine Xd tt 3 [1] rfl ?_
  refine Ye tt 2 [] qWu rfl rfl rfl (Qg4 (z:=p.getD i 0) (Xa (Zl hp i) (by omega))) rfl rfl ?_
  refine kd (Qi (i) J5 Uo rfl rfl (rfl) (Qg (J9 (hlt))) rfl rfl) rfl ?_
  refine Qr tt 2 rfl ?_
  refine Ye tt 0 [] qUq rfl rfl rfl (D8 (z:=p.getD i 0) (Xa (Zl hp i) (by omega))) rfl rfl ?_
  refine kl tt 1 [0] qFs rfl rfl rfl (F8 (a:=((Fy p i:Nat):Int)) (b:=p.getD i 0) (Xa (Ry hp i) (by omega)) (Xa (Zl hp i) (by omega))) rfl rfl ?_
  refine Qf tt 1 [] (Q6 (r:=((i+1:Nat):Int)) rfl rfl (Qm (by omega) (by omega)) rfl) rfl ?_
  refine Qk [0,2,4,6,36,37] rfl rfl ?_
  refine Q7 ?_
  refine ⟨_,?_,i+1,by omega,rfl,rfl,rfl⟩
  omega
 have hin:i=p.length:=by omega
 refine Qr tt 1 rfl ?_
 refine Xb tt 2 [0,1] (decide_eq_false (by omega)) rfl rfl ?_
 refine kw (Zs qUj rfl rfl rfl rfl (Ku (z:=((Fy p i:Nat):Int)) (Xa (Ry hp i) (by omega))) rfl) ?_
 refine Zn (Ql Sl rfl rfl fun g5=>ko ?_)
 refine Xd tt 3 [0] rfl ?_
 refine Qf tt 0 [] (Qj (m:=p.length) J5 rfl (by rw [Za,Zf]) rfl) rfl ?_
 refine Qf tt 0 [] (Xs (r:=((p.length-1:Nat):Int)) rfl rfl (Qm (by omega) (by omega)) rfl) rfl ?_
 refine Qf tt 3 [] (Qi (p.length-1) J5 Uo rfl rfl (rfl) (Qg (J9 (by omega))) rfl rfl) rfl ?_
 refine Cu 1 (fun L B=>∃ c,c=Fe p∧L=[(0,.one (Zm ((zp p)))),(2,.one (.ow g2 0)),(8,.one (.ow g5 0))]∧B=[.blk g5 34 [dl ((dig (c).natAbs)),sg c,dl ((dig (((((c:Int):Rat)).den:Int)).natAbs)),sg (((((c:Int):Rat)).den:Int))],.blk g2 34 [.nils,.bool false,.nils,.bool false]]) ?_ rfl ?_
 ·skip
  refine Qw tt rfl ?_
  refine kif rfl (fun hb_if4=>?_) (fun hb_if4=>?_)
  ·try simp only [decide_eq_true_eq,decide_eq_false_iff_not,Vf,Vg] at hb_if4
   replace hb_if4:Q0 p<0:=hb_if4
   refine Xd tt 1 [0] rfl ?_
   refine kl tt 1 [0] Tryz.func102 rfl rfl rfl (Lp (z:=((Fy p i:Nat):Int)) (Xa (Ry hp i) (by omega))) rfl rfl ?_
   refine Qk [0,2,8] rfl rfl ?_
   refine Y2 1 rfl rfl ?_
   refine Y2 1 rfl rfl ?_
   refine Q7 ?_
   exact ⟨-((Fy p i:Nat):Int),by unfold Fe Qf5; rw [if_pos hb_if4,←hin],rfl,rfl⟩
  try simp only [decide_eq_true_eq,decide_eq_false_iff_not,Vf,Vg] at hb_if4
  replace hb_if4:¬Q0 p<0:=hb_if4
  refine Qw tt rfl ?_
  refine Qk [0,2,8] rfl rfl ?_
  refine Y2 1 rfl rfl ?_
  refine Y2 1 rfl rfl ?_
  refine Q7 ?_
  exact ⟨((Fy p i:Nat):Int),by unfold Fe Qf5; rw [if_neg hb_if4,←hin],rfl,rfl⟩
 rintro L B ⟨c,hcp0,rfl,rfl⟩
 refine Qw tt rfl ?_
 have hci:=Qov hp
 rw [←hcp0] at hci
 have hcn:=Qpx tp h0
 rw [←hcp0] at hcn
 have hcd:=Qoj p
 rw [←hcp0] at hcd
 skip
 refine Qw tt rfl ?_
 refine Qx 6 Qp rfl rfl rfl ?_
 refine Xd tt 2 [0] rfl ?_
 refine Ye tt 1 [0] qGd rfl rfl rfl (D5 (n:=1) (by omega)) rfl rfl ?_
 refine Ye tt 0 [] Tryz.func218 rfl rfl rfl (Iv (a:=((1:Int):Rat)) (b:=((c:Int):Rat)) (Ue (by decide) (by decide)) (Ue (Xa hci (by omega)) (by omega)) (fun e=>hcn (by exact_mod_cast e))) rfl rfl ?_
 refine Ye tt 2 [1] qFt rfl rfl rfl (Aq (p:=p) (c:=c) hcn hci hcd hp hl) rfl rfl ?_
 exact kr2 tt [1] rfl (by rw [hcp0]; rfl)
theorem Wq {p:List Int} (tp:Yu p) (hp:Bd 9000000 p) (hl:p.length≤1000):Q8 Tryz.prog 279 [.one (Zm ((zp p)))] (.one (Zm ((zp ((Vv p)))))):=by
 refine X2 tt 2 [] qFu Tryz.ntmps279 rfl rfl rfl ?_
 refine kl tt 3 [] Tryz.func261 rfl rfl rfl (Sb tp hp hl) rfl rfl ?_
 refine Zn (Ql Sl rfl rfl fun g1=>ko ?_)
 refine Xd tt 4 [0] rfl ?_
 exact Xq tt [] rfl (rfl)
theorem Qbv {p:List Int} (tp:Yu p):Fe p<0↔Q0 p<0:=by
 unfold Fe
 rcases H9 p.length with h0 | h0
 ·have:=Md h0; subst this; decide
 have:=Qf2 tp h0
 split <;> omega
theorem By {p:List Int} (tp:Yu p) (hp:Bd 9000000 p) (hl:p.length≤1000):Q8 Tryz.prog 181 [.one (Zm ((zp p)))] (.one (Zm ((zp ((Gl p)))))):=by
 refine X2 tt 2 [] Tryz.func181 Tryz.ntmps181 rfl rfl rfl ?_
 refine kl tt 3 [] Tryz.func261 rfl rfl rfl (Sb tp hp hl) rfl rfl ?_
 refine Zn (Ql Sl rfl rfl fun g1=>ko ?_)
 refine Xd tt 5 [0,0] rfl ?_
 refine kif rfl (fun hb_if1=>?_) (fun hb_if1=>?_)
 ·try simp only [decide_eq_true_eq,decide_eq_false_iff_not,Vf,Vg] at hb_if1
  refine Qr tt 1 rfl ?_
  refine kl tt 1 [] Tryz.func182 rfl rfl rfl (Ir (p:=(Vv p)) (Qz (Ik hp) (by omega)) (Xa (De p) (by omega))) rfl rfl ?_
  exact Xq tt [] rfl (by unfold Gl; rw [if_pos ((Qbv tp).1 hb_if1)])
 try simp only [decide_eq_true_eq,decide_eq_false_iff_not,Vf,Vg] at hb_if1
 refine Qr tt 2 rfl ?_
 exact Xq tt [] rfl (by unfold Gl; rw [if_neg fun h=>hb_if1 ((Qbv tp).2 h)])
end Orr

namespace Orr
open Go
variable {P:Program} {ops:Array Oper} {n d:Nat} {rest:List Oper} {N:Sg→List OB→Prop} {L:Sg} {B:List OB} {ty:TypeId} {pos:String} {after:Array Edge}
theorem Qc2 (i:Nat) {T E sz:Nat} {x y z:Operand} {kd kd':IntKind} {p q:Int} {l l':List (List LV)} (hu:∀ w,(underlying T).run P w=.ok (.slice E) w) (hs:∀ w,(Go.sizeOf E).run P w=.ok sz w) (hx:Yf L x=some (.one (.row l))) (hy:Yf L y=some (.one (.int kd p))) (hz:Yf L z=some (.one (.int kd' q))) (hp:p=(i:Int)) (hq:q=(i:Int)) (hi:i≤l.length) (hsz:∀ z∈l,z.length=sz) (hl':l.take i=l') (hd:Nat.blt d n=true) :
    AP P ops n { dst:=some d,op:=.slice T x none (some y) (some z),type:=ty,pos:=pos,after:=after,guard:=none } d (.one (.row l')) L B:=by
  refine Rv hd fun K Ob w0 w a Bs L' Fs h hL hB=>?_
  subst hp hq
  obtain ⟨v,hv,hr⟩:=Zq hL hx
  obtain ⟨u,hu',hr2⟩:=Zq hL hy
  obtain ⟨u3,hu3,hr3⟩:=Zq hL hz
  obtain rfl:=Xt hr2
  obtain rfl:=Xt hr3
  obtain ⟨A,c,rfl,hc,hr'⟩:=Dx hr
  have key:=Im (lo:=0) (hi:=i) (c':=i) hr' (K7 _) hi (.inr rfl) hsz (l':=l') (by rw [qXf,qYf]; exact hl')
  refine ⟨.slice (if i=0 then A else A.map (·.add (0*sz))) i i,?_,show LRep w (Qy Ob Bs) (.slice _ (i-0) (i-0)) _ from key⟩
  simp [execOp,h.ev hv,h.ev hu',h.ev hu3,Instr.sliceAt,Instr.slice,Instr.sliceBounds,hu,hs,Jc _ (show i≤c by omega),Jc _ (Ji i)]
end Orr

namespace Orr
open Go Go.Proofs
theorem Qgx {x y:Int} (hx:Xh x≤9000000) (hy:Xh y≤9000000) (h0:y≠0) (hd:y∣x):Q8 Tryz.prog 218 [.agg (rr (x:Rat)),.agg (rr (y:Rat))] (.agg (rr ((x / y:Int):Rat))):=by
 have hy0:(y:Rat)≠0:=fun e=>h0 (by exact_mod_cast e)
 have h:=Iv (Ue (s:=40000000) (z:=x) (by omega) (by omega)) (Ue (s:=40000000) (z:=y) (by omega) (by omega)) hy0
 obtain ⟨k,rfl⟩:=hd
 rw [qXx _ h0]
 rwa [show (((y*k:Int):Rat)) / (y:Rat)=(k:Rat) by rw [qJs]; grind] at h
theorem Cl {p:List Int} {c:Int} (hp:Bd 40000000 p) (hc:Xh c≤40000000) (hl:p.length≤1000000):Q8 Tryz.prog 215 [.one (Zm (zp p)),.agg (rr (c:Rat))] (.one (Zm (zp (Xx p c)))):=by
 have h:=Ua (R4 hp (by omega)) (Ue hc (by omega)) (by rw [Zf]; exact hl)
 rwa [Qcd] at h
theorem Qt3 (k:Nat) (p:List Int):List.replicate k (rr 0)++(zp p).map rr=(zp (G6 k p)).map rr:=by simp [zp,G6]
set_option maxRecDepth 20000 in
theorem Qd7 {a0 b qf rem:List Int} {n:Nat} (hb0:0<b.length) (hb1:b.length≤1000) (hl0:a0.length≤1000) (hbb:Bd 9000000 b) (hqb:Bd 9000000 qf) (hrun:DRun b n a0 (List.replicate (a0.length+1-b.length) 0) qf rem):Q8 Tryz.prog 280 [.one (Zm ((zp a0))),.one (Zm ((zp b)))] (.tup [.one (Zm ((zp ((trim qf))))),.one (Zm ((zp rem)))]):=by
 refine X2 tt 3 [] Tryz.func280 Tryz.ntmps280 rfl rfl rfl ?_
 refine Qf tt 1 [] (Qj (m:=a0.length) J5 rfl (by rw [Za,Zf]) rfl) rfl ?_
 refine Qf tt 0 [] (Qj (m:=b.length) J5 rfl (by rw [Za,Zf]) rfl) rfl ?_
 refine Qf tt 0 [] (Xs (r:=(((a0.length:Nat):Int)-((b.length:Nat):Int))) rfl rfl (Qm (by omega) (by omega)) rfl) rfl ?_
 refine Qf tt 0 [] (Q6 (r:=(((a0.length:Nat):Int)-((b.length:Nat):Int)+1)) rfl rfl (Qm (by omega) (by omega)) rfl) rfl ?_
 refine kw (Qbk (r:=(((a0.length+1-b.length):Nat):Int)) rfl rfl (by omega) rfl) ?_
 refine Zn (G3 ((a0.length+1-b.length)) J5 qWz rfl Uo Sl rfl rfl rfl rfl rfl rfl (rfl) (rfl) (by omega) rfl fun r1=>ko ?_)
 refine X5 (fun _ k_=>Gy (ls':=List.replicate 0 (rr 0)++List.replicate ((a0.length+1-b.length)-0) zR) 0 rfl rfl (by simp) (Qo k_)) rfl ?_
 refine Qr tt 2 rfl ?_
 refine Qf tt 1 [] (Qj (m:=(a0.length+1-b.length)) J5 rfl (rfl) rfl) rfl ?_
 refine Qk [0,1,6,21,22] rfl rfl ?_
 refine Zj (fun m L B=>∃ i,i≤(a0.length+1-b.length)∧m=(a0.length+1-b.length)-i∧L=[(0,.one (Zm ((zp a0)))),(1,.one (Zm ((zp b)))),(6,.one (.orow r1 4 0 ((a0.length+1-b.length)))),(21,.one (.int .i64 ((((a0.length+1-b.length):Nat):Int)))),(22,.one (.int .i64 (((i:Nat):Int))))]∧B=[.row r1 34 4 (List.replicate i (rr 0)++List.replicate ((a0.length+1-b.length)-i) zR)]) (m:=_) ⟨0,K7 _,rfl,rfl,rfl⟩ ?_
 rintro m L B ⟨i,hp0,hm,rfl,rfl⟩
 refine Qw tt rfl ?_
 by_cases hlt0:i<(a0.length+1-b.length)
 ·skip
  refine Qr tt 1 rfl ?_
  refine Xf tt 4 [] (decide_eq_true (by omega)) rfl rfl ?_
  refine kl tt 0 [] qGn rfl rfl rfl (Hu) rfl rfl ?_
  refine kw (Zr (i) J5 Uo rfl rfl (rfl) (by omega) rfl) ?_
  refine Zn (Ju (ls2:=List.replicate (i+1) (rr 0)++List.replicate ((a0.length+1-b.length)-(i+1)) zR) 0 Uo rfl rfl rfl rfl rfl rfl (Oh hlt0) rfl (Qec hlt0) (ko ?_))
  refine Qw tt rfl ?_
  refine Qf tt 1 [] (Q6 (r:=((i+1:Nat):Int)) rfl rfl (Qm (by omega) (by omega)) rfl) rfl ?_
  refine Qk [0,1,6,21,22] rfl rfl ?_
  refine Q7 ?_
  refine ⟨_,?_,i+1,by omega,rfl,rfl,rfl⟩
  omega
 skip
 refine Qr tt 1 rfl ?_
 refine Xb tt 0 [] (decide_eq_false (by omega)) rfl rfl ?_
 refine X5 (fun _ k_=>Jx (ls':=(zp (List.replicate (a0.length+1-b.length) 0)).map rr) 0 rfl (by rw [show i=(a0.length+1-b.length) by omega]; simp [zp]) (Qo k_)) rfl ?_
 refine Qk [0,1,6] rfl rfl ?_
 refine Zj (fun m L B=>∃ k a q,DRun b k a q qf rem∧q.length=(a0.length+1-b.length)∧m=k∧L=[(0,.one (Zm ((zp a)))),(1,.one (Zm ((zp b)))),(6,.one (.orow r1 4 0 ((a0.length+1-b.length))))]∧B=[.row r1 34 4 ((zp q).map rr)]) (m:=_) ⟨n,a0,_,hrun,Li,rfl,rfl,rfl⟩ ?_
 rintro m L B ⟨k,a,q,hr0,hr1,hm,rfl,rfl⟩
 refine Qw tt rfl ?_
 rcases hr0.inv with ⟨hk,hqf,har,hlt⟩ | ⟨j,hk,hba,hal,hab,hpb,hpd,hkq,hrj⟩
 ·skip
  refine Qr tt 1 rfl ?_
  refine Qf tt 1 [] (Qj (m:=a.length) J5 rfl (by rw [Za,Zf]) rfl) rfl ?_
  refine Qf tt 1 [] (Qj (m:=b.length) J5 rfl (by rw [Za,Zf]) rfl) rfl ?_
  refine Xb tt 1 [] (decide_eq_false (by omega)) rfl rfl ?_
  refine X5 (fun _ k_=>Xm 0 [81] rfl (Zg rfl) (by rw [Zw,Zf,hr1]) (by rw [Zw,Zf,hr1]; omega) rfl (Qo k_)) rfl ?_
  refine Qw tt rfl ?_
  refine kl tt 3 [] qFh rfl rfl rfl ((by rw [hqf]; have h:=Wr (p:=zp qf) ((R4 hqb (by omega)).mono (by omega)) (by rw [Zf,←hqf,hr1]; omega); rwa [Fq] at h)) rfl rfl ?_
  exact kr2 tt [] rfl (by rw [har])
 have hla:Xh (Q0 a)≤9000000:=Zl hab _
 have hlb:Xh (Q0 b)≤9000000:=Zl hbb _
 have hcs:Xh (Q0 a / Q0 b)≤9000000:=Xa (Pc _ _) hla
 refine Qr tt 1 rfl ?_
 refine Qf tt 1 [] (Qj (m:=a.length) J5 rfl (by rw [Za,Zf]) rfl) rfl ?_
 refine Qf tt 1 [] (Qj (m:=b.length) J5 rfl (by rw [Za,Zf]) rfl) rfl ?_
 refine Xf tt 1 [] (decide_eq_true (by omega)) rfl rfl ?_
 refine Qf tt 1 [] (Qj (m:=a.length) J5 rfl (by rw [Za,Zf]) rfl) rfl ?_
 refine Qf tt 0 [] (Qj (m:=b.length) J5 rfl (by rw [Za,Zf]) rfl) rfl ?_
 refine Qf tt 1 [] (Xs (r:=((a.length-b.length:Nat):Int)) rfl rfl (Qm (by omega) (by omega)) rfl) rfl ?_
 refine kc (Ul Qp 14 [40,41,42,43,44,45,46,47,48,49,50,51,52,9] [[],[],[1],[2],[0,3],[4],[],[],[7],[8],[6,9],[10],[5,11],[]] [.one (Zm ((zp a))),.one (Zm ((zp a))),.one (.int .i64 (((a.length:Nat):Int))),.one (.int .i64 (((a.length-1:Nat):Int))),.one (.sh [dl ((dig (Q0 a).natAbs)),sg (Q0 a),dl ((dig (((((Q0 a:Int):Rat)).den:Int)).natAbs)),sg (((((Q0 a:Int):Rat)).den:Int))]),.agg [dl ((dig (Q0 a).natAbs)),sg (Q0 a),dl ((dig (((((Q0 a:Int):Rat)).den:Int)).natAbs)),sg (((((Q0 a:Int):Rat)).den:Int))],.one (Zm ((zp b))),.one (Zm ((zp b))),.one (.int .i64 (((b.length:Nat):Int))),.one (.int .i64 (((b.length-1:Nat):Int))),.one (.sh [dl ((dig (Q0 b).natAbs)),sg (Q0 b),dl ((dig (((((Q0 b:Int):Rat)).den:Int)).natAbs)),sg (((((Q0 b:Int):Rat)).den:Int))]),.agg [dl ((dig (Q0 b).natAbs)),sg (Q0 b),dl ((dig (((((Q0 b:Int):Rat)).den:Int)).natAbs)),sg (((((Q0 b:Int):Rat)).den:Int))],.agg [dl ((dig ((Q0 a / Q0 b)).natAbs)),sg ((Q0 a / Q0 b)),dl ((dig ((((((Q0 a / Q0 b):Int):Rat)).den:Int)).natAbs)),sg ((((((Q0 a / Q0 b):Int):Rat)).den:Int))],.un] [(13,34,[.slice none 0 0,.bool false,.slice none 0 0,.bool false])] [[.nils,.bool false,.nils,.bool false]] rfl rfl rfl (by decide) ⟨rfl,trivial⟩ rfl ⟨Zd rfl rfl,Zd rfl rfl,Qj (m:=a.length) J5 rfl (by rw [Za,Zf]) rfl,Xs (r:=((a.length-1:Nat):Int)) rfl rfl (Qm (by omega) (by omega)) rfl,Qi (a.length-1) J5 Uo rfl rfl (rfl) (Qg (J9 (by omega))) rfl rfl,Zz qUo Uo rfl rfl rfl rfl,Zd rfl rfl,Zd rfl rfl,Qj (m:=b.length) J5 rfl (by rw [Za,Zf]) rfl,Xs (r:=((b.length-1:Nat):Int)) rfl rfl (Qm (by omega) (by omega)) rfl,Qi (b.length-1) J5 Uo rfl rfl (rfl) (Qg (J9 (by omega))) rfl rfl,Zz qUo Uo rfl rfl rfl rfl,Zs Tryz.func218 rfl rfl rfl rfl (Qgx (x:=Q0 a) (y:=Q0 b) hla hlb hpb hpd) rfl,Vl Sl rfl,trivial⟩ fun g2=>⟨_,_,rfl,rfl,kn ?_⟩)
 refine Xd tt 4 [0,0] rfl ?_
 refine kw (Zr ((a.length-b.length)) J5 Uo rfl rfl (rfl) (by omega) rfl) ?_
 refine Zn (Ju (ls2:=(zp (q.set (a.length-b.length) (Q0 a / Q0 b))).map rr) 1 Uo rfl rfl rfl rfl rfl rfl (Qw6 _ (by omega)) rfl (by rw [Vy]; exact Qq1 _ _ _) (ko ?_))
 refine Qr tt 1 rfl ?_
 refine Zn (G3 ((a.length-b.length)) J5 qWz rfl Uo Sl rfl rfl rfl rfl rfl rfl (rfl) (rfl) (by omega) rfl fun r3=>ko ?_)
 refine X5 (fun _ k_=>Gy (ls':=List.replicate 0 (rr 0)++List.replicate ((a.length-b.length)-0) zR) 0 rfl rfl (by simp) (Qo k_)) rfl ?_
 refine Qr tt 2 rfl ?_
 refine Qf tt 1 [] (Qj (m:=(a.length-b.length)) J5 rfl (rfl) rfl) rfl ?_
 refine Qk [0,1,6,8,9,10,60,61] rfl rfl ?_
 refine Zj (fun m L B=>∃ e,e≤(a.length-b.length)∧m=(a.length-b.length)-e∧L=[(0,.one (Zm ((zp a)))),(1,.one (Zm ((zp b)))),(6,.one (.orow r1 4 0 ((a0.length+1-b.length)))),(8,.one (.int .i64 (((a.length-b.length:Nat):Int)))),(9,.one (.ow ((g2 13)) 0)),(10,.one (.orow r3 4 0 ((a.length-b.length)))),(60,.one (.int .i64 ((((a.length-b.length):Nat):Int)))),(61,.one (.int .i64 (((e:Nat):Int))))]∧B=[.row r3 34 4 (List.replicate e (rr 0)++List.replicate ((a.length-b.length)-e) zR),.row r1 34 4 ((zp (q.set (a.length-b.length) (Q0 a / Q0 b))).map rr),.blk (g2 13) 34 [dl ((dig ((Q0 a / Q0 b)).natAbs)),sg ((Q0 a / Q0 b)),dl ((dig ((((((Q0 a / Q0 b):Int):Rat)).den:Int)).natAbs)),sg ((((((Q0 a / Q0 b):Int):Rat)).den:Int))]]) (m:=_) ⟨0,K7 _,rfl,rfl,rfl⟩ ?_
 rintro m L B ⟨e,he0,hm,rfl,rfl⟩
 refine Qw tt rfl ?_
 by_cases hlt1:e<(a.length-b.length)
 ·skip
  refine Qr tt 1 rfl ?_
  refine Xf tt 4 [] (decide_eq_true (by omega)) rfl rfl ?_
  refine kl tt 0 [] qGn rfl rfl rfl (Hu) rfl rfl ?_
  refine kw (Zr (e) J5 Uo rfl rfl (rfl) (by omega) rfl) ?_
  refine Zn (Ju (ls2:=List.replicate (e+1) (rr 0)++List.replicate ((a.length-b.length)-(e+1)) zR) 0 Uo rfl rfl rfl rfl rfl rfl (Oh hlt1) rfl (Qec hlt1) (ko ?_))
  refine Qw tt rfl ?_
  refine Qf tt 1 [] (Q6 (r:=((e+1:Nat):Int)) rfl rfl (Qm (by omega) (by omega)) rfl) rfl ?_
  refine Qk [0,1,6,8,9,10,60,61] rfl rfl ?_
  refine Q7 ?_
  refine ⟨_,?_,e+1,by omega,rfl,rfl,rfl⟩
  omega
 have hek:e=(a.length-b.length):=by omega
 refine Qr tt 1 rfl ?_
 refine Xb tt 0 [] (decide_eq_false (by omega)) rfl rfl ?_
 refine kc (S0 Qp 11 [69,70,71,72,73,74,75,76,77,78,79] [[],[],[1],[],[3],[0,2,4],[],[],[],[7,8],[6,9]] [.one (Zm ((zp a))),.one (Zm ((zp a))),.one (.int .i64 (((a.length:Nat):Int))),.one (Zm ((zp a))),.one (.int .i64 (((a.length:Nat):Int))),.one (Zm ((zp a))),.one (.orow r3 4 0 ((a.length-b.length))),.one (Zm ((zp b))),.agg [dl ((dig ((Q0 a / Q0 b)).natAbs)),sg ((Q0 a / Q0 b)),dl ((dig ((((((Q0 a / Q0 b):Int):Rat)).den:Int)).natAbs)),sg ((((((Q0 a / Q0 b):Int):Rat)).den:Int))],.one (Zm ((zp ((Xx b (Q0 a / Q0 b)))))),.un] 10 (fun u B=>∃ r9,u=.one (.orow r9 4 0 (((a.length-b.length)+(Xx b (Q0 a / Q0 b)).length)))∧B=[.row r9 34 4 ((zp (G6 (a.length-b.length) (Xx b (Q0 a / Q0 b)))).map rr),.row r1 34 4 ((zp (q.set (a.length-b.length) (Q0 a / Q0 b))).map rr),.blk (g2 13) 34 [dl ((dig ((Q0 a / Q0 b)).natAbs)),sg ((Q0 a / Q0 b)),dl ((dig ((((((Q0 a / Q0 b):Int):Rat)).den:Int)).natAbs)),sg ((((((Q0 a / Q0 b):Int):Rat)).den:Int))]]) rfl rfl rfl rfl ⟨Zd rfl rfl,Zd rfl rfl,Qj (m:=a.length) J5 rfl (by rw [Za,Zf]) rfl,Zd rfl rfl,Qj (m:=a.length) J5 rfl (by rw [Za,Zf]) rfl,Qc2 a.length J5 Uo rfl rfl rfl rfl rfl (by rw [Zw,Zf]; exact Ji _) (Vu _ (sz:=4) (fun _=>rfl)) (l':=(zp a).map rr) (by rw [Vh (by rw [Zw,Zf]; exact Ji _)]) rfl,Zd rfl rfl,Zd rfl rfl,Jm 2 qUo Uo rfl rfl rfl rfl rfl,Zs qFt rfl rfl rfl rfl (Cl (p:=b) (c:=(Q0 a / Q0 b)) (Qz hbb (by omega)) (by omega) (by omega)) rfl,?_,trivial⟩ ?_ ?_)
 ·refine Rz fun N k_=>?_
  refine Zo (ls2:=(zp (G6 (a.length-b.length) (Xx b (Q0 a / Q0 b)))).map rr) (m2:=(a.length-b.length)+(Xx b (Q0 a / Q0 b)).length) 0 J5 J5 qWz rfl rfl Uo Sl rfl rfl rfl rfl rfl rfl rfl (by rw [hek,qYa,List.replicate_zero,qXh,Li]; exact Ji _) (Vu _ (fun _=>rfl)) (F1 _ (fun _=>rfl)) (by rw [Zw,Zf]; have:=Z6 b (Q0 a / Q0 b); omega) (by rw [hek,qYa,List.replicate_zero,qXh,Vh (by rw [Li]; exact Ji _)]; exact Qt3 _ _) (by rw [Zw,Zf]) fun r4=>?_
  exact Qo (k_ _ _ ⟨_,rfl,rfl⟩)
 ·rintro u_ B_ ⟨r9,rfl,rfl⟩
  exact ⟨Zd rfl rfl,Zd rfl rfl,Qj (m:=a.length) J5 rfl (by rw [Za,Zf]) rfl,Zd rfl rfl,Qj (m:=a.length) J5 rfl (by rw [Za,Zf]) rfl,Qc2 a.length J5 Uo rfl rfl rfl rfl rfl (by rw [Zw,Zf]; exact Ji _) (Vu _ (sz:=4) (fun _=>rfl)) (l':=(zp a).map rr) (by rw [Vh (by rw [Zw,Zf]; exact Ji _)]) rfl,Zd rfl rfl,Zd rfl rfl,Jm 2 qUo Uo rfl rfl rfl rfl rfl,Zs qFt rfl rfl rfl rfl (Cl (p:=b) (c:=(Q0 a / Q0 b)) (Qz hbb (by omega)) (by omega) (by omega)) rfl,trivial,trivial⟩
 rintro u_ B_ ⟨r9,rfl,rfl⟩
 refine ⟨_,rfl,kn ?_⟩
 refine Qw tt rfl ?_
 refine X5 (fun _ k_=>Xm 0 [79] rfl (Zg rfl) (by rw [Zw,Zf,M9]) (by rw [Zw,Zf,M9]; have:=Z6 b (Q0 a / Q0 b); omega) rfl (Qo k_)) rfl ?_
 refine Qw tt rfl ?_
 refine kl tt 1 [] Tryz.func108 rfl rfl rfl (T3 (p:=a) (q:=(G6 (a.length-b.length) (Xx b (Q0 a / Q0 b)))) (Qz hab (by omega)) (Qz (Qnw (Xo hbb hcs)) (by omega)) (by omega) (by rw [M9]; have:=Z6 b (Q0 a / Q0 b); omega)) rfl rfl ?_
 refine Qk [0,1,6] rfl rfl ?_
 refine Y2 1 rfl rfl ?_
 refine Q7 ?_
 refine ⟨_,?_,j,_,_,hrj,by rw [H8]; exact hr1,rfl,rfl,rfl⟩
 omega
end Orr

namespace Orr
open Go Go.Proofs
abbrev zp1 (p:List Int):List LV:=[Zm (zp p)]
def Kk (l:List (List Int)):LV:=.row (l.map zp1)
theorem Dl (l:List (List Int)):We (Kk l)=some l.length:=by simp [Kk,We]
theorem Qjc {a b g:List Int} {n:Nat} (ta:Yu a) (tb:Yu b) (ha:Bd 9000000 a) (hb:Bd 9000000 b) (la:a.length≤1000) (lb:b.length≤1000) (hrun:GRun n (Vv a) (Vv b) g):Q8 Tryz.prog 223 [.one (Zm ((zp a))),.one (Zm ((zp b)))] (.one (Zm ((zp g)))):=by
 refine X2 tt 2 [] Tryz.func223 Tryz.ntmps223 rfl rfl rfl ?_
 refine kl tt 1 [] qFu rfl rfl rfl (Wq (p:=a) (ta) (ha) (la)) rfl rfl ?_
 refine kl tt 2 [] qFu rfl rfl rfl (Wq (p:=b) (tb) (hb) (lb)) rfl rfl ?_
 refine Qk [0,1] rfl rfl ?_
 refine Zj (fun m L B=>∃ k x y,GRun k x y g∧m=k∧L=[(0,.one (Zm ((zp x)))),(1,.one (Zm ((zp y))))]∧B=[]) (m:=_) ⟨n,_,_,hrun,rfl,rfl,rfl⟩ ?_
 rintro m L B ⟨k,x,y,hg0,hm,rfl,rfl⟩
 refine Qw tt rfl ?_
 rcases hg0.inv with ⟨hk,hy0,hxg⟩ | ⟨j,m2,r,hk,hy0,hy1,hyb,hrr,hrl,hrb,hrt,hgr⟩
 ·skip
  refine Qr tt 1 rfl ?_
  refine Qf tt 1 [] (Qj (m:=y.length) J5 rfl (by rw [Za,Zf]) rfl) rfl ?_
  refine Xb tt 2 [] (decide_eq_false (by omega)) rfl rfl ?_
  exact Xq tt [] rfl (by rw [hxg])
 skip
 refine Qr tt 1 rfl ?_
 refine Qf tt 1 [] (Qj (m:=y.length) J5 rfl (by rw [Za,Zf]) rfl) rfl ?_
 refine Xf tt 3 [] (decide_eq_true (by omega)) rfl rfl ?_
 refine kl tt 0 [] Tryz.func183 rfl rfl rfl (I9 (a0:=x) (b:=y) (res:=r) hy0 hy1 hyb hrr) rfl rfl ?_
 refine kl tt 2 [] qFu rfl rfl rfl (Wq (p:=r) hrt hrb hrl) rfl rfl ?_
 refine Qk [0,1] rfl rfl ?_
 refine Q7 ?_
 refine ⟨_,?_,j,y,Vv r,hgr,rfl,rfl,rfl⟩
 omega
theorem Av  : Q8 Tryz.prog 75 [.one (.row [[.int .i64 1]])] (.one (Zm ((zp ([1]))))):=by
 refine X2 tt 3 [] Tryz.func75 Tryz.ntmps75 rfl rfl rfl ?_
 refine Qf tt 1 [] (Qj (m:=1) qUv rfl (rfl) rfl) rfl ?_
 refine H1 2 ?_
 refine J7 ?_
 refine Qr tt 1 rfl ?_
 refine Xf tt 5 [] (rfl) rfl rfl ?_
 refine Qf tt 1 [] (Qi (0) qUv Js rfl rfl rfl rfl rfl rfl) rfl ?_
 refine kl tt 1 [] qGd rfl rfl rfl (D5 (n:=1) (by decide)) rfl rfl ?_
 refine Zn (Ds (ls2:=(zp [1]).map rr) (m2:=1) J5 J5 qWz rfl rfl Uo Sl rfl rfl rfl rfl rfl rfl rfl (Yh rfl) (Ya rfl) (by decide) (rfl) (rfl) fun r1=>ko ?_)
 refine Qr tt 1 rfl ?_
 refine Qf tt 1 [] (Q6 (r:=((1:Nat):Int)) rfl rfl (rfl) rfl) rfl ?_
 refine Q7 ?_
 refine J7 ?_
 refine Qr tt 1 rfl ?_
 refine Xb tt 1 [] (rfl) rfl rfl ?_
 refine X5 (fun _ k_=>Xm 0 [19] rfl (Zg rfl) rfl (by decide) rfl (Qo k_)) rfl ?_
 refine Qw tt rfl ?_
 refine kl tt 1 [] qFh rfl rfl rfl ((by have h:=Wr (p:=zp [1]) (R4 (s:=100000000) (by intro z hz; simp at hz; subst hz; decide) (by decide)) (by decide); rwa [Fq] at h)) rfl rfl ?_
 exact Xq tt [] rfl (by rw [show trim [1]=[1] by decide])
theorem Sz {a b q:List Int} (h:DOk a b q):∃ r,Q8 Tryz.prog 280 [.one (Zm (zp a)),.one (Zm (zp b))] (.tup [.one (Zm (zp q)),.one (Zm (zp r))]):=by
 obtain ⟨h1,h2,h3,h4,qf,r,n,h5,h6,h7,rfl⟩:=h
 exact ⟨r,Qd7 h1 h2 h3 h4 h5 h7⟩
theorem Du {l:List (List Int)} (h:0<l.length):(l.map zp1)[0+(l.length-1)]? = some (zp1 (Wm l)):=by
 rw [Vy]; exact Qg (Gj (by omega))
set_option maxRecDepth 20000 in
theorem Qbd {a:List Int} {mf:Nat} {f:Nat→List Int} (ta:Yu a) (ha:Bd 9000000 a) (la:a.length≤1000) (h2:2≤a.length) (hF:FRun a mf f):Q8 Tryz.prog 216 [.one (Zm ((zp a)))] (.one (Kk ((Ie f mf)))):=by
 refine X2 tt 0 [] Tryz.func216 Tryz.ntmps216 rfl rfl rfl ?_
 obtain ⟨⟨n,ls,hrun,hlen,hq⟩,hms⟩:=hF
 skip
 refine Qr tt 2 rfl ?_
 refine Qf tt 1 [] (Qj (m:=a.length) J5 rfl (by rw [Za,Zf]) rfl) rfl ?_
 refine Xb tt 1 [] (decide_eq_false (by omega)) rfl rfl ?_
 refine kl tt 3 [] qFu rfl rfl rfl (Wq (p:=a) (ta) (ha) (la)) rfl rfl ?_
 refine Zn (Ox Lt Ez qFb rfl rfl rfl rfl rfl rfl rfl rfl rfl rfl fun r1=>ko ?_)
 refine Qr tt 1 rfl ?_
 refine Qk [0,3,4] rfl rfl ?_
 refine Zj (fun m L B=>∃ k l e rw,LRun k l ls∧l.length=e∧0<e∧e≤1001∧m=k∧L=[(0,.one (Zm ((zp ((Vv a)))))),(3,.one (.nils)),(4,.one (.orow rw 1 0 e))]∧B=[.row rw 28 1 (l.map zp1)]) (m:=_) ⟨n,_,1,_,hrun,rfl,by decide,by decide,rfl,rfl,rfl⟩ ?_
 rintro m L B ⟨k,l,e,rw,hl0,hl1,hl2,hl3,hm,rfl,rfl⟩
 refine Qw tt rfl ?_
 rcases hl0.inv with ⟨hk,hlf,hll⟩ | ⟨j,m2,g,hk,hg1,hg2,hg3,hg4,hg5,hg6,hg7,hlr⟩
 ·skip
  refine Qr tt 2 rfl ?_
  refine Qf tt 0 [] (Qj (m:=e) Lt rfl (rfl) rfl) rfl ?_
  refine Qf tt 0 [] (Xs (r:=((e-1:Nat):Int)) rfl rfl (Qm (by omega) (by omega)) rfl) rfl ?_
  refine Qf tt 0 [] (Zr (e-1) Lt Ez rfl rfl (rfl) (by omega) rfl) rfl ?_
  refine Qf tt 0 [] (Yo 0 qFe Ez rfl rfl (by rw [←hl1]; exact Du (by omega)) rfl rfl rfl) rfl ?_
  refine Qf tt 1 [] (Qj (m:=((Wm l)).length) J5 rfl (by rw [Za,Zf]) rfl) rfl ?_
  refine Xb tt 2 [] (decide_eq_false (by omega)) rfl rfl ?_
  refine kl tt 1 [] Tryz.func75 rfl rfl rfl (Av) rfl rfl ?_
  refine Zn (Zo (ls2:=(l++[[1]]).map zp1) (m2:=e+1) 0 Lt Lt Tryz.typeInfo28 rfl rfl Ez qFb rfl rfl rfl rfl rfl rfl rfl (by rw [Zw]; omega) (Yh rfl) (Ya rfl) (by show _+1<_; omega) (by rw [Vh (by rw [Zw]; omega),G2]; rfl) (rfl) fun r2=>ko ?_)
  refine Qr tt 2 rfl ?_
  refine X5 (fun _ k_=>Xm 0 [4] rfl (Zg rfl) (by rw [Zw,H7,hl1]; rfl) (by rw [Zw,H7,hl1]; show e+1<_; omega) rfl (Qo k_)) rfl ?_
  have hlm:l.length=mf+1:=by rw [hlf]; exact hlen
  refine X5 (fun _ k_=>X9 [3] 28 1 rfl (Zg rfl) rfl (Qo k_)) rfl ?_
  refine Qk [0,4,3,6] rfl rfl ?_
  refine Zj (fun m L B=>∃ i r,i≤mf∧m=mf-i∧L=[(0,.one (Zm ((zp ((Vv a)))))),(4,.one (Kk ((l++[[1]])))),(3,.one (.orow r 1 0 i)),(6,.one (.int .i64 (((i:Nat):Int))))]∧B=[.row r 28 1 ((Ie f i).map zp1)]) (m:=_) ⟨0,none,K7 _,rfl,rfl,rfl⟩ ?_
  rintro m L B ⟨i,r,hp0,hm,rfl,rfl⟩
  refine Qw tt rfl ?_
  by_cases hlt:i<mf
  ·obtain ⟨x,y,z,hx,hy,hz,hf⟩:=hq i hlt
   rw [←hlf] at hx hy
   obtain ⟨rx,hdx⟩:=Sz hx
   obtain ⟨ry,hdy⟩:=Sz hy
   obtain ⟨rz,hdz⟩:=Sz hz
   refine Qr tt 1 rfl ?_
   refine Qf tt 1 [] (Q6 (r:=((i+2:Nat):Int)) rfl rfl (Qm (by omega) (by omega)) rfl) rfl ?_
   refine Qf tt 1 [] (Qj (m:=e+1) Lt rfl (by rw [Dl,H7,hl1]; rfl) rfl) rfl ?_
   refine Xf tt 0 [] (decide_eq_true (by omega)) rfl rfl ?_
   refine Qx 14 Qp rfl rfl rfl ?_
   refine Qr tt 2 rfl ?_
   refine kd (Qi (i) Lt Ez rfl rfl (rfl) (Qg (Gj (by rw [H7]; show _<l.length+1; omega))) rfl rfl) rfl ?_
   refine Qr tt 3 rfl ?_
   refine kd (Q6 (r:=((i+1:Nat):Int)) rfl rfl (Qm (by omega) (by omega)) rfl) rfl ?_
   refine Qw tt rfl ?_
   refine kd (Qi (i+1) Lt Ez rfl rfl (rfl) (Qg (Gj (by rw [H7]; show _<l.length+1; omega))) rfl rfl) rfl ?_
   refine Qr tt 1 rfl ?_
   refine Ye tt 4 [] Tryz.func280 rfl rfl rfl (hdx) rfl rfl ?_
   refine Qr tt 1 rfl ?_
   refine Qx 15 Qp rfl rfl rfl ?_
   refine Qr tt 2 rfl ?_
   refine kd (Q6 (r:=((i+1:Nat):Int)) rfl rfl (Qm (by omega) (by omega)) rfl) rfl ?_
   refine Qw tt rfl ?_
   refine kd (Qi (i+1) Lt Ez rfl rfl (rfl) (Qg (Gj (by rw [H7]; show _<l.length+1; omega))) rfl rfl) rfl ?_
   refine Qr tt 3 rfl ?_
   refine kd (Q6 (r:=((i+2:Nat):Int)) rfl rfl (Qm (by omega) (by omega)) rfl) rfl ?_
   refine Qw tt rfl ?_
   refine kd (Qi (i+2) Lt Ez rfl rfl (rfl) (Qg (Gj (by rw [H7]; show _<l.length+1; omega))) rfl rfl) rfl ?_
   refine Qr tt 1 rfl ?_
   refine Ye tt 4 [] Tryz.func280 rfl rfl rfl (hdy) rfl rfl ?_
   refine Qr tt 2 rfl ?_
   refine kl tt 1 [] qFu rfl rfl rfl (Wq (p:=x) hx.trim hx.bd hx.len) rfl rfl ?_
   refine kl tt 0 [] qFu rfl rfl rfl (Wq (p:=y) hy.trim hy.bd hy.len) rfl rfl ?_
   refine kl tt 7 [] Tryz.func280 rfl rfl rfl (hdz) rfl rfl ?_
   refine kl tt 1 [] qFu rfl rfl rfl (Wq (p:=z) hz.trim hz.bd hz.len) rfl rfl ?_
   refine Zn (Zo (ls2:=(Ie f (i+1)).map zp1) (m2:=i+1) 0 Lt Lt Tryz.typeInfo28 rfl rfl Ez qFb rfl rfl rfl rfl rfl rfl rfl (by rw [Zw,S1]; omega) (Yh rfl) (Ya rfl) (by show _+1<_; omega) (by rw [Vh (by rw [Zw,S1]; exact Ji _),Qm1,G2]; rw [hf]; rfl) (rfl) fun r3=>ko ?_)
   refine Qr tt 2 rfl ?_
   refine Qf tt 1 [] (Q6 (r:=((i+1:Nat):Int)) rfl rfl (Qm (by omega) (by omega)) rfl) rfl ?_
   refine Qk [0,4,3,6] rfl rfl ?_
   refine Q7 ?_
   refine ⟨_,?_,i+1,r3,by omega,rfl,rfl,rfl⟩
   omega
  have hin:i=mf:=by omega
  refine Qr tt 1 rfl ?_
  refine Qf tt 1 [] (Q6 (r:=((i+2:Nat):Int)) rfl rfl (Qm (by omega) (by omega)) rfl) rfl ?_
  refine Qf tt 1 [] (Qj (m:=e+1) Lt rfl (by rw [Dl,H7,hl1]; rfl) rfl) rfl ?_
  refine Xb tt 2 [] (decide_eq_false (by omega)) rfl rfl ?_
  refine X5 (fun _ k_=>Xm 0 [2] rfl (Zg rfl) (by rw [Zw,S1]) (by rw [Zw,S1]; omega) rfl (Qo k_)) rfl ?_
  exact Xq tt [] rfl (by rw [hin]; rfl)
 skip
 refine Qr tt 2 rfl ?_
 refine Qf tt 0 [] (Qj (m:=e) Lt rfl (rfl) rfl) rfl ?_
 refine Qf tt 0 [] (Xs (r:=((e-1:Nat):Int)) rfl rfl (Qm (by omega) (by omega)) rfl) rfl ?_
 refine Qf tt 0 [] (Zr (e-1) Lt Ez rfl rfl (rfl) (by omega) rfl) rfl ?_
 refine Qf tt 0 [] (Yo 0 qFe Ez rfl rfl (by rw [←hl1]; exact Du (by omega)) rfl rfl rfl) rfl ?_
 refine Qf tt 1 [] (Qj (m:=((Wm l)).length) J5 rfl (by rw [Za,Zf]) rfl) rfl ?_
 refine Xf tt 2 [] (decide_eq_true (by omega)) rfl rfl ?_
 refine Qf tt 0 [] (Qj (m:=e) Lt rfl (rfl) rfl) rfl ?_
 refine Qf tt 0 [] (Xs (r:=((e-1:Nat):Int)) rfl rfl (Qm (by omega) (by omega)) rfl) rfl ?_
 refine Qf tt 0 [] (Zr (e-1) Lt Ez rfl rfl (rfl) (by omega) rfl) rfl ?_
 refine Qf tt 4 [] (Yo 0 qFe Ez rfl rfl (by rw [←hl1]; exact Du (by omega)) rfl rfl rfl) rfl ?_
 refine kl tt 0 [] Tryz.func80 rfl rfl rfl (Nz (p:=(Wm l)) (Qz hg4 (by omega)) (by omega)) rfl rfl ?_
 refine kl tt 1 [] Tryz.func223 rfl rfl rfl (Qjc hg3 (Ke _ _) hg4 hg5 hg2 (Xa (Up _) (by omega)) hg6) rfl rfl ?_
 refine Zn (Zo (ls2:=(l++[g]).map zp1) (m2:=e+1) 0 Lt Lt Tryz.typeInfo28 rfl rfl Ez qFb rfl rfl rfl rfl rfl rfl rfl (by rw [Zw]; omega) (Yh rfl) (Ya rfl) (by show _+1<_; omega) (by rw [Vh (by rw [Zw]; omega),G2]; rfl) (rfl) fun r4=>ko ?_)
 refine Qr tt 1 rfl ?_
 refine Qk [0,3,4] rfl rfl ?_
 refine Q7 ?_
 refine ⟨_,?_,j,l++[g],e+1,r4,hlr,by rw [H7,hl1]; rfl,by omega,by omega,rfl,rfl,rfl⟩
 omega
end Orr

namespace Orr
open Go Go.Proofs
theorem Qox {l:List (List Int)} (g:List Int) (h:0<l.length):(l++[g])[l.length-1]? = some (Wm l):=by
 rw [qXa (by omega)]; exact Gj (by omega)
theorem Qe7 {a:List Int} {mf:Nat} {f:Nat→List Int} (ta:Yu a) (ha:Bd 9000000 a) (la:a.length≤1000) (h2:2≤a.length) (hF:FRun a mf f) (hP:Q0k mf f):Q8 Tryz.prog 141 [.one (Zm ((zp a)))] (.one (Zm ((zp ((Cj f mf)))))):=by
 refine X2 tt 0 [] Tryz.func141 Tryz.ntmps141 rfl rfl rfl ?_
 have hms:=hF.small
 skip
 refine Qr tt 2 rfl ?_
 refine Qf tt 1 [] (Qj (m:=a.length) J5 rfl (by rw [Za,Zf]) rfl) rfl ?_
 refine Xb tt 1 [] (decide_eq_false (by omega)) rfl rfl ?_
 refine kl tt 2 [] Tryz.func75 rfl rfl rfl (Av) rfl rfl ?_
 refine kl tt 2 [] Tryz.func216 rfl rfl rfl (Qbd ta ha la h2 hF) rfl rfl ?_
 refine Qf tt 1 [] (Qj (m:=mf) Lt rfl (by rw [Dl,S1]) rfl) rfl ?_
 refine Qk [3,4,14,15] rfl rfl ?_
 refine Zj (fun m L B=>∃ i,i≤mf∧m=mf-i∧L=[(3,.one (Zm ((zp ((Cj f i)))))),(4,.one (Kk ((Ie f mf)))),(14,.one (.int .i64 (((mf:Nat):Int)))),(15,.one (.int .i64 (((i:Nat):Int))))]∧B=[]) (m:=_) ⟨0,K7 _,rfl,rfl,rfl⟩ ?_
 rintro m L B ⟨i,hp0,hm,rfl,rfl⟩
 refine Qw tt rfl ?_
 by_cases hlt:i<mf
 ·obtain ⟨g1,g2,g3,g4⟩:=hP i hlt
  refine Qr tt 1 rfl ?_
  refine Xf tt 5 [] (decide_eq_true (by omega)) rfl rfl ?_
  refine Qf tt 1 [] (Qi (i) Lt Ez rfl rfl (rfl) (Qg (Qpq hlt)) rfl rfl) rfl ?_
  refine kl tt 1 [] qUk rfl rfl rfl (Hx (p:=Cj f i) (q:=f i) (by omega) (by omega) g1 g3 (by decide)) rfl rfl ?_
  refine Qf tt 1 [] (Q6 (r:=((i+1:Nat):Int)) rfl rfl (Qm (by omega) (by omega)) rfl) rfl ?_
  refine Qk [3,4,14,15] rfl rfl ?_
  refine Q7 ?_
  refine ⟨_,?_,i+1,by omega,rfl,rfl,rfl⟩
  omega
 have hin:i=mf:=by omega
 refine Qr tt 1 rfl ?_
 refine Xb tt 2 [] (decide_eq_false (by omega)) rfl rfl ?_
 exact Xq tt [] rfl (by rw [hin])
theorem Qf7 {a sq:List Int} {c:List (List Int)} (ta:Yu a) (ha:Bd 9000000 a) (la:a.length≤1000) (h2:2≤a.length) (hC:ChRun a sq c):Q8 Tryz.prog 105 [.one (Zm ((zp a)))] (.one (Kk c)):=by
 refine X2 tt 0 [] Tryz.func105 Tryz.ntmps105 rfl rfl rfl ?_
 obtain ⟨⟨mf,f,hF,hP,rfl⟩,⟨n,hcr⟩,hbd,hle,hsm⟩:=hC
 skip
 refine Qr tt 2 rfl ?_
 refine kl tt 2 [] Tryz.func141 rfl rfl rfl (Qe7 ta ha la h2 hF hP) rfl rfl ?_
 refine Zn (Ox Lt Ez qFb rfl rfl rfl rfl rfl rfl rfl rfl rfl rfl fun r1=>ko ?_)
 refine Qr tt 2 rfl ?_
 refine kl tt 0 [] Tryz.func80 rfl rfl rfl (Nz (p:=(Cj f mf)) (Qz hbd (by omega)) (by omega)) rfl rfl ?_
 refine kl tt 1 [] Tryz.func181 rfl rfl rfl (By (p:=Uj (Cj f mf)) (Ke _ _) (Qz (Qfd (t:=10) hbd (by omega)) (by omega)) (Xa (Up _) (by omega))) rfl rfl ?_
 refine Qk [4,5] rfl rfl ?_
 refine Zj (fun m L B=>∃ k l g e rw,CRun k l g c∧l.length=e∧0<e∧e≤1001∧m=k∧L=[(4,.one (.orow rw 1 0 e)),(5,.one (Zm ((zp g))))]∧B=[.row rw 28 1 (l.map zp1)]) (m:=_) ⟨n,_,_,1,_,hcr,rfl,by decide,by decide,rfl,rfl,rfl⟩ ?_
 rintro m L B ⟨k,l,g,e,rw,hc0,hc1,hc2,hc3,hm,rfl,rfl⟩
 refine Qw tt rfl ?_
 rcases hc0.inv with ⟨hk,hlf,hgl⟩ | ⟨j,m2,r,hk,hg1,hg2,hg3,hrr,hrt,hrb,hrl,hl0,hl1,hcj⟩
 ·skip
  refine Qr tt 1 rfl ?_
  refine Qf tt 1 [] (Qj (m:=g.length) J5 rfl (by rw [Za,Zf]) rfl) rfl ?_
  refine Xb tt 2 [] (decide_eq_false (by omega)) rfl rfl ?_
  have hel:e≤1000:=by rw [←hc1,hlf]; exact hsm
  refine X5 (fun _ k_=>Xm 0 [2] rfl (Zg rfl) (by rw [Zw,hc1]) (by rw [Zw,hc1]; omega) rfl (Qo k_)) rfl ?_
  exact Xq tt [] rfl (by rw [hlf]; rfl)
 skip
 refine Qr tt 1 rfl ?_
 refine Qf tt 1 [] (Qj (m:=g.length) J5 rfl (by rw [Za,Zf]) rfl) rfl ?_
 refine Xf tt 3 [] (decide_eq_true (by omega)) rfl rfl ?_
 refine Zn (Zo (ls2:=(l++[g]).map zp1) (m2:=e+1) 0 Lt Lt Tryz.typeInfo28 rfl rfl Ez qFb rfl rfl rfl rfl rfl rfl rfl (by rw [Zw]; omega) (Yh rfl) (Ya rfl) (by show _+1<_; omega) (by rw [Vh (by rw [Zw]; omega),G2]; rfl) (rfl) fun r2=>ko ?_)
 refine Qr tt 3 rfl ?_
 refine Qf tt 0 [] (Qj (m:=e+1) Lt rfl (rfl) rfl) rfl ?_
 refine Qf tt 0 [] (Xs (r:=((e-1:Nat):Int)) rfl rfl (Qm (by omega) (by omega)) rfl) rfl ?_
 refine Qf tt 0 [] (Zr (e-1) Lt Ez rfl rfl (rfl) (by omega) rfl) rfl ?_
 refine Qf tt 1 [] (Yo 0 qFe Ez rfl rfl (by rw [Vy,←hc1]; exact Qg (Qox g hl0)) rfl rfl rfl) rfl ?_
 refine kl tt 0 [] Tryz.func183 rfl rfl rfl (I9 (a0:=Wm l) (b:=g) (res:=r) hg1 hg2 hg3 hrr) rfl rfl ?_
 refine kl tt 0 [] Tryz.func181 rfl rfl rfl (By (p:=r) hrt hrb hrl) rfl rfl ?_
 refine kl tt 1 [] Tryz.func182 rfl rfl rfl (Ir (p:=Gl r) (Qz (Qnl hrb) (by omega)) (Xa (Qi2 r) (by omega))) rfl rfl ?_
 refine Qk [4,5] rfl rfl ?_
 refine Q7 ?_
 refine ⟨_,?_,j,l++[g],_,e+1,r2,hcj,by rw [H7,hc1]; rfl,by omega,by omega,rfl,rfl,rfl⟩
 omega
theorem Q02 {q:Rat} (h1:Xh q.num≤1000000) (h2:Xh (q.den:Int)≤1000000):Bd 9000000 [-q.num,(q.den:Int)]:=fun z hz=>by
 simp only [Vb,Nx,or_false] at hz
 rcases hz with rfl | rfl
 ·rw [Xk]; omega
 ·omega
def Qh4 (q:Rat) (c:List (List Int)):Prop:=∃ sq,ChRun [-q.num,(q.den:Int)] sq c
set_option maxRecDepth 20000 in
theorem So {q:Rat} {c:List (List Int)} (hq:Qs 1000000 q) (hC:Qh4 q c):Q8 Tryz.prog 38 [.agg [dl ((dig ((q).num).natAbs)),sg ((q).num),dl ((dig (((q).den:Int)).natAbs)),sg (((q).den:Int))]] (.agg [Zm ((zp [-(q).num,((q).den:Int)])),Kk c,dl ((dig ((q).num).natAbs)),sg ((q).num),dl ((dig (((q).den:Int)).natAbs)),sg (((q).den:Int)),dl ((dig ((q).num).natAbs)),sg ((q).num),dl ((dig (((q).den:Int)).natAbs)),sg (((q).den:Int))]):=by
 refine X2 tt 0 [] Tryz.func38 Tryz.ntmps38 rfl rfl rfl ?_
 obtain ⟨sq,hch⟩:=hC
 have hq1:=hq.1
 have hq2:=hq.2
 skip
 refine Qr tt 1 rfl ?_
 refine Zn (Ql Tryz.zeroValue36 rfl rfl fun g1=>ko ?_)
 refine Qw tt rfl ?_
 refine Qx 8 Qp rfl rfl rfl ?_
 refine Qr tt 2 rfl ?_
 refine Ye tt 0 [] qWv rfl rfl rfl (Yt (n:=1) (by omega)) rfl rfl ?_
 refine Ye tt 0 [] qUj rfl rfl rfl (Ku (z:=(q).num) (by omega)) rfl rfl ?_
 refine Ye tt 2 [] Tryz.func102 rfl rfl rfl (Lp (z:=q.num) (by omega)) rfl rfl ?_
 refine Ye tt 0 [] qWv rfl rfl rfl (Yt (n:=1) (by omega)) rfl rfl ?_
 refine kl tt 2 [] qUj rfl rfl rfl (Ku (z:=((q).den:Int)) (by omega)) rfl rfl ?_
 refine Qx 5 Qp rfl rfl rfl ?_
 refine Qr tt 2 rfl ?_
 refine Ye tt 2 [] Tryz.func105 rfl rfl rfl (Qf7 (a:=[-q.num,(q.den:Int)]) (Ql0 q) (Q02 hq1 hq2) (by show 2≤1000; decide) (Ji 2) hch) rfl rfl ?_
 refine Xd tt 2 [0] rfl ?_
 exact Xq tt [0] rfl (rfl)
theorem Bl {q:Rat} {c:List (List Int)} (hq:Qs 1000000 q):Q8 Tryz.prog 150 [.agg [Zm ((zp [-(q).num,((q).den:Int)])),Kk c,dl ((dig ((q).num).natAbs)),sg ((q).num),dl ((dig (((q).den:Int)).natAbs)),sg (((q).den:Int)),dl ((dig ((q).num).natAbs)),sg ((q).num),dl ((dig (((q).den:Int)).natAbs)),sg (((q).den:Int))]] (.one (.bool true)):=by
 refine X2 tt 6 [] Tryz.func150 Tryz.ntmps150 rfl rfl rfl ?_
 refine kl tt 2 [] Tryz.func217 rfl rfl rfl (Qiv (a:=q) (b:=q) (hq.mono (by omega)) (hq.mono (by omega))) rfl rfl ?_
 exact Xq tt [] rfl (by rw [Qb2]; rfl)
theorem Qne {p:List Int} (h:p.length=0) (q:Rat):F3 p q=0:=by rw [Md h]; rfl
theorem Ld {p:List Int} {q:Rat} {c:List (List Int)} (hp:Bd 30000000 p) (hl:p.length≤64) (hq:Qs 1000000 q):Q8 Tryz.prog 149 [.one (Zm ((zp p))),.agg [Zm ((zp [-(q).num,((q).den:Int)])),Kk c,dl ((dig ((q).num).natAbs)),sg ((q).num),dl ((dig (((q).den:Int)).natAbs)),sg (((q).den:Int)),dl ((dig ((q).num).natAbs)),sg ((q).num),dl ((dig (((q).den:Int)).natAbs)),sg (((q).den:Int))]] (.one (.bool ((decide (F3 p q=0))))):=by
 refine X2 tt 0 [] Tryz.func149 Tryz.ntmps149 rfl rfl rfl ?_
 rcases H9 p.length with h0 | h0
 ·skip
  refine Qr tt 3 rfl ?_
  refine Qf tt 1 [] (Qj (m:=p.length) J5 rfl (by rw [Za,Zf]) rfl) rfl ?_
  refine Xf tt 1 [] (decide_eq_true (by omega)) rfl rfl ?_
  exact Xq tt [] rfl (by rw [Qne h0]; rfl)
 skip
 refine Qr tt 3 rfl ?_
 refine Qf tt 1 [] (Qj (m:=p.length) J5 rfl (by rw [Za,Zf]) rfl) rfl ?_
 refine Xb tt 1 [] (decide_eq_false (by omega)) rfl rfl ?_
 refine kl tt 0 [] Tryz.func150 rfl rfl rfl (Bl (q:=q) (c:=c) (hq)) rfl rfl ?_
 refine Xf tt 3 [] (rfl) rfl rfl ?_
 refine kl tt 2 [] Tryz.func151 rfl rfl rfl (Lu (p:=p) (q:=q) (hp) (hl) (hq)) rfl rfl ?_
 exact Xq tt [] rfl (rfl)
theorem M8 {p:List Int} {q:Rat} {c:List (List Int)} (hp:Bd 30000000 p) (hl:p.length≤64) (hq:Qs 1000000 q):Q8 Tryz.prog 79 [.one (Zm ((zp p))),.agg [Zm ((zp [-(q).num,((q).den:Int)])),Kk c,dl ((dig ((q).num).natAbs)),sg ((q).num),dl ((dig (((q).den:Int)).natAbs)),sg (((q).den:Int)),dl ((dig ((q).num).natAbs)),sg ((q).num),dl ((dig (((q).den:Int)).natAbs)),sg (((q).den:Int))]] (.one (.int .i64 ((F3 p q)))):=by
 refine X2 tt 0 [] Tryz.func79 Tryz.ntmps79 rfl rfl rfl ?_
 by_cases h0:F3 p q=0
 ·skip
  refine Qw tt rfl ?_
  refine Zn (Y0 rfl rfl rfl fun g1=>ko ?_)
  refine Xd tt 3 [0] rfl ?_
  refine kl tt 0 [] Tryz.func149 rfl rfl rfl (Ld (p:=p) (q:=q) (c:=c) (hp) (hl) (hq)) rfl rfl ?_
  refine Xf tt 1 [] (decide_eq_true h0) rfl rfl ?_
  exact Xq tt [] rfl (by rw [h0])
 skip
 refine Qw tt rfl ?_
 refine Zn (Y0 rfl rfl rfl fun g2=>ko ?_)
 refine Xd tt 3 [0] rfl ?_
 refine kl tt 0 [] Tryz.func149 rfl rfl rfl (Ld (p:=p) (q:=q) (c:=c) (hp) (hl) (hq)) rfl rfl ?_
 refine Xb tt 1 [0] (decide_eq_false h0) rfl rfl ?_
 refine kl tt 1 [] Tryz.func150 rfl rfl rfl (Bl (q:=q) (c:=c) (hq)) rfl rfl ?_
 refine Qf tt 0 [] (Qh rfl rfl (rfl) rfl) rfl ?_
 refine Qf tt 0 [] (Qh rfl rfl (rfl) rfl) rfl ?_
 refine Qf tt 0 [] (Qh rfl rfl (rfl) rfl) rfl ?_
 refine Qf tt 0 [] (Zp rfl (rfl) rfl rfl) rfl ?_
 refine Xf tt 3 [0] (rfl) rfl rfl ?_
 refine kl tt 1 [] Tryz.func151 rfl rfl rfl (Lu (p:=p) (q:=q) (hp) (hl) (hq)) rfl rfl ?_
 exact Xq tt [] rfl (rfl)
theorem W7 {p:List Int} {q:Rat} {c:List (List Int)} (hp:Bd 20000000 p) (hl:p.length≤64) (hq:Qs 1000000 q):Q8 Tryz.prog 19 [.one (Zm ((zp p))),.agg [Zm ((zp [-(q).num,((q).den:Int)])),Kk c,dl ((dig ((q).num).natAbs)),sg ((q).num),dl ((dig (((q).den:Int)).natAbs)),sg (((q).den:Int)),dl ((dig ((q).num).natAbs)),sg ((q).num),dl ((dig (((q).den:Int)).natAbs)),sg (((q).den:Int))]] (.one (.int .i64 ((Kx p q)))):=by
 refine X2 tt 2 [] qGf Tryz.ntmps19 rfl rfl rfl ?_
 refine Qk [0,3] rfl rfl ?_
 refine Zj (fun m L B=>∃ r,r.length≤64∧Bd (25000000-30*r.length) r∧Ki (fun p=>F3 p q) r.length r=Kx p q∧m=r.length∧L=[(0,.one (Zm ((zp r)))),(3,.one (.sh [Zm ((zp [-(q).num,((q).den:Int)])),Kk c,dl ((dig ((q).num).natAbs)),sg ((q).num),dl ((dig (((q).den:Int)).natAbs)),sg (((q).den:Int)),dl ((dig ((q).num).natAbs)),sg ((q).num),dl ((dig (((q).den:Int)).natAbs)),sg (((q).den:Int))]))]∧B=[]) (m:=_) ⟨p,hl,Qz hp (by omega),rfl,rfl,rfl,rfl⟩ ?_
 rintro m L B ⟨r,hr0,hr1,hr2,hm,rfl,rfl⟩
 refine Qw tt rfl ?_
 rcases H9 r.length with h0 | h0
 ·skip
  refine Qr tt 1 rfl ?_
  refine Qf tt 1 [] (Qj (m:=r.length) J5 rfl (by rw [Za,Zf]) rfl) rfl ?_
  refine Xb tt 1 [] (decide_eq_false (by omega)) rfl rfl ?_
  exact Xq tt [] rfl (by rw [←hr2,Lx _ h0])
 by_cases hs:F3 r q=0
 refine Qw tt rfl ?_
 ·skip
  refine Qr tt 1 rfl ?_
  refine Qf tt 1 [] (Qj (m:=r.length) J5 rfl (by rw [Za,Zf]) rfl) rfl ?_
  refine Xf tt 2 [] (decide_eq_true (by omega)) rfl rfl ?_
  refine kl tt 3 [] Tryz.func79 rfl rfl rfl (M8 (p:=r) (q:=q) (c:=c) (Qz hr1 (by omega)) (hr0) (hq)) rfl rfl ?_
  refine Xb tt 1 [] (decide_eq_false (fun h=>h hs)) rfl rfl ?_
  refine kl tt 1 [] Tryz.func80 rfl rfl rfl (Nz (p:=r) (Qz hr1 (by omega)) (by omega)) rfl rfl ?_
  refine Qk [0,3] rfl rfl ?_
  refine Q7 ?_
  refine ⟨_,?_,Uj r,Xa (Up r) (by omega),Qz (Qfd (t:=6) hr1 (by omega)) (by have:=Up r; omega),by rw [←hr2,Ln _ h0 hs],rfl,rfl,rfl⟩
  have:=Up r
  omega
 skip
 refine Qr tt 1 rfl ?_
 refine Qf tt 1 [] (Qj (m:=r.length) J5 rfl (by rw [Za,Zf]) rfl) rfl ?_
 refine Xf tt 2 [] (decide_eq_true (by omega)) rfl rfl ?_
 refine kl tt 3 [] Tryz.func79 rfl rfl rfl (M8 (p:=r) (q:=q) (c:=c) (Qz hr1 (by omega)) (hr0) (hq)) rfl rfl ?_
 refine Xf tt 2 [] (decide_eq_true hs) rfl rfl ?_
 exact Xq tt [] rfl (by rw [←hr2,Lr _ h0 hs])
end Orr

namespace Orr
def X3 (p:List Int) (d:Int):List Rat:=p.map fun (z:Int)=>(z:Rat) / (d:Rat)
theorem Uv (p:List Int) (d:Int):(X3 p d).length=p.length:=Zw _
theorem Qsw {p:List Int} {i:Nat} {z:Int} {d:Int} (h:p[i]? = some z):(X3 p d)[i]? = some ((z:Rat) / (d:Rat)):=by simp [X3,h]
theorem Qqr (p:List Int) (d:Int) (i:Nat):(X3 p d).getD i 0=((p.getD i 0:Int):Rat) / (d:Rat):=by
  simp only [Ve,X3,Sd]
  cases p[i]? with
  | none=>simp; grind
  | some z=>rfl
theorem Tv (z d:Int):(z:Rat) / (d:Rat)=Rat.divInt z d:=by
  by_cases h:d=0
  · subst h; simp; grind
  · rw [qVu]
    have e1:(z:Rat)=Rat.divInt z 1:=by have:=qXw (z:Rat); simpa using this.symm
    have e2:(d:Rat)⁻¹=Rat.divInt 1 d:=by
      have:(d:Rat)=Rat.divInt d 1:=by have:=qXw (d:Rat); simpa using this.symm
      rw [this,Rat.inv_divInt]
    rw [e1,e2,Rat.divInt_mul_divInt]
    simp
theorem Quy {z d:Int} (hd:0<d):(((z:Rat) / (d:Rat)).den:Int)*(Int.gcd z d:Nat)=d:=by
  rw [Tv]
  have h:=(Aj (n:=z) hd).2
  rw [←h,Fw,Int.gcd_comm]
  exact Int.ediv_mul_cancel (qVi ..)
theorem Qqy {d a b L:Nat} (hd:0<d) (ha:L*a=d) {D:Nat} (hb:D*b=d):L*D / Nat.gcd L D*Nat.gcd a b=d:=by
  have hL:0<L:=Nat.pos_of_ne_zero fun e=>by rw [e] at ha; omega
  have hD:0<D:=Nat.pos_of_ne_zero fun e=>by rw [e] at hb; omega
  have hg:0<Nat.gcd L D:=Nat.gcd_pos_of_pos_left _ hL
  show Nat.lcm L D*Nat.gcd a b=d
  rw [←Nat.gcd_mul_left]
  refine Nat.dvd_antisymm ?_ ?_
  · -- gcd (M a) (M b) | d
    obtain ⟨u,hu⟩:=Nat.gcd_dvd_left L D
    obtain ⟨v,hv⟩:=Nat.gcd_dvd_right L D
    have hM:Nat.lcm L D=Nat.gcd L D*(u*v):=by
      unfold Nat.lcm
      conv=>lhs; rw [show L*D=Nat.gcd L D*u*(Nat.gcd L D*v) by rw [←hu,←hv]]
      rw [show Nat.gcd L D*u*(Nat.gcd L D*v)=Nat.gcd L D*(Nat.gcd L D*(u*v)) by rw [Nat.mul_assoc,Nat.mul_left_comm u,]]
      exact Nat.mul_div_cancel_left _ hg
    have h1:Nat.lcm L D*a=v*d:=by
      rw [hM,←ha]
      conv=>rhs; rw [hu]
      simp [qXp,Nat.mul_left_comm,Nat.mul_assoc]
    have h2:Nat.lcm L D*b=u*d:=by
      rw [hM,←hb]
      conv=>rhs; rw [hv]
      simp [qXp,Nat.mul_left_comm,Nat.mul_assoc]
    have huv:Nat.gcd u v=1:=by
      have:=Nat.gcd_mul_left (Nat.gcd L D) u v
      rw [←hu,←hv] at this
      exact Nat.eq_of_mul_eq_mul_left hg (by omega)
    rw [h1,h2,Nat.gcd_mul_right,qVp,huv,Nat.one_mul]
    exact Nat.dvd_refl d
  · refine Nat.dvd_gcd ?_ ?_
    · rw [←ha]; exact Nat.mul_dvd_mul_right (Nat.dvd_lcm_left L D) a
    · rw [←hb]; exact Nat.mul_dvd_mul_right (Nat.dvd_lcm_right L D) b
def lcd (z:List Int) (d:Int):Nat→Int
  | 0=>1
  | i+1=>lcd z d i*((((z.getD i 0:Int):Rat) / (d:Rat)).den:Int) / (Int.gcd (lcd z d i) ((((z.getD i 0:Int):Rat) / (d:Rat)).den:Int):Nat)
theorem Qkq {z:List Int} {d:Int} (hd:0<d):∀ i,i≤z.length→lcd z d i*((Y9 (d::z.take i):Nat):Int)=d
  |
   0,_=>by
   show 1*_=d
   have:((Y9 [d]:Nat):Int)=d:=by unfold Y9; simp; omega
   rw [List.take_zero,this,Int.one_mul]
  |
   i+1,hi=>by
   have ih:=Qkq (z:=z) hd i (by omega)
   have hz:z[i]? = some (z.getD i 0):=getD_some (l:=z) (by omega)
   have hstep:Y9 (d::z.take (i+1))=Nat.gcd (Y9 (d::z.take i)) (z.getD i 0).natAbs:=by
     have:=Qb7 (l:=d::z) (i:=i+1) (z:=z.getD i 0) (by simpa using hz)
     simpa using this
   have hdn:=Quy (z:=z.getD i 0) hd
   simp only [lcd]
   generalize hL:lcd z d i=L at *
   generalize hD:(((z.getD i 0:Int):Rat) / (d:Rat)).den=D at *
   have hLp:0<L:=by
     rcases qYc L 0 with h | h | h
     · have:=Int.mul_nonneg (Int.neg_nonneg_of_nonpos (qKe h)) (qYe (Y9 (d::z.take i)))
       rw [qVe] at this; omega
     · rw [h,Int.zero_mul] at ih; omega
     · exact h
   obtain ⟨l,rfl⟩:=Int.eq_ofNat_of_zero_le (qKe hLp)
   obtain ⟨e,rfl⟩:=Int.eq_ofNat_of_zero_le (qKe hd)
   have h1:l*Y9 (((e:Nat):Int)::z.take i)=e:=by exact_mod_cast ih
   have h2:D*Int.gcd (z.getD i 0) ((e:Nat):Int)=e:=by exact_mod_cast hdn
   have h3:=Qqy (d:=e) (by omega) h1 h2
   have h4:Nat.gcd (Y9 (((e:Nat):Int)::z.take i)) (Int.gcd (z.getD i 0) ((e:Nat):Int))=Nat.gcd (Y9 (((e:Nat):Int)::z.take i)) (z.getD i 0).natAbs:=by
     have hge:Y9 (((e:Nat):Int)::z.take i)∣e:=⟨l,by rw [qXp]; exact h1.symm⟩
     show Nat.gcd _ (Nat.gcd (z.getD i 0).natAbs e)=_
     rw [qVp (z.getD i 0).natAbs e,←Nat.gcd_assoc,Nat.gcd_eq_left hge]
   rw [hstep,←h4]
   rw [show Int.gcd ((l:Nat):Int) ((D:Nat):Int)=Nat.gcd l D by simp [Int.gcd]]
   exact_mod_cast h3
theorem Qup {x y:List Int} {d:Int} (hd:0<d) (hg:Y9 (d::(x++y))=1):lcd (x++y) d (x++y).length=d:=by
  have:=Qkq (z:=x++y) hd (x++y).length (Ji _)
  rw [qJx,hg] at this
  simpa using this
theorem Quv {z:List Int} {d:Int} (hd:0<d) {i:Nat} (hi:i≤z.length):Xh (lcd z d i)≤Xh d:=by
  have h:=Qkq (z:=z) hd i hi
  refine Yb ?_
  have h0:Y9 (d::z.take i)≠0:=fun e=>by rw [e] at h; simp at h; omega
  have:d.natAbs=(lcd z d i).natAbs*Y9 (d::z.take i):=by
    conv=>lhs; rw [←h]
    rw [qKh]; simp
  rw [this]
  exact qYy _ (Nat.pos_of_ne_zero h0)
end Orr

namespace Orr
open Go Go.Proofs
abbrev rcl (c:Crv):List LV:=[Zm (X3 c.x c.d),Zm (X3 c.y c.d),pl c.x,pl c.y,sg c.d,mg c.d]
def rpt (p:Pt):List LV:=rcl p.c++[.int .i64 p.id]
def Kq (l:List Pt):LV:=.row (l.map rpt)
theorem Xu (l:List Pt):We (Kq l)=some l.length:=by simp [Kq,We]
structure Rs (k:Crv):Prop where
 n:Mv k
 c:Cs 100000 16 k
theorem Rs.d0 {k:Crv} (h:Rs k):0<k.d:=h.n.2.2.1
theorem Qkb {x:List Int} {d:Int} {s:Nat} (hx:Bd s x) (hd:Xh d≤s) (h1:1≤s):Rb s (X3 x d):=fun q hq=>by
 obtain ⟨z,hz,rfl⟩:=Wa.1 hq
 rw [Tv]
 exact Qs.divInt (hx z hz) hd h1
theorem Of {x:List Int} {d:Int} (tx:Yu x) (hd:d≠0):Gi (X3 x d) (d:Rat)=zp x:=by
 have hd':(d:Rat)≠0:=fun e=>hd (by exact_mod_cast e)
 unfold Gi
 rw [Mm (g:=fun i=>x.getD i 0) _ fun i _=>?_,Uv,G1,Fq,tx]
 rw [Qqr]; grind
theorem M7 {p:List Rat} {c:Int} (hp:Rb 40000000 p) (hc:Xh c≤40000000) (hl:p.length≤1000000):Q8 Tryz.prog 278 [.one (Zm p),.agg [dl ((dig (c).natAbs)),sg c]] (.one (Zm ((Gi p ((c:Int):Rat))))):=by
 refine X2 tt 2 [] Tryz.func278 Tryz.ntmps278 rfl rfl rfl ?_
 refine Qx 4 Qp rfl rfl rfl ?_
 refine Qr tt 2 rfl ?_
 refine Ye tt 0 [] qWv rfl rfl rfl (Yt (n:=1) (by omega)) rfl rfl ?_
 refine Ye tt 0 [] qUj rfl rfl rfl (Ku (z:=c) (by omega)) rfl rfl ?_
 refine kl tt 1 [] qFt rfl rfl rfl (Ua (p:=p) (c:=((c:Int):Rat)) hp (Ue hc (by omega)) hl) rfl rfl ?_
 exact Xq tt [] rfl (rfl)
theorem Qu7 (x y:List Int) (d:Int):(X3 x d).map rr++(X3 y d).map rr=(X3 (x++y) d).map rr:=by simp [X3]
theorem Pd {z:List Int} {d:Int} {i:Nat} (h:i<z.length):(X3 z d)[i]? = some (((z.getD i 0:Int):Rat) / (d:Rat)):=Qsw (getD_some h)
theorem Qaw (a b:Int) (hb:b≠0) {s:Nat} (h:Xh b≤s):Xh ((Int.gcd a b:Nat):Int)≤s:=by
 refine Xa (Yb ?_) h
 simp only [qKd]
 exact Nat.le_of_dvd (by omega) (by simpa using qVq.2 (qVi a b))
theorem Qti (a b:Int):(a*b) % ((Int.gcd a b:Nat):Int)=0:=qYd (Int.dvd_trans (Int.gcd_dvd_left ..) (Int.dvd_mul_right a b))
set_option maxRecDepth 20000 in
theorem Ax {k:Crv} (hs:Rs k):Q8 Tryz.prog 214 [.one (Zm ((X3 k.x k.d))),.one (Zm ((X3 k.y k.d)))] (.agg [Zm ((X3 k.x k.d)),Zm ((X3 k.y k.d)),pl k.x,pl k.y,sg k.d,mg k.d]):=by
 refine X2 tt 0 [] Tryz.func214 Tryz.ntmps214 rfl rfl rfl ?_
 have hlx:=hs.c.lx
 have hly:=hs.c.ly
 have hds:=hs.c.d
 have hxy:Bd 100000 (k.x++k.y):=fun z hz=>by rcases Yz.1 hz with h | h; exact hs.c.x z h; exact hs.c.y z h
 skip
 refine Qw tt rfl ?_
 refine Zn (Ql Tryz.zeroValue98 rfl rfl fun g1=>ko ?_)
 refine Qw tt rfl ?_
 refine kw (Zs qWv rfl rfl rfl rfl (Yt (n:=1) (by omega)) rfl) ?_
 refine Zn (Ql Cq rfl rfl fun g2=>ko ?_)
 refine Xd tt 2 [0] rfl ?_
 refine Zn (Ds (ls2:=(X3 k.x k.d).map rr) (m2:=(X3 k.x k.d).length) J5 J5 qWz rfl rfl Uo Sl rfl rfl rfl rfl rfl rfl rfl (Vu _ (fun _=>rfl)) (F1 _ (fun _=>rfl)) (by rw [Zw,Uv]; omega) (rfl) (Zw _) fun r3=>ko ?_)
 refine Qr tt 1 rfl ?_
 refine Zn (Zo (ls2:=(X3 (k.x++k.y) k.d).map rr) (m2:=(k.x.length+k.y.length)) 0 J5 J5 qWz rfl rfl Uo Sl rfl rfl rfl rfl rfl rfl rfl (by rw [Zw]; exact Ji _) (Vu _ (fun _=>rfl)) (F1 _ (fun _=>rfl)) (by rw [Uv,Zw,Uv]; omega) (by rw [Vh (by rw [Zw]; exact Ji _)]; exact Qu7 _ _ _) (by rw [Zw,Uv,Uv]) fun r4=>ko ?_)
 refine Qr tt 2 rfl ?_
 refine Qf tt 1 [] (Qj (m:=k.x.length+k.y.length) J5 rfl rfl rfl) rfl ?_
 refine X5 (fun _ k_=>Xm 0 [6] rfl (Zg rfl) (by rw [Zw,Uv,H7]) (by rw [Zw,Uv,H7]; omega) rfl (Qo k_)) rfl ?_
 refine Qk [0,1,4,5,6,14,15] rfl rfl ?_
 refine Zj (fun m L B=>∃ i,i≤k.x.length+k.y.length∧m=k.x.length+k.y.length-i∧L=[(0,.one (Zm ((X3 k.x k.d)))),(1,.one (Zm ((X3 k.y k.d)))),(4,.one (.ow g1 0)),(5,.one (.ow g2 0)),(6,.one (Zm ((X3 (k.x++k.y) k.d)))),(14,.one (.int .i64 ((((k.x.length+k.y.length):Nat):Int)))),(15,.one (.int .i64 (((i:Nat):Int))))]∧B=[.blk g2 32 [dl ((dig ((lcd (k.x++k.y) k.d i)).natAbs)),sg ((lcd (k.x++k.y) k.d i))],.blk g1 98 [.nils,.nils,.nils,.nils,.bool false,.nils]]) (m:=_) ⟨0,K7 _,rfl,rfl,rfl⟩ ?_
 rintro m L B ⟨i,hp0,hm,rfl,rfl⟩
 refine Qw tt rfl ?_
 by_cases hlt0:i<k.x.length+k.y.length
 ·have hlt:i<(k.x++k.y).length:=by rw [H7]; exact hlt0
  have hqe:=Qkb (x:=(k.x++k.y)) (d:=k.d) (s:=100000) hxy hs.c.d (by decide)
  have hqi:=hqe.get (Pd hlt)
  have hq2:=hqi.2
  have hli:=Xa (Quv (z:=(k.x++k.y)) hs.d0 (i:=i) (by rw [H7]; exact hp0)) hs.c.d
  have hg0:((Int.gcd (lcd (k.x++k.y) k.d i) ((((((k.x++k.y).getD i 0:Int):Rat) / (k.d:Rat))).den:Int):Nat):Int)≠0:=by have:=Int.gcd_ne_zero_right (a:=(lcd (k.x++k.y) k.d i)) (U6 ((((k.x++k.y).getD i 0:Int):Rat) / (k.d:Rat))); omega
  have hmu:=Z2 (lcd (k.x++k.y) k.d i) ((((((k.x++k.y).getD i 0:Int):Rat) / (k.d:Rat))).den:Int)
  refine Qr tt 1 rfl ?_
  refine Xf tt 2 [] (decide_eq_true (by omega)) rfl rfl ?_
  refine Qx 13 Qp rfl rfl rfl ?_
  refine Xd tt 3 [0] rfl ?_
  refine kd (Qi (i) J5 Uo rfl rfl (rfl) (Qg (Pd hlt)) rfl rfl) rfl ?_
  refine Qr tt 2 rfl ?_
  refine Ye tt 3 [0] qWu rfl rfl rfl (Jt (a:=((lcd (k.x++k.y) k.d i))) (b:=(((((((k.x++k.y).getD i 0:Int):Rat) / (k.d:Rat))).den:Int))) (by omega) (by omega)) rfl rfl ?_
  refine kd (Qi (i) J5 Uo rfl rfl (rfl) (Qg (Pd hlt)) rfl rfl) rfl ?_
  refine Qr tt 2 rfl ?_
  refine Qw tt rfl ?_
  refine kl tt 0 [] qFs rfl rfl rfl (F8 (a:=((lcd (k.x++k.y) k.d i))) (b:=(((((((k.x++k.y).getD i 0:Int):Rat) / (k.d:Rat))).den:Int))) (by omega) (by omega)) rfl rfl ?_
  refine kl tt 1 [0] qUq rfl rfl rfl (K9 (a:=((((lcd (k.x++k.y) k.d i))*(((((((k.x++k.y).getD i 0:Int):Rat) / (k.d:Rat))).den:Int))))) (b:=(((Int.gcd ((lcd (k.x++k.y) k.d i)) (((((((k.x++k.y).getD i 0:Int):Rat) / (k.d:Rat))).den:Int)):Nat):Int))) (by omega) (Xa (Qaw _ _ (U6 _) hq2) (by omega)) (hg0) (Qti _ _)) rfl rfl ?_
  refine Qf tt 1 [] (Q6 (r:=((i+1:Nat):Int)) rfl rfl (Qm (by omega) (by omega)) rfl) rfl ?_
  refine Qk [0,1,4,5,6,14,15] rfl rfl ?_
  refine Q7 ?_
  refine ⟨_,?_,i+1,by omega,rfl,rfl,rfl⟩
  omega
 have hin:(lcd (k.x++k.y) k.d i)=k.d:=by rw [show i=(k.x++k.y).length by rw [H7]; omega]; exact Qup hs.d0 hs.n.2.2.2
 refine Qr tt 1 rfl ?_
 refine Xb tt 0 [] (decide_eq_false (by omega)) rfl rfl ?_
 refine Qx 13 Qp rfl rfl rfl ?_
 refine Xd tt 4 [0] rfl ?_
 refine Ye tt 0 [] Tryz.func278 rfl rfl rfl ((by rw [hin]; have h:=M7 (p:=X3 k.x k.d) (c:=k.d) ((Qkb (s:=100000) hs.c.x hs.c.d (by decide)).mono (by omega)) (by omega) (by rw [Uv]; omega); rwa [Of hs.n.1 (by have:=hs.d0; omega)] at h)) rfl rfl ?_
 refine Ye tt 2 [0] Tryz.func81 rfl rfl rfl (Qb3 (p:=k.x) (Qz hs.c.x (by omega)) (by omega)) rfl rfl ?_
 refine Ye tt 0 [] Tryz.func278 rfl rfl rfl ((by rw [hin]; have h:=M7 (p:=X3 k.y k.d) (c:=k.d) ((Qkb (s:=100000) hs.c.y hs.c.d (by decide)).mono (by omega)) (by omega) (by rw [Uv]; omega); rwa [Of hs.n.2.1 (by have:=hs.d0; omega)] at h)) rfl rfl ?_
 refine Ye tt 1 [0] Tryz.func81 rfl rfl rfl (Qb3 (p:=k.y) (Qz hs.c.y (by omega)) (by omega)) rfl rfl ?_
 refine Ye tt 1 [] qGc rfl rfl rfl ((by rw [hin]; exact Te (z:=k.d) (by omega))) rfl rfl ?_
 refine Xd tt 2 [1] rfl ?_
 exact Xq tt [1] rfl (rfl)
theorem Qdl (k:Crv):Q3 1 k.d'=((1:Int):Rat) / (k.d':Rat):=by
 unfold Q3; rw [if_neg k.d'_ne,Tv]
theorem Lk {x:List Int} {g d:Int} (hg:g≠0) (hd:d≠0) (hgd:g∣d) (tx:Yu x) (hx:∀ z∈x,g∣z):Gi (zp x) (((1:Int):Rat) / (d:Rat))=X3 (trim (x.map (· / g))) (d / g):=by
 have ht:Yu (x.map (· / g)):=Hy tx hg hx
 rw [show trim (x.map (· / g))=x.map (· / g) from ht]
 obtain ⟨e,rfl⟩:=hgd
 have he:e≠0:=fun h=>hd (by rw [h,Int.mul_zero])
 rw [qXx _ hg]
 have hgq:(g:Rat)≠0:=fun h=>hg (by exact_mod_cast h)
 have heq:(e:Rat)≠0:=fun h=>he (by exact_mod_cast h)
 unfold Gi
 rw [Zf]
 have hval:∀ i,i<x.length→(zp x).getD i 0*(((1:Int):Rat) / ((g*e:Int):Rat))=(((x.map (· / g)).getD i 0:Int):Rat) / (e:Rat):=fun i hi=>by
  rw [Mb]
  have hz:=getD_some hi
  have hm:(x.map (· / g)).getD i 0=x.getD i 0 / g:=by simp [Ve,Xv hi]
  obtain ⟨w,hw⟩:=hx _ (Y6 hz)
  rw [hm,hw,qXx _ hg,qJs,qJs]
  have:((1:Int):Rat)=1:=rfl
  rw [this]
  grind
 have htab:Uc (fun i=>(zp x).getD i 0*(((1:Int):Rat) / ((g*e:Int):Rat))) x.length=X3 (x.map (· / g)) e:=by
  apply qJq
  intro i
  by_cases hi:i<x.length
  ·rw [Pd (by simpa using hi)]
   simp only [Uc,Sd,qJm hi,qVx]
   rw [hval i hi]
  ·rw [Eu (by rw [Xp]; omega),Eu (by rw [Uv]; simp; omega)]
 rw [htab]
 rcases H9 x.length with h0 | h0
 ·have:=Md h0; subst this; rfl
 have hl:(X3 (x.map (· / g)) e).length=x.length:=by rw [Uv,Zw]
 have:=Dp (l:=X3 (x.map (· / g)) e) (m:=x.length) (by omega) (fun j y hj hy=>by rw [Eu (by omega)] at hy; cases hy) (fun _=>⟨_,Pd (z:=x.map (· / g)) (d:=e) (i:=x.length-1) (by rw [Zw]; omega),fun h=>by
  have h3:(((x.map (· / g)).getD (x.length-1) 0:Int):Rat)=0:=by grind
  have h4:(x.map (· / g)).getD (x.length-1) 0=0:=by exact_mod_cast h3
  have:=Dr ht (by rw [Zw]; omega)
  rw [Zw] at this
  exact this h4⟩)
 rw [this,Vh (by omega)]
theorem Qrw {k:Crv} (hk:Cs 100000 16 k):Qs 40000000 (Q3 1 k.d'):=by
 have h1:=Qdt hk.d (by decide)
 rw [Qdl,Tv]
 exact Qs.divInt (by decide) (by omega) (by decide)
theorem Crv.g_dvd' (k:Crv) {z:Int} (h:z∈k.d'::(trim k.x++trim k.y)):k.g∣z:=qYz (k.g_dvd z h)
theorem Qqc (k:Crv):Gi (zp (trim k.x)) (Q3 1 k.d')=X3 k.norm.x k.norm.d:=by
 rw [Qdl]
 exact Lk k.g_ne k.d'_ne (k.g_dvd' (by simp)) (Wd _) (fun z hz=>k.g_dvd' (by simp [hz]))
theorem Qrt (k:Crv):Gi (zp (trim k.y)) (Q3 1 k.d')=X3 k.norm.y k.norm.d:=by
 rw [Qdl]
 exact Lk k.g_ne k.d'_ne (k.g_dvd' (by simp)) (Wd _) (fun z hz=>k.g_dvd' (by simp [hz]))
theorem Qtl {k:Crv} (h:Cs 100000 16 k):Rs k.norm:=⟨k.nml,h.norm (by decide)⟩
set_option maxRecDepth 20000 in
theorem Qfe {k:Crv} (hk:Cs 100000 16 k):Q8 Tryz.prog 138 [.agg [pl k.x,pl k.y,sg k.d,mg k.d]] (.agg [Zm ((X3 (Crv.norm k).x (Crv.norm k).d)),Zm ((X3 (Crv.norm k).y (Crv.norm k).d)),pl ((Crv.norm k).x),pl ((Crv.norm k).y),sg ((Crv.norm k).d),mg ((Crv.norm k).d)]):=by
 refine X2 tt 0 [] Tryz.func138 Tryz.ntmps138 rfl rfl rfl ?_
 have hlx:=hk.lx
 have hly:=hk.ly
 have hkd:=hk.d
 have hrq:=Qrw hk
 skip
 refine Qr tt 1 rfl ?_
 refine Zn (Ql Tryz.zeroValue98 rfl rfl fun g1=>ko ?_)
 refine Qr tt 2 rfl ?_
 refine kw (Zs Tryz.func184 rfl rfl rfl rfl (N4 (z:=k.d) (by omega)) rfl) ?_
 refine Zn (Ql Cq rfl rfl fun g2=>ko ?_)
 refine Xd tt 2 [0,0] rfl ?_
 refine kl tt 0 [] qUt rfl rfl rfl (V7 (by omega)) rfl rfl ?_
 refine Cu 1 (fun L B=>∃ dd,dd=k.d'∧L=[(1,.one (.sh [pl k.x,pl k.y,sg k.d,mg k.d])),(2,.one (.ow g1 0)),(3,.one (.ow g2 0))]∧B=[.blk g2 32 [dl ((dig (dd).natAbs)),sg dd],.blk g1 98 [.nils,.nils,.nils,.nils,.bool false,.nils]]) ?_ rfl ?_
 ·skip
  refine Qw tt rfl ?_
  refine kif rfl (fun hb_if1=>?_) (fun hb_if1=>?_)
  ·try simp only [decide_eq_true_eq,decide_eq_false_iff_not,Vf,Vg] at hb_if1
   refine Qw tt rfl ?_
   refine kl tt 1 [0] qWv rfl rfl rfl (Yt (n:=1) (by omega)) rfl rfl ?_
   refine Qk [1,2,3] rfl rfl ?_
   refine Q7 ?_
   exact ⟨(1:Int),by unfold Crv.d'; rw [if_pos hb_if1],rfl,rfl⟩
  try simp only [decide_eq_true_eq,decide_eq_false_iff_not,Vf,Vg] at hb_if1
  refine Qw tt rfl ?_
  refine Qk [1,2,3] rfl rfl ?_
  refine Q7 ?_
  exact ⟨k.d,by unfold Crv.d'; rw [if_neg hb_if1],rfl,rfl⟩
 rintro L B ⟨dd,hdd0,rfl,rfl⟩
 refine Qw tt rfl ?_
 have hdi:Xh dd≤100000:=by rw [hdd0]; exact Qdt hk.d (by decide)
 skip
 refine Qw tt rfl ?_
 refine kc (Ul Qp 4 [11,12,13,4] [[],[],[0,1],[]] [.agg [dl ((dig ((1:Int)).natAbs)),sg ((1:Int))],.agg [dl ((dig (dd).natAbs)),sg dd],.agg [dl ((dig (((Q3 1 dd)).num).natAbs)),sg (((Q3 1 dd)).num),dl ((dig ((((Q3 1 dd)).den:Int)).natAbs)),sg ((((Q3 1 dd)).den:Int))],.un] [(3,34,[.slice none 0 0,.bool false,.slice none 0 0,.bool false])] [[.nils,.bool false,.nils,.bool false]] rfl rfl rfl (by decide) ⟨rfl,trivial⟩ rfl ⟨Zs qWv rfl rfl rfl rfl (Yt (n:=1) (by omega)) rfl,Jm 0 qFq qFj rfl rfl rfl rfl rfl,Zs qUj rfl rfl rfl rfl (F6 (a:=1) (b:=dd) (by decide) (by omega)) rfl,Vl Sl rfl,trivial⟩ fun g3=>⟨_,_,rfl,rfl,kn ?_⟩)
 refine Xd tt 1 [0] rfl ?_
 refine Qx 9 Qp rfl rfl rfl ?_
 refine Qr tt 2 rfl ?_
 refine Ye tt 1 [0] Tryz.func185 rfl rfl rfl (Rl (p:=k.x) (Qz hk.x (by omega)) (by omega)) rfl rfl ?_
 refine Ye tt 2 [] qFt rfl rfl rfl ((by rw [hdd0]; have h:=Ua (p:=zp (trim k.x)) (c:=Q3 1 k.d') (R4 (Qz (Jk hk.x) (by omega)) (by omega)) hrq (by rw [Zf]; have:=Kj k.x; omega); rwa [Qqc] at h)) rfl rfl ?_
 refine Ye tt 1 [0] Tryz.func185 rfl rfl rfl (Rl (p:=k.y) (Qz hk.y (by omega)) (by omega)) rfl rfl ?_
 refine Qw tt rfl ?_
 refine kl tt 0 [] qFt rfl rfl rfl ((by rw [hdd0]; have h:=Ua (p:=zp (trim k.y)) (c:=Q3 1 k.d') (R4 (Qz (Jk hk.y) (by omega)) (by omega)) hrq (by rw [Zf]; have:=Kj k.y; omega); rwa [Qrt] at h)) rfl rfl ?_
 refine kl tt 1 [2] Tryz.func214 rfl rfl rfl (Ax (k:=Crv.norm k) (Qtl hk)) rfl rfl ?_
 exact Xq tt [2] rfl (rfl)
theorem M6 {k:Crv} {id:Int} (hk:Cs 100000 16 k):Q8 Tryz.prog 74 [.agg [pl k.x,pl k.y,sg k.d,mg k.d,.int .i64 id]] (.agg [Zm ((X3 (Crv.norm k).x (Crv.norm k).d)),Zm ((X3 (Crv.norm k).y (Crv.norm k).d)),pl ((Crv.norm k).x),pl ((Crv.norm k).y),sg ((Crv.norm k).d),mg ((Crv.norm k).d),.int .i64 id]):=by
 refine X2 tt 1 [] Tryz.func74 Tryz.ntmps74 rfl rfl rfl ?_
 refine Zn (Ql qWh rfl rfl fun g1=>ko ?_)
 refine Qw tt rfl ?_
 refine Qx 5 Qp rfl rfl rfl ?_
 refine Qr tt 2 rfl ?_
 refine Ye tt 2 [] Tryz.func138 rfl rfl rfl (Qfe hk) rfl rfl ?_
 refine Xd tt 2 [0] rfl ?_
 exact Xq tt [0] rfl (rfl)
set_option maxRecDepth 20000 in
theorem Ks {k:Crv} (hk:Rs k):Q8 Tryz.prog 106 [.agg [Zm ((X3 k.x k.d)),Zm ((X3 k.y k.d)),pl k.x,pl k.y,sg k.d,mg k.d]] (.tup [.one (Zm ((zp k.x))),.one (Zm ((zp k.y))),.one (Zm ((zp ([k.d]))))]):=by
 refine X2 tt 0 [] qFi Tryz.ntmps106 rfl rfl rfl ?_
 have hlx:=hk.c.lx
 have hly:=hk.c.ly
 have hkd:=hk.c.d
 skip
 refine Qr tt 7 rfl ?_
 refine kl tt 0 [] Tryz.func184 rfl rfl rfl (N4 (z:=k.d) (by omega)) rfl rfl ?_
 refine kl tt 0 [] qWv rfl rfl rfl (Yt (n:=1) (by omega)) rfl rfl ?_
 refine kl tt 2 [] qUj rfl rfl rfl (Ku (z:=k.d) (by omega)) rfl rfl ?_
 refine Qx 11 Qp rfl rfl rfl ?_
 refine Qr tt 3 rfl ?_
 refine Ye tt 3 [] Tryz.func185 rfl rfl rfl ((by have h:=Rl (p:=k.x) (Qz hk.c.x (by omega)) (by omega); rwa [show trim k.x=k.x from hk.n.1] at h)) rfl rfl ?_
 refine Ye tt 3 [] Tryz.func185 rfl rfl rfl ((by have h:=Rl (p:=k.y) (Qz hk.c.y (by omega)) (by omega); rwa [show trim k.y=k.y from hk.n.2.1] at h)) rfl rfl ?_
 refine Qr tt 1 rfl ?_
 exact kr3 tt [] rfl (rfl)
theorem Qal {p:List Int} {d:Int} (tp:Yu p) (hd:d≠0):U2 p [d]=Xx p d:=by
 refine Sx (Qb9 _ _) (Ke _ _) fun m=>?_
 unfold Xx
 rw [Fc]
 unfold U2
 by_cases h0:p.length=0
 ·rw [if_pos (.inl h0),if_neg (by omega)]; rfl
 rw [if_neg (by simp; exact fun h=>h0 (by rw [h]; rfl)),P7]
 show (Fz p [d] (List.replicate (p.length+1-1) 0) p.length).getD m 0=_
 have key:∀ i,i≤p.length→(Fz p [d] (List.replicate (p.length+1-1) 0) i).getD m 0=if m<i then p.getD m 0*d else 0:=by
  intro i
  induction i with
  | zero=>intro _; simp only [Fz]; rw [Km,if_neg (by omega)]
  |
   succ i ih =>
   intro hi
   simp only [Fz]
   rw [Dn _ _ _ _ _ _ (by rw [V1,Li]; show i+1≤_; omega),ih (by omega)]
   show (if i≤m∧m<i+1 then (if m<i then p.getD m 0*d else 0)+p.getD i 0*[d].getD (m-i) 0 else _)=_
   by_cases e:m=i
   ·subst e
    rw [if_pos ⟨Ji _,by omega⟩,if_neg (by omega),if_pos (by omega),qYa]
    show 0+p.getD m 0*d=_
    omega
   ·rw [if_neg (by omega)]
    by_cases h1:m<i
    ·rw [if_pos h1,if_pos (by omega)]
    ·rw [if_neg h1,if_neg (by omega)]
 rw [key _ (Ji _)]
theorem Qxl {s:Nat} {d:Int} (h:Xh d≤s):Bd s [d]:=fun z hz=>by simp at hz; subst hz; exact h
theorem F7 {p:List Int} {d:Int} (tp:Yu p) (hd:d≠0) (hp:Bd 9000000 p) (hs:Xh d≤9000000) (hl:p.length≤1000):Q8 Tryz.prog 107 [.one (Zm (zp p)),.one (Zm (zp [d]))] (.one (Zm (zp (Xx p d)))):=by
 have h:=Hx (p:=p) (q:=[d]) (by omega) (by show 1≤1000000; decide) hp (Qxl hs) (by decide)
 rwa [Qal tp hd] at h
theorem Rs.dn {k:Crv} (h:Rs k):k.d≠0:=by have:=h.d0; omega
theorem Qa1 {a b:Crv} (ha:Rs a) (hb:Rs b):Q8 Tryz.prog 129 [.agg [Zm ((X3 a.x a.d)),Zm ((X3 a.y a.d)),pl a.x,pl a.y,sg a.d,mg a.d],.agg [Zm ((X3 b.x b.d)),Zm ((X3 b.y b.d)),pl b.x,pl b.y,sg b.d,mg b.d]] (.one (Zm ((zp ((Kf a b)))))):=by
 refine X2 tt 4 [] Tryz.func129 Tryz.ntmps129 rfl rfl rfl ?_
 refine kl tt 8 [] qFi rfl rfl rfl (Ks (k:=a) (ha)) rfl rfl ?_
 refine kl tt 9 [] qFi rfl rfl rfl (Ks (k:=b) (hb)) rfl rfl ?_
 refine kl tt 2 [] qUk rfl rfl rfl (F7 (p:=b.x) (d:=a.d) hb.n.1 ha.dn (Qz hb.c.x (by omega)) (Xa ha.c.d (by omega)) (by have:=hb.c.lx; omega)) rfl rfl ?_
 refine kl tt 0 [] qUk rfl rfl rfl (F7 (p:=a.x) (d:=b.d) ha.n.1 hb.dn (Qz ha.c.x (by omega)) (Xa hb.c.d (by omega)) (by have:=ha.c.lx; omega)) rfl rfl ?_
 refine kl tt 1 [] Tryz.func108 rfl rfl rfl (T3 (p:=(Xx b.x a.d)) (q:=(Xx a.x b.d)) (Qz (Xo hb.c.x ha.c.d) (by omega)) (Qz (Xo ha.c.x hb.c.d) (by omega)) (by have:=Z6 b.x a.d; have:=hb.c.lx; omega) (by have:=Z6 a.x b.d; have:=ha.c.lx; omega)) rfl rfl ?_
 exact Xq tt [] rfl (rfl)
theorem Qas {a b:Crv} (ha:Rs a) (hb:Rs b):Q8 Tryz.prog 130 [.agg [Zm ((X3 a.x a.d)),Zm ((X3 a.y a.d)),pl a.x,pl a.y,sg a.d,mg a.d],.agg [Zm ((X3 b.x b.d)),Zm ((X3 b.y b.d)),pl b.x,pl b.y,sg b.d,mg b.d]] (.one (Zm ((zp ((Kh a b)))))):=by
 refine X2 tt 4 [] Tryz.func130 Tryz.ntmps130 rfl rfl rfl ?_
 refine kl tt 8 [] qFi rfl rfl rfl (Ks (k:=a) (ha)) rfl rfl ?_
 refine kl tt 9 [] qFi rfl rfl rfl (Ks (k:=b) (hb)) rfl rfl ?_
 refine kl tt 2 [] qUk rfl rfl rfl (F7 (p:=b.y) (d:=a.d) hb.n.2.1 ha.dn (Qz hb.c.y (by omega)) (Xa ha.c.d (by omega)) (by have:=hb.c.ly; omega)) rfl rfl ?_
 refine kl tt 0 [] qUk rfl rfl rfl (F7 (p:=a.y) (d:=b.d) ha.n.2.1 hb.dn (Qz ha.c.y (by omega)) (Xa hb.c.d (by omega)) (by have:=ha.c.ly; omega)) rfl rfl ?_
 refine kl tt 1 [] Tryz.func108 rfl rfl rfl (T3 (p:=(Xx b.y a.d)) (q:=(Xx a.y b.d)) (Qz (Xo hb.c.y ha.c.d) (by omega)) (Qz (Xo ha.c.y hb.c.d) (by omega)) (by have:=Z6 b.y a.d; have:=hb.c.ly; omega) (by have:=Z6 a.y b.d; have:=ha.c.ly; omega)) rfl rfl ?_
 exact Xq tt [] rfl (rfl)
theorem Qcw {a b:Crv} (ha:Rs a) (hb:Rs b):Bd 200001 (Kf a b)∧(Kf a b).length≤16:=by
 refine ⟨Qz (Ml (Xo hb.c.x ha.c.d) (Xo ha.c.x hb.c.d)) (by omega),Xa (R8 _ _) ?_⟩
 have:=Z6 b.x a.d; have:=Z6 a.x b.d; have:=ha.c.lx; have:=hb.c.lx; omega
theorem Qct {a b:Crv} (ha:Rs a) (hb:Rs b):Bd 200001 (Kh a b)∧(Kh a b).length≤16:=by
 refine ⟨Qz (Ml (Xo hb.c.y ha.c.d) (Xo ha.c.y hb.c.d)) (by omega),Xa (R8 _ _) ?_⟩
 have:=Z6 b.y a.d; have:=Z6 a.y b.d; have:=ha.c.ly; have:=hb.c.ly; omega
theorem Qls {s:Nat} {p:List Int} (h:Bd s p) (hl:p.length≤16):Bd (2*s+5) (U2 p p):=Qz (Am (u:=5) h h (by omega)) (by omega)
theorem Qdm {p:List Int} (hl:p.length≤16):(U2 p p).length≤31:=Xa (Bg p p) (by omega)
theorem Wc {a b:Crv} (ha:Rs a) (hb:Rs b):Bd 400010 (Va a b)∧(Va a b).length≤31:=by
 obtain ⟨h1,h2⟩:=Qcw ha hb
 obtain ⟨h3,h4⟩:=Qct ha hb
 refine ⟨Qz (Qmg (Qls h1 h2) (Qls h3 h4)) (by omega),Xa (Qib _ _) ?_⟩
 have:=Qdm h2; have:=Qdm h4; omega
theorem My {a b:Crv} (ha:Rs a) (hb:Rs b):Q8 Tryz.prog 109 [.agg [Zm ((X3 a.x a.d)),Zm ((X3 a.y a.d)),pl a.x,pl a.y,sg a.d,mg a.d],.agg [Zm ((X3 b.x b.d)),Zm ((X3 b.y b.d)),pl b.x,pl b.y,sg b.d,mg b.d]] (.one (Zm ((zp ((Va a b)))))):=by
 refine X2 tt 0 [] Tryz.func109 Tryz.ntmps109 rfl rfl rfl ?_
 obtain ⟨hr1,hr2⟩:=Qcw ha hb
 obtain ⟨hab1,hab2⟩:=Qct ha hb
 have hl1:=Qdm hr2
 have hl2:=Qdm hab2
 skip
 refine Qr tt 3 rfl ?_
 refine Qx 5 Qp rfl rfl rfl ?_
 refine Qr tt 2 rfl ?_
 refine Ye tt 2 [] Tryz.func129 rfl rfl rfl (Qa1 (a:=a) (b:=b) (ha) (hb)) rfl rfl ?_
 refine Qw tt rfl ?_
 refine kl tt 4 [] Tryz.func130 rfl rfl rfl (Qas (a:=a) (b:=b) (ha) (hb)) rfl rfl ?_
 refine kl tt 2 [] qUk rfl rfl rfl (Hx (p:=Kf a b) (q:=Kf a b) (by omega) (by omega) hr1 hr1 (by decide)) rfl rfl ?_
 refine kl tt 0 [] qUk rfl rfl rfl (Hx (p:=Kh a b) (q:=Kh a b) (by omega) (by omega) hab1 hab1 (by decide)) rfl rfl ?_
 refine kl tt 1 [] Tryz.func126 rfl rfl rfl (Qke (p:=(U2 (Kf a b) (Kf a b))) (q:=(U2 (Kh a b) (Kh a b))) (Qz (Qls hr1 hr2) (by omega)) (Qz (Qls hab1 hab2) (by omega)) (by omega) (by omega)) rfl rfl ?_
 exact Xq tt [] rfl (rfl)
theorem Qx3 {d e:Int} (hd:d≠0) (he:e≠0):U2 [d] [e]=[d*e]:=by
 have ht:Yu [d]:=by show trim [d]=[d]; show (if d=0 then [] else [d])=[d]; rw [if_neg hd]
 rw [Qal ht he]
 show (if d*e=0 then [] else [d*e])=_
 rw [if_neg (qJg hd he)]
theorem Rm {d e:Int} (hd:d≠0) (he:e≠0) (hs:Xh d≤9000000) (ht:Xh e≤9000000):Q8 Tryz.prog 107 [.one (Zm (zp [d])),.one (Zm (zp [e]))] (.one (Zm (zp [d*e]))):=by
 have h:=Hx (p:=[d]) (q:=[e]) (by show 1≤1000000; decide) (by show 1≤1000000; decide) (Qxl hs) (Qxl ht) (by decide)
 rwa [Qx3 hd he] at h
theorem L8 (a b:Crv):Yu (Va a b):=Ke _ _
set_option maxRecDepth 20000 in
theorem Vx {a b c e:Crv} (ha:Rs a) (hb:Rs b) (hc:Rs c) (he:Rs e):Q8 Tryz.prog 39 [.agg [Zm ((X3 a.x a.d)),Zm ((X3 a.y a.d)),pl a.x,pl a.y,sg a.d,mg a.d],.agg [Zm ((X3 b.x b.d)),Zm ((X3 b.y b.d)),pl b.x,pl b.y,sg b.d,mg b.d],.agg [Zm ((X3 c.x c.d)),Zm ((X3 c.y c.d)),pl c.x,pl c.y,sg c.d,mg c.d],.agg [Zm ((X3 e.x e.d)),Zm ((X3 e.y e.d)),pl e.x,pl e.y,sg e.d,mg e.d]] (.one (Zm ((zp ((Xj a b c e)))))):=by
 refine X2 tt 0 [] qGg Tryz.ntmps39 rfl rfl rfl ?_
 have had:=ha.dn
 have has:=ha.c.d
 have hbd:=hb.dn
 have hbs:=hb.c.d
 have hcd:=hc.dn
 have hcs:=hc.c.d
 have hed:=he.dn
 have hes:=he.c.d
 have hp1:=qJg had hbd
 have hp2:=qJg hcd hed
 have hm1:=Z2 a.d b.d
 have hm2:=Z2 c.d e.d
 have hm3:=Z2 (a.d*b.d) (a.d*b.d)
 have hm4:=Z2 (c.d*e.d) (c.d*e.d)
 skip
 refine Qr tt 6 rfl ?_
 refine kl tt 8 [] qFi rfl rfl rfl (Ks (k:=a) (ha)) rfl rfl ?_
 refine kl tt 8 [] qFi rfl rfl rfl (Ks (k:=b) (hb)) rfl rfl ?_
 refine kl tt 8 [] qFi rfl rfl rfl (Ks (k:=c) (hc)) rfl rfl ?_
 refine kl tt 9 [] qFi rfl rfl rfl (Ks (k:=e) (he)) rfl rfl ?_
 refine kl tt 2 [] qUk rfl rfl rfl (Rm (d:=a.d) (e:=b.d) (by assumption) (by assumption) (by omega) (by omega)) rfl rfl ?_
 refine kl tt 2 [] qUk rfl rfl rfl (Rm (d:=c.d) (e:=e.d) (by assumption) (by assumption) (by omega) (by omega)) rfl rfl ?_
 refine Qx 12 Qp rfl rfl rfl ?_
 refine Qr tt 2 rfl ?_
 refine Ye tt 2 [] Tryz.func109 rfl rfl rfl (My (a:=c) (b:=e) (hc) (he)) rfl rfl ?_
 refine Ye tt 0 [] qUk rfl rfl rfl (Rm (d:=(a.d*b.d)) (e:=(a.d*b.d)) (by assumption) (by assumption) (by omega) (by omega)) rfl rfl ?_
 refine Ye tt 2 [] qUk rfl rfl rfl (F7 (p:=Va c e) (d:=(a.d*b.d)*(a.d*b.d)) (L8 _ _) (qJg (by assumption) (by assumption)) (Qz (Wc hc he).1 (by omega)) (Xa (Z2 _ _) (by omega)) (by have:=(Wc hc he).2; omega)) rfl rfl ?_
 refine Ye tt 2 [] Tryz.func109 rfl rfl rfl (My (a:=a) (b:=b) (ha) (hb)) rfl rfl ?_
 refine Qw tt rfl ?_
 refine kl tt 0 [] qUk rfl rfl rfl (Rm (d:=(c.d*e.d)) (e:=(c.d*e.d)) (by assumption) (by assumption) (by omega) (by omega)) rfl rfl ?_
 refine kl tt 0 [] qUk rfl rfl rfl (F7 (p:=Va a b) (d:=(c.d*e.d)*(c.d*e.d)) (L8 _ _) (qJg (by assumption) (by assumption)) (Qz (Wc ha hb).1 (by omega)) (Xa (Z2 _ _) (by omega)) (by have:=(Wc ha hb).2; omega)) rfl rfl ?_
 refine kl tt 1 [] Tryz.func108 rfl rfl rfl (T3 (p:=(Xx (Va c e) ((a.d*b.d)*(a.d*b.d)))) (q:=(Xx (Va a b) ((c.d*e.d)*(c.d*e.d)))) (Qz (Xo (Wc hc he).1 (Ji _)) (by omega)) (Qz (Xo (Wc ha hb).1 (Ji _)) (by omega)) (Xa (Z6 _ _) (by have:=(Wc hc he).2; omega)) (Xa (Z6 _ _) (by have:=(Wc ha hb).2; omega))) rfl rfl ?_
 exact Xq tt [] rfl (rfl)
end Orr

namespace Orr
open Go
variable {P:Program} {ops:Array Oper} {n d:Nat} {rest:List Oper} {N:Sg→List OB→Prop} {L:Sg} {B:List OB} {ty:TypeId} {pos:String} {after:Array Edge}
theorem Qd5 {T E size len:Nat} {z:Value} {zs r:List LV} {ps:List (Nat×Operand)} {us:List (Nat×AV)} {ls:List (List LV)} (hu:∀ w,(underlying T).run P w=.ok (.slice E) w) (hs:∀ w,(Go.sizeOf E).run P w=.ok size w) (hz:∀ w,(zeroValue E).run P w=.ok z w)
    (hz1:zl z=some zs) (hz2:Nat.beq zs.length size=true) (hsz:Nat.blt 0 size=true) (hl:Nat.ble (len*size) 16777216=true) (hl0:Nat.blt 0 len=true) (hx:Qa7 L ps=some us) (hf:Mu (fun i=>some (i*size,size)) (zrep len zs) us=some r)
    (hc:Ty size len r=some ls) (hfr:No ls=true) (hd:Nat.blt d n=true) :
    AP P ops n { dst:=some d,op:=.buildSlice T len ps.toArray,type:=ty,pos:=pos,after:=after,guard:=none } d (.one (.frow ls)) L B:=by
  intro K Ob w0 w a Bs L' Fs h hL hB
  have hz2:=Fg hz2
  have hsz:0<size:=by rwa [Mc] at hsz
  have hl:=qXo hl
  have hl0:0<len:=by rwa [Mc] at hl0
  obtain ⟨vs,h1,h2,h3⟩:=Qae hL hx
  have hzr:=Lv (w:=w) (O:=Qy Ob Bs) hz1
  have hzl:=hzr.len
  obtain ⟨cells,h4,h5⟩:=Pg (w:=w) (O:=Qy Ob Bs) hf (Es hzr len) h2 h3
  have h6:=Ce h4
  obtain ⟨vss,rfl,h7,h8,h9⟩:=Cy h5 hc
  have hadd:=h.add (f:=⟨fun w O=>RReps w O vss ls,fun hle h=>h.keep hle⟩) h7
  refine V9 hadd h1 (fun w=>Vm (size:=size) (zs:=z.cells.toList) hu hs hz (by simp) (by rw [hzl]; exact hz2) hsz hl hl0 h6 w) hd fun g w' a' h'=>?_
  have h10:=h'.publish
  have h11:RReps w' _ vss ls:=h'.fact 0 rfl
  have h12:=h'
  rw [←qXh vss.flatten] at h12
  have hll:len≤16777216:=Xa (qYy len hsz) hl
  have h63:(2:Nat)^63=9223372036854775808:=by decide
  have h47:(2:Nat)^47=140737488355328:=by decide
  have key:=Tl (lo:=0) (len:=len) (c:=len) (o:=0) h12 (by rw [qXh]; exact h11) h8 (P6 hfr) (by omega) (Ji _) (by omega) (by omega) (fun _=>by simp)
  rw [qXf,Vh (by omega)] at key
  exact wpList_nil ⟨rfl,_,{ h10 with facts:=fun f hf=>h10.facts f (W0 _ hf) },(by
    have hll2:ls.length=len:=h9
    exact ⟨by rw [←hll2] at key ⊢; exact key,some ⟨g,0,none⟩,by rw [hll2]⟩)⟩
theorem Qte {K Ob:Nat→Prop} {w0 w:World} {a:Act} {L':List (Nat×Value)} {Fs:List Fact} {Bo Bs:List Y8} {r:Option (Nat×Nat)} {E sz lo len:Nat} {ls:List (List LV)} {v:Value}
    (h:St K Ob w0 w a n L' Fs (Bo++Bs)) (hb:OBRep w (Qy Ob (Bo++Bs)) (.row r E sz ls) Bo) (hv:XRep w (Qy Ob (Bo++Bs)) v (.orow r sz lo len)) (hlen:lo+len≤ls.length):∃ nss:List (List Value),RReps w (Qy Ob (Bo++Bs)) nss ((ls.drop lo).take len)∧Src w v sz len nss.flatten:=by
  rcases r with _ | ⟨g,c⟩
  · obtain ⟨_,rfl,rfl⟩:=hb
    obtain ⟨rfl,rfl,rfl⟩:=hv
    exact ⟨[],trivial,by simp,none,0,rfl,fun h=>absurd h (by simp)⟩
  · obtain ⟨h1,h2,h3,vss,ex,h4,rfl,h5,h6,h7⟩:=hb
    obtain ⟨h8,o,rfl,h9⟩:=hv
    have hall:=h4.all h2
    have hvl:vss.length=ls.length:=h4.len
    refine ⟨(vss.drop lo).take len,RReps.take len (RReps.drop lo h4),?_,_,_,rfl,fun hpos=>⟨g,o,rfl,fun q u hq=>?_⟩⟩
    · rw [Vp (sz:=sz) fun c hc=>hall c (Eg (N6 hc)),Uk,E5,Nm (by omega)]
    · have ha:o=lo*sz:=h9 (.inr (by omega))
      subst ha
      have htk:(vss.take lo).flatten.length=lo*sz:=by
        rw [Vp (sz:=sz) fun c hc=>hall c (N6 hc),Uk,Nm (by omega)]
      have hsp:vss.flatten=(vss.take lo).flatten++(((vss.drop lo).take len).flatten++(vss.drop (lo+len)).flatten):=by
        rw [←qJe,←qJe]
        congr 1
        rw [←List.drop_drop,qZk,qZk]
      rw [h.own_cell (i:=0) rfl]
      have hql:=(Wz.1 hq).1
      rw [hsp,N1,qXj (by rw [htk]; omega),htk,qJp,N1,qXa hql]
      exact hq
theorem Oq (i:Nat) {T E T2 E2 sz m2:Nat} {x y:Operand} {z:Value} {info:TypeInfo} {l ls lo2 ls2:List (List LV)} {r:Option (Nat×Nat)} {lo len:Nat} {B':List OB} {zs:List LV} (hu:∀ w,(underlying T).run P w=.ok (.slice E) w) (hu2:∀ w,(underlying T2).run P w=.ok (.slice E2) w) (hi':∀ w,(typeInfo E).run P w=.ok info w) (hb2:Nat.ble info.bytes 4096=true) (hb3:Nat.blt 0 info.bytes=true) (hs:∀ w,(Go.sizeOf E).run P w=.ok sz w)
    (hz:∀ w,(zeroValue E).run P w=.ok z w) (hz1:zl z=some zs) (hz2:Nat.beq zs.length sz=true) (hsz:Nat.blt 0 sz=true) (hi:Jg B i=some (.row r E sz ls,B')) (hx:Yf L x=some (.one (.frow l))) (hy:Yf L y=some (.one (.orow r sz lo len))) (hlen0:lo+len≤ls.length) (hl2:(ls.drop lo).take len=lo2) (hd:Nat.blt d n=true)
    (hw1:∀ c∈l,c.length=sz) (hfr1:∀ c∈l,∀ x∈c,x.free=true) (hw:∀ c∈lo2,c.length=sz) (hfr:∀ c∈lo2,∀ x∈c,x.free=true) (hk:0<len) (hm:l.length+len<8589934592) (hls:l++lo2=ls2) (hm2:l.length+len=m2)
    (k:∀ r',AW P ops n rest N ((d,.one (.orow r' sz 0 m2))::L) (.row r' E sz ls2::.row r E sz ls::B')) :
    AW P ops n ({ dst:=some d,op:=.call { callee:=.builtin .append,args := #[x,y],argTypes := #[T,T2] },type:=ty,pos:=pos,after:=after,guard:=none }::rest) N L B:=by
  intro K Ob w0 w a Q hs0 hQ
  obtain ⟨L',Bo,Bs,h,hL,hob,hB⟩:=hs0.front hi
  subst hls hm2
  rw [Mc] at hsz
  have e33:(2:Nat)^33=8589934592:=by decide
  have h48:(2:Nat)^48=281474976710656:=by decide
  obtain ⟨v,hv,hr0⟩:=Zq hL hx
  obtain ⟨hr,A0,rfl⟩:LRep w (Qy Ob (Bo++Bs)) v (.row l)∧∃ A,v=.slice A l.length l.length:=hr0
  obtain ⟨v2,hv2,hr2⟩:=Zq hL hy
  have hz2:=Fg hz2
  have hzl:=(Lv (w:=w) (O:=Qy Ob (Bo++Bs)) hz1).len
  have hr2:XRep w (Qy Ob (Bo++Bs)) v2 (.orow r sz lo len):=hr2
  obtain ⟨oss,ho,hold⟩:=Qo9 hr hw1
  obtain ⟨nss,hn,hsrc⟩:=Qte h hob hr2 hlen0
  rw [hl2] at hn
  have hl2l:lo2.length=len:=by rw [←hl2,Uk,E5]; omega
  have h2:=h.add (f:=⟨fun w O=>(∀ t x,lk L t=some x→∃ v,Z1 L' t=some v∧ARep w O v x)∧BsRep w O B' Bs∧OBRep w O (.row r E sz ls) Bo∧RReps w O oss l∧RReps w O nss lo2,fun hle h=>⟨Fn hle h.1,h.2.1.keep hle,h.2.2.1.keep hle,h.2.2.2.1.keep hle,h.2.2.2.2.keep hle⟩⟩) ⟨hL,hB,hob,ho,hn⟩
  obtain ⟨v',w',Bo',hr',ho',hst⟩:=Ig (P:=P) (v:=.slice A0 l.length l.length) (c:=l.length) (zs:=z.cells.toList) h2 hi' rfl hz (by simp) (by omega)
    (fun w' he=>Vn (hold.keep (w':=w') (fun p v hp=>by rw [show w'.cell? p=w.cell? p from by simp only [World.cell?,he]]; exact hp))) hsrc hold.1 (by omega)
  have hb2':=qXo hb2
  have hb3':0<info.bytes:=by rwa [Mc] at hb3
  have hbig:¬(Builtin.nextslicecap (l.length+len) l.length*info.bytes>2^48):=by
    have:=Sf (l.length+len) l.length (by omega)
    have h2:Builtin.nextslicecap (l.length+len) l.length*info.bytes≤(4*(l.length+len)+2048)*4096:=qXr this hb2'
    omega
  obtain ⟨A',c',rfl,hA'⟩:=hsrc.2
  have hlen:∀ w,(Builtin.lenOf (.slice A' len c')).run P w=.ok len w:=fun _=>rfl
  have hrun:(Builtin.append_ #[T,T2] ty #[.slice A0 l.length l.length,.slice A' len c']).run P w=.ok v' w':=by
    rw [←hr']
    have hroom:¬(l.length+len≤l.length):=by omega
    have hbb:¬(info.bytes=0):=by omega
    simp only [Builtin.append_,hu,hu2,hs,hlen,hi',Sem.run_bind,Sem.run_pure,Result.andThen_ok,qVl,qYw,qJh,hroom,if_false,qXg,false_or,hbb,and_false,hbig,qVm,if_true]
  have h':=hst.put v' hd
  obtain ⟨h4,h5,h5b,h6,h7⟩:=h'.fact 0 rfl
  obtain ⟨hcl,⟨rfl,hm0,rfl⟩ | ⟨g,c,ex,rfl,rfl,hl,hmc,hc63⟩⟩:=ho'
  · exact absurd hm0 (by omega)
  · refine Ym (w':=w') (v:=_) rfl (by simp [execOp,resolve,invoke,h.ev hv,h.ev hv2,builtin,hrun]; rfl) ?_
    have e1:oss.flatten++nss.flatten=(oss++nss).flatten:=by simp
    refine k (some (g,c)) _ _ _ _ _ _ (SA.of (Bo:=[_]) h'.noFacts (Ga h4 ?_) ?_ ⟨Bo,Bs,rfl,h5b,h5⟩) hQ
    · exact ⟨by omega,0,rfl,fun _=>by simp⟩
    · refine ⟨hsz,?_,?_,oss++nss,ex,h6.append h7,by rw [e1],by rw [←e1]; exact hl,by rw [H7,hl2l]; omega,hc63⟩
      · intro c hc
        rcases Yz.1 hc with hc | hc
        · exact hw1 c hc
        · exact hw c hc
      · intro c hc
        rcases Yz.1 hc with hc | hc
        · exact hfr1 c hc
        · exact hfr c hc
theorem In {T E T2 E2 sz:Nat} {x y:Operand} {info:TypeInfo} {l:List (List LV)} {r:Option (Nat×Nat)} {lo:Nat} (hu:∀ w,(underlying T).run P w=.ok (.slice E) w) (hu2:∀ w,(underlying T2).run P w=.ok (.slice E2) w) (hi':∀ w,(typeInfo E).run P w=.ok info w) (hs:∀ w,(Go.sizeOf E).run P w=.ok sz w)
    (hx:Yf L x=some (.one (.frow l))) (hy:Yf L y=some (.one (.orow r sz lo 0))) (hd:Nat.blt d n=true) (k:AW P ops n rest N ((d,.one (.row l))::L) B) :
    AW P ops n ({ dst:=some d,op:=.call { callee:=.builtin .append,args := #[x,y],argTypes := #[T,T2] },type:=ty,pos:=pos,after:=after,guard:=none }::rest) N L B:=by
  rintro K Ob w0 w a Q ⟨L',Bs,h,hL,hB⟩ hQ
  obtain ⟨v,hv,hr0⟩:=Zq hL hx
  obtain ⟨hr,A0,rfl⟩:LRep w (Qy Ob Bs) v (.row l)∧∃ A,v=.slice A l.length l.length:=hr0
  obtain ⟨v2,hv2,hr2⟩:=Zq hL hy
  have hr2:XRep w (Qy Ob Bs) v2 (.orow r sz lo 0):=hr2
  obtain ⟨A',c',rfl⟩:∃ A c,v2=.slice A 0 c:=by
    rcases r with _ | ⟨g,c⟩
    · obtain ⟨rfl,_,_⟩:=hr2; exact ⟨_,_,rfl⟩
    · obtain ⟨_,o,rfl,_⟩:=hr2; exact ⟨_,_,rfl⟩
  have hlen:∀ w,(Builtin.lenOf (.slice A' 0 c')).run P w=.ok 0 w:=fun _=>rfl
  have hcells:∀ w,(Builtin.firstCells sz 0 (.slice A' 0 c')).run P w=.ok #[] w:=fun w=>by
    have:=Vn (P:=P) (w:=w) (size:=sz) (m:=0) (x:=.slice A' 0 c') (news:=[]) ⟨by simp,A',c',rfl,fun h=>absurd h (by omega)⟩
    simpa using this
  have hrun:(Builtin.append_ #[T,T2] ty #[.slice A0 l.length l.length,.slice A' 0 c']).run P w=.ok (.slice A0 l.length l.length) w:=by
    cases A0 <;> simp [Builtin.append_,hu,hu2,hs,hlen,hi',hcells,Sem.run_bind,Sem.run_pure,Go.storeCells]
  refine Ym (w':=w) (v:=_) rfl (by simp [execOp,resolve,invoke,h.ev hv,h.ev hv2,builtin,hrun]; rfl) ?_
  exact k _ _ _ _ _ _ ⟨_,Bs,h.put _ hd,Ga hL (show ARep w _ _ (.one (.row l)) from hr),hB⟩ hQ
end Orr

namespace Orr
open Go
section
variable {α:Type} (lt:α→α→Bool)
def Hz (out:List α) (c:α):Nat→Nat
  | 0=>0
  |
   k+1=>match out[k]? with
   | some x=>if lt c x=true then Hz out c k else k+1
   | none=>k+1
def D3 (out:List α) (c:α):List α:=out.take (Hz lt out c out.length)++c::out.drop (Hz lt out c out.length)
def Xe (l:List α):List α:=l.foldl (D3 lt) []
end
variable {α:Type} {lt:α→α→Bool}
theorem Qeo {out:List α} {c x:α} {k:Nat} (h0:0<k) (hx:out[k-1]? = some x) (h:lt c x=true):Hz lt out c k=Hz lt out c (k-1):=by
  obtain ⟨j,rfl⟩:∃ j,k=j+1:=⟨k-1,by omega⟩
  have hx:out[j]? = some x:=hx
  simp only [Hz,hx,h,if_true]; rfl
theorem If {out:List α} {c x:α} {k:Nat} (h0:0<k) (hx:out[k-1]? = some x) (h:lt c x=false):Hz lt out c k=k:=by
  obtain ⟨j,rfl⟩:∃ j,k=j+1:=⟨k-1,by omega⟩
  have hx:out[j]? = some x:=hx
  simp [Hz,hx,h]
theorem Qol (out:List α) (c:α):(D3 lt out c).Perm (c::out):=by
  unfold D3
  exact (List.perm_middle).trans (by rw [qZk])
theorem Qjj (l:List α) (c:α):Xe lt (l++[c])=D3 lt (Xe lt l) c:=by simp [Xe,List.foldl_append]
theorem I3 {l:List α} {i:Nat} {c:α} (h:l[i]? = some c):Xe lt (l.take (i+1))=D3 lt (Xe lt (l.take i)) c:=by
  rw [qJa,h]; exact Qjj _ _
theorem Ip:∀ (l acc:List α),(l.foldl (D3 lt) acc).Perm (l++acc)
  | [],acc=>List.Perm.refl _
  |
   c::l,acc=>by
   simp only [qYl]
   exact (Ip l _).trans (((Qol acc c).append_left l).trans List.perm_middle)
theorem N3 (l:List α):(Xe lt l).Perm l:=by
  have:=Ip (lt:=lt) l []
  rwa [qXh] at this
theorem W6 (l:List α):(Xe lt l).length=l.length:=(N3 l).length_eq
theorem Mh {l:List α} {x:α}:x∈Xe lt l↔x∈l:=(N3 l).mem_iff
theorem Qgk {r:α→α→Prop} {out:List α} {c:α} (ht:∀ {a b c},r a b→r b c→r a c) (h1:∀ a,lt c a=true→r c a) (h2:∀ a,lt c a=false→r a c) (h:out.Pairwise r):(D3 lt out c).Pairwise r:=by
  have key:∀ k,k≤out.length→(∀ x∈out.drop k,r c x)→(∀ x∈out.drop (Hz lt out c k),r c x)∧∀ x∈out.take (Hz lt out c k),r x c:=by
    intro k
    induction k with
    | zero=>intro _ hd; exact ⟨by simpa [Hz] using hd,by simp [Hz]⟩
    |
     succ k ih =>
     intro hk hd
     have hx:out[k]? = some (out[k]'(by omega)):=Xv (by omega)
     cases hl:lt c (out[k]'(by omega)) with
     |
      true =>
      rw [Qeo (Nat.succ_pos k) hx hl]
      refine ih (by omega) fun x hx2=>?_
      rw [qZt (by omega)] at hx2
      rcases Vb.1 hx2 with rfl | hx2
      · exact h1 _ hl
      · exact hd x hx2
     |
      false =>
      rw [If (Nat.succ_pos k) hx hl]
      refine ⟨hd,fun x hx2=>?_⟩
      rw [List.take_succ_eq_append_getElem (by omega)] at hx2
      rcases Yz.1 hx2 with hx2 | hx2
      · have h3:out.Pairwise r:=h
        rw [←qZk k out,qYb] at h3
        refine ht (h3.2.2 x hx2 (out[k]'(by omega)) ?_) (h2 _ hl)
        rw [qZt (by omega)]; exact Ub ..
      · rw [qZw.1 hx2]; exact h2 _ hl
  obtain ⟨k1,k2⟩:=key out.length (Ji _) (by simp)
  have h3:out.Pairwise r:=h
  rw [←qZk (Hz lt out c out.length) out,qYb] at h3
  unfold D3
  rw [qYb,qXc]
  refine ⟨h3.1,⟨k1,h3.2.1⟩,fun x hx y hy=>?_⟩
  rcases Vb.1 hy with rfl | hy
  · exact k2 x hx
  · exact h3.2.2 x hx y hy
theorem Qep {r:α→α→Prop} (ht:∀ {a b c},r a b→r b c→r a c) (h1:∀ a b,lt a b=true→r a b) (h2:∀ a b,lt a b=false→r b a) (l:List α):(Xe lt l).Pairwise r:=by
  have:∀ (l acc:List α),acc.Pairwise r→(l.foldl (D3 lt) acc).Pairwise r:=by
    intro l
    induction l with
    | nil=>intro acc h; exact h
    | cons c l ih=>intro acc h; exact ih _ (Qgk ht (h1 c) (fun a=>h2 c a) h)
  exact this l [] List.Pairwise.nil
def Vt (a b:Pt):Bool:=decide (a.id<b.id)
def Qzp (l:List Pt):List Pt:=Xe Vt l
theorem Qel (l:List Pt):(Qzp l).Pairwise (fun a b=>a.id≤b.id):=Qep (lt:=Vt) (r:=fun a b=>a.id≤b.id) (fun h1 h2=>Int.le_trans h1 h2) (fun _ _ h=>qKe (of_decide_eq_true h)) (fun _ _ h=>by have:=of_decide_eq_false h; omega) l
end Orr
